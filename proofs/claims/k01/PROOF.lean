import PyProof.Rows.All
import Wide.All
import OpenK.AllK
import Wide.FinOn
import HandS.ForMost
import HandS.ForExc
import HandS.Evl
import HandS.Flow
import HandS.Wide
import HandS.WideBits
import HandS.Gcd
import HandS.IsInst
import HandS.Defaults
import HandS.Deep
import HandS.FStr
import HandS.Zip
import HandS.Rev
import HandS.Conv
import HandS.SortInts
import HandS.SortRule
import HandS.TupAny
import HandS.TupMul
import HandS.Walk
import HandS.MakeKwOnly
import HandS.Property
import HandS.ExcOwn
import KE.KExcSuper
import HandS.ExcInit
import HandS.Exc
import HandS.ExcIs
import HandS.ExcField
import HandS.HeadHook1
import HandS.Head0
import HandS.Head1
import HandS.Head2
import HandS.Head3
import HandS.HeadEnd
import HandS.HeadHook2
import HandS.Codes
import PySem.Challenge.RW_everyrain_k01_number_texts
set_option Elab.async false
set_option linter.all false
set_option maxRecDepth 100000
set_option maxHeartbeats 2000000
/-! A small language of data over the hand layer: D (immutable data), slots, an evaluator; its soundness stands in the next part. -/
namespace VI
open PySem L2 Evl
/-- data: what a value is, all the way down -/
inductive D where
  | non
  | bl (b : Bool)
  | int (i : Int)
  | str (x : Str)
  | tup (ds : List D)
  | lst (ds : List D)
  | ins (c : Nat) (fs : List (Str × D))
  /-- the script's list -/
  | scr (ds : List D)
/-! ### what a value stands for -/
mutual
inductive Rep (K : PySem.W.Frag) (cl : Nat → Addr) (H : Hp) : V → D → Prop
  | non : Rep K cl H .non .non
  | bl (b : Bool) : Rep K cl H (.bl b) (.bl b)
  | int (i : Int) : Rep K cl H (.int i) (.int i)
  | str (x : Str) : Rep K cl H (.str x) (.str x)
  | tup {a : Addr} {xs : List V} {ds : List D} : SqT K H a xs → Reps K cl H xs ds → Rep K cl H (.ref a) (.tup ds)
  | lst {a : Addr} {xs : List V} {ds : List D} : H a = some (.lst xs) → Reps K cl H xs ds → Rep K cl H (.ref a) (.lst ds)
  | scr {a : Addr} {xs : List V} {ds : List D} : SqL K H a xs → Reps K cl H xs ds → Rep K cl H (.ref a) (.scr ds)
  | ins {a : Addr} {c : Nat} {dx : Addr} {fs : List (Str × V)} {gs : List (Str × D)} : H a = some (.ins (cl c) dx fs) → RepF K cl H fs gs → Rep K cl H (.ref a) (.ins c gs)
inductive Reps (K : PySem.W.Frag) (cl : Nat → Addr) (H : Hp) : List V → List D → Prop
  | nil : Reps K cl H [] []
  | cons {v : V} {vs : List V} {d : D} {ds : List D} : Rep K cl H v d → Reps K cl H vs ds → Reps K cl H (v :: vs) (d :: ds)
inductive RepF (K : PySem.W.Frag) (cl : Nat → Addr) (H : Hp) : List (Str × V) → List (Str × D) → Prop
  | nil : RepF K cl H [] []
  | cons {n : Str} {v : V} {vs : List (Str × V)} {d : D} {ds : List (Str × D)} : Rep K cl H v d → RepF K cl H vs ds → RepF K cl H ((n, v) :: vs) ((n, d) :: ds)
end
section
variable {K : PySem.W.Frag} {cl : Nat → Addr} {H H' : Hp}
mutual
theorem Rep.mono (e : Ex H H') : ∀ (d : D) (v : V), Rep K cl H v d → Rep K cl H' v d
  | .non, _, h => by cases h; exact .non
  | .bl b, _, h => by cases h; exact .bl b
  | .int b, _, h => by cases h; exact .int b
  | .str b, _, h => by cases h; exact .str b
  | .tup ds, _, h => by
    cases h with
    | tup h1 h2 => exact .tup (ex_t e h1) (Reps.mono e ds _ h2)
  | .lst ds, _, h => by
    cases h with
    | lst h1 h2 => exact .lst (e _ _ h1) (Reps.mono e ds _ h2)
  | .scr ds, _, h => by
    cases h with
    | scr h1 h2 => exact .scr (ex_l e h1) (Reps.mono e ds _ h2)
  | .ins c gs, _, h => by
    cases h with
    | ins h1 h2 => exact .ins (e _ _ h1) (RepF.mono e gs _ h2)
theorem Reps.mono (e : Ex H H') : ∀ (ds : List D) (vs : List V), Reps K cl H vs ds → Reps K cl H' vs ds
  | [], _, h => by cases h; exact .nil
  | d :: ds, _, h => by
    cases h with
    | cons h1 h2 => exact .cons (Rep.mono e d _ h1) (Reps.mono e ds _ h2)
theorem RepF.mono (e : Ex H H') : ∀ (ds : List (Str × D)) (vs : List (Str × V)), RepF K cl H vs ds → RepF K cl H' vs ds
  | [], _, h => by cases h; exact .nil
  | (n, d) :: ds, _, h => by
    cases h with
    | cons h1 h2 => exact .cons (Rep.mono e d _ h1) (RepF.mono e ds _ h2)
end
theorem Reps.len : ∀ {vs : List V} {ds : List D}, Reps K cl H vs ds → vs.length = ds.length
  | _, _, .nil => rfl
  | _, _, .cons _ h => by rw [List.length_cons, List.length_cons, h.len]
theorem Reps.get : ∀ {vs : List V} {ds : List D} {i : Nat} {d : D}, Reps K cl H vs ds → ds[i]? = some d → ∃ v, vs[i]? = some v ∧ Rep K cl H v d
  | _, _, _, _, .nil, e => by simp at e
  | _, _, 0, _, .cons r _, e => by simp at e; subst e; exact ⟨_, rfl, r⟩
  | _, _, i + 1, _, .cons _ t, e => by
    obtain ⟨v, h1, h2⟩ := Reps.get (i := i) t (by simpa using e)
    exact ⟨v, by simpa using h1, h2⟩
theorem Reps.get' : ∀ {vs : List V} {ds : List D} {i : Nat} {v : V}, Reps K cl H vs ds → vs[i]? = some v → ∃ d, ds[i]? = some d ∧ Rep K cl H v d
  | _, _, _, _, .nil, e => by simp at e
  | _, _, 0, _, .cons r _, e => by simp at e; subst e; exact ⟨_, rfl, r⟩
  | _, _, i + 1, _, .cons _ t, e => by
    obtain ⟨v, h1, h2⟩ := Reps.get' (i := i) t (by simpa using e)
    exact ⟨v, by simpa using h1, h2⟩
theorem Reps.append : ∀ {vs ws : List V} {ds es : List D}, Reps K cl H vs ds → Reps K cl H ws es → Reps K cl H (vs ++ ws) (ds ++ es)
  | _, _, _, _, .nil, s => s
  | _, _, _, _, .cons r t, s => .cons r (Reps.append t s)
theorem Reps.snoc {vs : List V} {ds : List D} {v : V} {d : D} (h : Reps K cl H vs ds) (r : Rep K cl H v d) : Reps K cl H (vs ++ [v]) (ds ++ [d]) := h.append (.cons r .nil)
theorem Reps.rep {vs : List V} {ds : List D} (h : Reps K cl H vs ds) : ∀ n : Nat, Reps K cl H (List.replicate n vs).flatten (List.replicate n ds).flatten
  | 0 => .nil
  | n + 1 => by
    rw [List.replicate_succ, List.replicate_succ, List.flatten_cons, List.flatten_cons]
    exact h.append (Reps.rep h n)
theorem Reps.dropLast : ∀ {vs : List V} {ds : List D}, Reps K cl H vs ds → Reps K cl H vs.dropLast ds.dropLast
  | _, _, .nil => .nil
  | _, _, .cons r .nil => .nil
  | _, _, .cons r (.cons r' t) => .cons r (Reps.dropLast (.cons r' t))
theorem Reps.reverse : ∀ {vs : List V} {ds : List D}, Reps K cl H vs ds → Reps K cl H vs.reverse ds.reverse
  | _, _, .nil => .nil
  | _, _, .cons r t => by
    rw [List.reverse_cons, List.reverse_cons]
    exact t.reverse.snoc r
theorem Reps.set : ∀ {vs : List V} {ds : List D} (i : Nat) {v : V} {d : D}, Reps K cl H vs ds → Rep K cl H v d → Reps K cl H (vs.set i v) (ds.set i d)
  | _, _, _, _, _, .nil, _ => .nil
  | _, _, 0, _, _, .cons _ t, r => .cons r t
  | _, _, i + 1, _, _, .cons r' t, r => .cons r' (Reps.set i t r)
theorem Reps.take : ∀ {vs : List V} {ds : List D} (n : Nat), Reps K cl H vs ds → Reps K cl H (vs.take n) (ds.take n)
  | _, _, 0, _ => .nil
  | _, _, _ + 1, .nil => .nil
  | _, _, n + 1, .cons r t => .cons r (Reps.take n t)
theorem Reps.drop : ∀ {vs : List V} {ds : List D} (n : Nat), Reps K cl H vs ds → Reps K cl H (vs.drop n) (ds.drop n)
  | _, _, 0, r => r
  | _, _, _ + 1, .nil => .nil
  | _, _, n + 1, .cons r t => Reps.drop n t
end
/-! ### slots -/
/-- a part of a tree of our own: data, or a list of our own -/
inductive Cel where
  | d (v : D)
  | l (ds : List D)
inductive Slot where
  | no
  /-- a value that nobody changes -/
  | v (d : D)
  /-- a list of our own -/
  | l (ds : List D)
  /-- a list of our own with lists of our own in it -/
  | t (cs : List Cel)
  /-- an instance of our own -/
  | o (c : Nat) (fs : List (Str × Cel))
def Cel.dat : Cel → D
  | .d v => v
  | .l ds => .lst ds
/-- an own thing as data -/
def frzS : Slot → D
  | .no => .non
  | .v d => d
  | .l ds => .lst ds
  | .t cs => .lst (cs.map Cel.dat)
  | .o c fs => .ins c (fs.map fun p => (p.1, p.2.dat))
def isOwn : Slot → Bool
  | .l _ => true
  | .t _ => true
  | .o _ _ => true
  | _ => false
def isVal : Slot → Bool
  | .v _ => true
  | _ => false
abbrev Env := List Slot
def Env.at (ρ : Env) (i : Nat) : Slot := ρ.getD i .no
def sAt (σ : L2.St) (i : Nat) : Option V := (σ[i]?).join
/-- the exception that an except suite holds: its name's slot, its class, its address, its dict, its fields -/
structure XA where
  i : Nat
  c : Nat
  a : Addr
  d : Addr
  w : List (Str × D)
/-- where the classes stand; the exception at hand -/
structure Cl where
  fn : Nat → Addr
  sp : Str → Value
  xa : Option XA
instance : Coe Cl (Nat → Addr) := ⟨Cl.fn⟩
structure Par where
  K : PySem.W.Frag
  cl : Cl
  /-- what must stay as it is -/
  B : Hp
  /-- what was data at the entry -/
  Hi0 : Hp
  /-- the parameters that are things of the caller's own -/
  pin : List (Nat × Addr)
/-- the parts of a tree, and where its lists stand -/
inductive Cels (K : PySem.W.Frag) (cl : Nat → Addr) (Hi H : Hp) : List V → List Cel → List Addr → Prop
  | nil : Cels K cl Hi H [] [] []
  | d {v : V} {d : D} {vs : List V} {cs : List Cel} {as : List Addr} : Rep K cl Hi v d → Cels K cl Hi H vs cs as → Cels K cl Hi H (v :: vs) (.d d :: cs) as
  | l {a : Addr} {xs vs : List V} {ds : List D} {cs : List Cel} {as : List Addr} : H a = some (.lst xs) → Reps K cl Hi xs ds → Cels K cl Hi H vs cs as → Cels K cl Hi H (.ref a :: vs) (.l ds :: cs) (a :: as)
inductive CelF (K : PySem.W.Frag) (cl : Nat → Addr) (Hi H : Hp) : List (Str × V) → List (Str × Cel) → List Addr → Prop
  | nil : CelF K cl Hi H [] [] []
  | d {n : Str} {v : V} {d : D} {vs : List (Str × V)} {cs : List (Str × Cel)} {as : List Addr} : Rep K cl Hi v d → CelF K cl Hi H vs cs as → CelF K cl Hi H ((n, v) :: vs) ((n, .d d) :: cs) as
  | l {n : Str} {a : Addr} {xs : List V} {vs : List (Str × V)} {ds : List D} {cs : List (Str × Cel)} {as : List Addr} : H a = some (.lst xs) → Reps K cl Hi xs ds → CelF K cl Hi H vs cs as → CelF K cl Hi H ((n, .ref a) :: vs) ((n, .l ds) :: cs) (a :: as)
def SlotOk (P : Par) (Hi H : Hp) (ov : Option V) : Slot → List Addr → Prop
  | .no, A => A = []
  | .v d, A => A = [] ∧ ∃ v, ov = some v ∧ Rep P.K P.cl Hi v d
  | .l ds, A => ∃ a vs, A = [a] ∧ ov = some (.ref a) ∧ H a = some (.lst vs) ∧ Reps P.K P.cl.fn Hi vs ds
  | .t cs, A => ∃ a vs as, A = a :: as ∧ ov = some (.ref a) ∧ H a = some (.lst vs) ∧ Cels P.K P.cl.fn Hi H vs cs as
  | .o c fs, A => ∃ a dx ws as, A = a :: as ∧ ov = some (.ref a) ∧ H a = some (.ins (P.cl.fn c) dx ws) ∧ CelF P.K P.cl.fn Hi H ws fs as
structure RelA (P : Par) (io : List Nat) (Hi H : Hp) (σ : L2.St) (ρ : Env) (A : Nat → List Addr) : Prop where
  b : Ex P.B H
  i : Ex Hi H
  i0 : Ex P.Hi0 Hi
  fr : ∀ p, P.B p ≠ none → Hi p ≠ none → P.Hi0 p ≠ none
  len : σ.length = ρ.length
  sl : ∀ i, SlotOk P Hi H (sAt σ i) (ρ.at i) (A i)
  ow : ∀ i, ∀ a ∈ A i, Hi a = none ∧ P.B a = none
  nd : ∀ i, (A i).Nodup
  dj : ∀ i j, i ≠ j → ∀ a ∈ A i, a ∉ A j
  pn : ∀ p ∈ P.pin, sAt σ p.1 = some (.ref p.2) ∧ p.1 ∈ io
  xo : ∀ z, P.cl.xa = some z → (z.i, z.a) ∈ P.pin ∧ ∃ fs, P.Hi0 z.d = some (.xd fs) ∧ RepF P.K P.cl P.Hi0 fs z.w
def Rel (P : Par) (io : List Nat) (Hi H : Hp) (σ : L2.St) (ρ : Env) : Prop := ∃ A, RelA P io Hi H σ ρ A
section
variable {K : PySem.W.Frag} {cl : Nat → Addr} {Hi Hi' H H' : Hp}
theorem Cels.mono (e : Ex Hi Hi') : ∀ {vs : List V} {cs : List Cel} {as : List Addr}, Cels K cl Hi H vs cs as → (∀ a ∈ as, ∀ o, H a = some o → H' a = some o) → Cels K cl Hi' H' vs cs as
  | _, _, _, .nil, _ => .nil
  | _, _, _, .d r t, k => .d (r.mono e) (t.mono e k)
  | _, _, _, .l h r t, k => .l (k _ List.mem_cons_self _ h) (r.mono e) (t.mono e fun a ha => k a (List.mem_cons_of_mem _ ha))
theorem Cels.there : ∀ {vs : List V} {cs : List Cel} {as : List Addr}, Cels K cl Hi H vs cs as → ∀ a ∈ as, ∃ xs, H a = some (.lst xs)
  | _, _, _, .nil, _, h => nomatch h
  | _, _, _, .d _ t, a, h => t.there a h
  | _, _, _, .l h _ t, a, q => by
    rcases List.mem_cons.mp q with e | q
    · subst e; exact ⟨_, h⟩
    · exact t.there a q
theorem Cels.len : ∀ {vs : List V} {cs : List Cel} {as : List Addr}, Cels K cl Hi H vs cs as → vs.length = cs.length
  | _, _, _, .nil => rfl
  | _, _, _, .d _ t => congrArg (· + 1) t.len
  | _, _, _, .l _ _ t => congrArg (· + 1) t.len
theorem Cels.frz (e : Ex Hi Hi') : ∀ {vs : List V} {cs : List Cel} {as : List Addr}, Cels K cl Hi H vs cs as → (∀ a ∈ as, ∀ o, H a = some o → Hi' a = some o) → Reps K cl Hi' vs (cs.map Cel.dat)
  | _, _, _, .nil, _ => .nil
  | _, _, _, .d r t, k => .cons (r.mono e) (t.frz e k)
  | _, _, _, .l h r t, k => .cons (.lst (k _ List.mem_cons_self _ h) (r.mono e)) (t.frz e fun a ha => k a (List.mem_cons_of_mem _ ha))
theorem CelF.mono (e : Ex Hi Hi') : ∀ {vs : List (Str × V)} {cs : List (Str × Cel)} {as : List Addr}, CelF K cl Hi H vs cs as → (∀ a ∈ as, ∀ o, H a = some o → H' a = some o) → CelF K cl Hi' H' vs cs as
  | _, _, _, .nil, _ => .nil
  | _, _, _, .d r t, k => .d (r.mono e) (t.mono e k)
  | _, _, _, .l h r t, k => .l (k _ List.mem_cons_self _ h) (r.mono e) (t.mono e fun a ha => k a (List.mem_cons_of_mem _ ha))
theorem CelF.there : ∀ {vs : List (Str × V)} {cs : List (Str × Cel)} {as : List Addr}, CelF K cl Hi H vs cs as → ∀ a ∈ as, ∃ xs, H a = some (.lst xs)
  | _, _, _, .nil, _, h => nomatch h
  | _, _, _, .d _ t, a, h => t.there a h
  | _, _, _, .l h _ t, a, q => by
    rcases List.mem_cons.mp q with e | q
    · subst e; exact ⟨_, h⟩
    · exact t.there a q
theorem CelF.frz (e : Ex Hi Hi') : ∀ {vs : List (Str × V)} {cs : List (Str × Cel)} {as : List Addr}, CelF K cl Hi H vs cs as → (∀ a ∈ as, ∀ o, H a = some o → Hi' a = some o) → RepF K cl Hi' vs (cs.map fun p => (p.1, p.2.dat))
  | _, _, _, .nil, _ => .nil
  | _, _, _, .d r t, k => .cons (r.mono e) (t.frz e k)
  | _, _, _, .l h r t, k => .cons (.lst (k _ List.mem_cons_self _ h) (r.mono e)) (t.frz e fun a ha => k a (List.mem_cons_of_mem _ ha))
end
section
variable {P : Par} {io : List Nat} {Hi Hi' H H' : Hp} {σ : L2.St} {ρ : Env} {A : Nat → List Addr}
theorem SlotOk.mono {ov : Option V} {s : Slot} {l : List Addr} (e : Ex Hi Hi') (k : ∀ a ∈ l, ∀ o, H a = some o → H' a = some o) (h : SlotOk P Hi H ov s l) : SlotOk P Hi' H' ov s l := by
  cases s with
  | no => exact h
  | v d =>
    obtain ⟨h1, v, h2, h3⟩ := h
    exact ⟨h1, v, h2, h3.mono e⟩
  | l ds =>
    obtain ⟨a, vs, h1, h2, h3, h4⟩ := h
    subst h1
    exact ⟨a, vs, rfl, h2, k a (List.mem_singleton.mpr rfl) _ h3, h4.mono e⟩
  | t cs =>
    obtain ⟨a, vs, as, h1, h2, h3, h4⟩ := h
    subst h1
    exact ⟨a, vs, as, rfl, h2, k a List.mem_cons_self _ h3, h4.mono e fun b hb => k b (List.mem_cons_of_mem _ hb)⟩
  | o c fs =>
    obtain ⟨a, dx, ws, as, h1, h2, h3, h4⟩ := h
    subst h1
    exact ⟨a, dx, ws, as, rfl, h2, k a List.mem_cons_self _ h3, h4.mono e fun b hb => k b (List.mem_cons_of_mem _ hb)⟩
/-- what is tracked is there: a list or an instance -/
theorem SlotOk.there {ov : Option V} {s : Slot} {l : List Addr} (h : SlotOk P Hi H ov s l) : ∀ a ∈ l, (∃ xs, H a = some (.lst xs)) ∨ ∃ C dx ws, H a = some (.ins C dx ws) := by
  intro b hb
  cases s with
  | no => have h' : l = [] := h; rw [h'] at hb; cases hb
  | v d => rw [h.1] at hb; cases hb
  | l ds =>
    obtain ⟨a, vs, h1, h2, h3, h4⟩ := h
    subst h1
    rw [List.mem_singleton.mp hb]
    exact .inl ⟨vs, h3⟩
  | t cs =>
    obtain ⟨a, vs, as, h1, h2, h3, h4⟩ := h
    subst h1
    rcases List.mem_cons.mp hb with e | q
    · rw [e]; exact .inl ⟨vs, h3⟩
    · exact .inl (h4.there b q)
  | o c fs =>
    obtain ⟨a, dx, ws, as, h1, h2, h3, h4⟩ := h
    subst h1
    rcases List.mem_cons.mp hb with e | q
    · rw [e]; exact .inr ⟨_, dx, ws, h3⟩
    · exact .inl (h4.there b q)
theorem SlotOk.isThere {ov : Option V} {s : Slot} {l : List Addr} (h : SlotOk P Hi H ov s l) {a : Addr} (ha : a ∈ l) : ∃ o, H a = some o := by
  rcases h.there a ha with ⟨_, e⟩ | ⟨_, _, _, e⟩ <;> exact ⟨_, e⟩
theorem SlotOk.root {ov : Option V} {s : Slot} {l : List Addr} (h : SlotOk P Hi H ov s l) (ho : isOwn s = true) : ∃ a as, l = a :: as ∧ ov = some (.ref a) := by
  cases s with
  | no => cases ho
  | v d => cases ho
  | l ds =>
    obtain ⟨a, vs, h1, h2, h3, h4⟩ := h
    exact ⟨a, [], h1, h2⟩
  | t cs =>
    obtain ⟨a, vs, as, h1, h2, h3, h4⟩ := h
    exact ⟨a, as, h1, h2⟩
  | o c fs =>
    obtain ⟨a, dx, ws, as, h1, h2, h3, h4⟩ := h
    exact ⟨a, as, h1, h2⟩
theorem SlotOk.nown {ov : Option V} {s : Slot} {l : List Addr} (h : SlotOk P Hi H ov s l) (ho : isOwn s = false) : l = [] := by
  cases s with
  | no => exact h
  | v d => exact h.1
  | l ds => cases ho
  | t cs => cases ho
  | o c fs => cases ho
/-- an own thing as data, where all of its lists are data -/
theorem SlotOk.dat {ov : Option V} {s : Slot} {l : List Addr} (e : Ex Hi Hi') (k : ∀ a ∈ l, ∀ o, H a = some o → Hi' a = some o) (ho : s ≠ .no) (h : SlotOk P Hi H ov s l) : ∃ v, ov = some v ∧ Rep P.K P.cl Hi' v (frzS s) := by
  cases s with
  | no => exact absurd rfl ho
  | v d =>
    obtain ⟨h1, v, h2, h3⟩ := h
    exact ⟨v, h2, h3.mono e⟩
  | l ds =>
    obtain ⟨a, vs, h1, h2, h3, h4⟩ := h
    subst h1
    exact ⟨_, h2, .lst (k a (List.mem_singleton.mpr rfl) _ h3) (h4.mono e)⟩
  | t cs =>
    obtain ⟨a, vs, as, h1, h2, h3, h4⟩ := h
    subst h1
    exact ⟨_, h2, .lst (k a List.mem_cons_self _ h3) (h4.frz e fun b hb => k b (List.mem_cons_of_mem _ hb))⟩
  | o c fs =>
    obtain ⟨a, dx, ws, as, h1, h2, h3, h4⟩ := h
    subst h1
    exact ⟨_, h2, .ins (k a List.mem_cons_self _ h3) (h4.frz e fun b hb => k b (List.mem_cons_of_mem _ hb))⟩
/-- THE STEP: data grows, what is tracked and no data stays, none of it becomes data -/
theorem RelA.step (R : RelA P io Hi H σ ρ A) (e : Ex Hi Hi') (i' : Ex Hi' H') (k : ∀ a o, H a = some o → Hi a = none → H' a = some o) (z : ∀ a, H a ≠ none → Hi a = none → Hi' a = none) : RelA P io Hi' H' σ ρ A where
  b := fun a o h => by
    have h1 := R.b a o h
    cases q : Hi a with
    | none => exact k a o h1 q
    | some u =>
      have h2 := R.i a u q
      rw [h1] at h2
      rw [h2]
      exact i' a u (e a u q)
  i := i'
  i0 := fun a o h => e a o (R.i0 a o h)
  fr := fun p h1 h2 => by
    cases q : Hi p with
    | none =>
      have h3 : H p ≠ none := fun w => by
        cases q2 : P.B p with
        | none => exact h1 q2
        | some o =>
          rw [R.b p o q2] at w
          cases w
      exact absurd (z p h3 q) h2
    | some u => exact R.fr p h1 (by rw [q]; exact fun w => nomatch w)
  len := R.len
  sl := fun j => (R.sl j).mono e fun a ha o ho => k a o ho (R.ow j a ha).1
  ow := fun j a ha => by
    have h0 := R.ow j a ha
    obtain ⟨o, ho⟩ := (R.sl j).isThere ha
    exact ⟨z a (by rw [ho]; exact fun w => nomatch w) h0.1, h0.2⟩
  nd := R.nd
  dj := R.dj
  pn := R.pn
  xo := R.xo
theorem Rel.step (R : Rel P io Hi H σ ρ) (e : Ex Hi Hi') (i' : Ex Hi' H') (k : ∀ a o, H a = some o → Hi a = none → H' a = some o) (z : ∀ a, H a ≠ none → Hi a = none → Hi' a = none) : Rel P io Hi' H' σ ρ := by
  obtain ⟨A, R⟩ := R
  exact ⟨A, R.step e i' k z⟩
theorem Rel.ex (R : Rel P io Hi H σ ρ) : Ex Hi H := by
  obtain ⟨A, R⟩ := R
  exact R.i
theorem Rel.hfree (R : Rel P io Hi H σ ρ) {p : Addr} (h : H p = none) : Hi p = none := fresh_back R.ex h
/-- a new thing that is data at once -/
theorem Rel.newD (R : Rel P io Hi H σ ρ) {p : Addr} {o : HO} (h : H p = none) : Rel P io (upd Hi p o) (upd H p o) σ ρ := by
  refine R.step (Ex.new (R.hfree h)) (fun a u e => ?_) (fun a u e n => ?_) (fun a n e => ?_)
  · by_cases q : a = p
    · subst q; rw [upd_same] at e ⊢; exact e
    · rw [upd_ne q] at e ⊢; exact R.ex a u e
  · rw [upd_ne (ne_of_none e h)]; exact e
  · rw [upd_ne]
    · exact e
    · intro q; subst q; exact n h
/-- a new thing of our own -/
theorem Rel.newO (R : Rel P io Hi H σ ρ) {p : Addr} {o : HO} (h : H p = none) : Rel P io Hi (upd H p o) σ ρ :=
  R.step (Ex.refl _) (fun a u e => Ex.new h a u (R.ex a u e)) (fun a u e n => Ex.new h a u e) (fun _ _ e => e)
theorem sAt_set {σ : L2.St} {i j : Nat} {x : Option V} (hi : i < σ.length) : sAt (σ.set i x) j = if j = i then x else sAt σ j := by
  unfold sAt
  by_cases e : j = i
  · subst e
    rw [if_pos rfl, List.getElem?_set_self hi]
    cases x <;> rfl
  · rw [if_neg e, List.getElem?_set_ne (Ne.symm e)]
theorem at_set {ρ : Env} {i j : Nat} {x : Slot} (hi : i < ρ.length) : Env.at (ρ.set i x) j = if j = i then x else ρ.at j := by
  unfold Env.at
  by_cases e : j = i
  · subst e
    rw [if_pos rfl, List.getD_eq_getElem?_getD, List.getElem?_set_self hi]
    rfl
  · rw [if_neg e, List.getD_eq_getElem?_getD, List.getD_eq_getElem?_getD, List.getElem?_set_ne (Ne.symm e)]
/-- a slot is stored: data -/
theorem Rel.setV (R : Rel P io Hi H σ ρ) {i : Nat} {v : V} {d : D} (hi : i < σ.length) (hn : i ∉ io) (r : Rep P.K P.cl Hi v d) : Rel P io Hi H (σ.set i (some v)) (ρ.set i (.v d)) := by
  obtain ⟨A, R⟩ := R
  have hi' : i < ρ.length := by rw [← R.len]; exact hi
  refine ⟨fun j => if j = i then [] else A j, R.b, R.i, R.i0, R.fr, by rw [List.length_set, List.length_set]; exact R.len, fun j => ?_, fun j a ha => ?_, fun j => ?_, fun j k hjk a ha => ?_, fun p hp => ?_, R.xo⟩
  · rw [sAt_set hi, at_set hi']
    by_cases e : j = i
    · rw [if_pos e, if_pos e, if_pos e]; exact ⟨rfl, v, rfl, r⟩
    · rw [if_neg e, if_neg e, if_neg e]; exact R.sl j
  · skip
    by_cases e : j = i
    · rw [if_pos e] at ha; cases ha
    · rw [if_neg e] at ha; exact R.ow j a ha
  · skip
    by_cases e : j = i
    · rw [if_pos e]; exact List.nodup_nil
    · rw [if_neg e]; exact R.nd j
  · skip
    by_cases e : j = i
    · rw [if_pos e] at ha; cases ha
    · rw [if_neg e] at ha
      by_cases e' : k = i
      · rw [if_pos e']; exact List.not_mem_nil
      · rw [if_neg e']; exact R.dj j k hjk a ha
  · obtain ⟨h1, h2⟩ := R.pn p hp
    refine ⟨?_, h2⟩
    rw [sAt_set hi, if_neg]
    · exact h1
    · intro e; rw [e] at h2; exact hn h2
/-- .. a list of our own, at an address that is no slot's -/
theorem RelA.setL (R : RelA P io Hi H σ ρ A) {i : Nat} {a : Addr} {vs : List V} {ds : List D} (hi : i < σ.length) (hn : i ∉ io) (ho : H a = some (.lst vs)) (hz : Hi a = none) (hb : P.B a = none) (hf : ∀ j, a ∉ A j) (r : Reps P.K P.cl.fn Hi vs ds) :
    Rel P io Hi H (σ.set i (some (.ref a))) (ρ.set i (.l ds)) := by
  have hi' : i < ρ.length := by rw [← R.len]; exact hi
  refine ⟨fun j => if j = i then [a] else A j, R.b, R.i, R.i0, R.fr, by rw [List.length_set, List.length_set]; exact R.len, fun j => ?_, fun j b ha => ?_, fun j => ?_, fun j k hjk b ha => ?_, fun p hp => ?_, R.xo⟩
  · rw [sAt_set hi, at_set hi']
    by_cases e : j = i
    · rw [if_pos e, if_pos e, if_pos e]; exact ⟨a, vs, rfl, rfl, ho, r⟩
    · rw [if_neg e, if_neg e, if_neg e]; exact R.sl j
  · skip
    by_cases e : j = i
    · rw [if_pos e] at ha
      have e2 := List.mem_singleton.mp ha
      rw [e2]; exact ⟨hz, hb⟩
    · rw [if_neg e] at ha; exact R.ow j b ha
  · skip
    by_cases e : j = i
    · rw [if_pos e]; exact List.nodup_cons.mpr ⟨List.not_mem_nil, List.nodup_nil⟩
    · rw [if_neg e]; exact R.nd j
  · skip
    by_cases e : j = i
    · rw [if_pos e] at ha
      have e2 := List.mem_singleton.mp ha
      have e' : ¬ k = i := fun q => hjk (e.trans q.symm)
      rw [if_neg e', e2]; exact hf k
    · rw [if_neg e] at ha
      by_cases e' : k = i
      · rw [if_pos e']
        intro q
        have e2 := List.mem_singleton.mp q
        rw [e2] at ha
        exact hf j ha
      · rw [if_neg e']; exact R.dj j k hjk b ha
  · obtain ⟨h1, h2⟩ := R.pn p hp
    refine ⟨?_, h2⟩
    rw [sAt_set hi, if_neg]
    · exact h1
    · intro e; rw [e] at h2; exact hn h2
/-- what a slot of our own is -/
theorem RelA.own (R : RelA P io Hi H σ ρ A) {i : Nat} {ds : List D} (h : ρ.at i = .l ds) : ∃ a vs, A i = [a] ∧ sAt σ i = some (.ref a) ∧ H a = some (.lst vs) ∧ Reps P.K P.cl.fn Hi vs ds ∧ Hi a = none ∧ P.B a = none := by
  have h1 := R.sl i
  rw [h] at h1
  obtain ⟨a, vs, h2, h3, h4, h5⟩ := h1
  obtain ⟨h6, h7⟩ := R.ow i a (by rw [h2]; exact List.mem_singleton.mpr rfl)
  exact ⟨a, vs, h2, h3, h4, h5, h6, h7⟩
theorem Rel.val (R : Rel P io Hi H σ ρ) {i : Nat} {d : D} (h : ρ.at i = .v d) : ∃ v, σ[i]? = some (some v) ∧ Rep P.K P.cl Hi v d := by
  obtain ⟨A, R⟩ := R
  have h1 := R.sl i
  rw [h] at h1
  obtain ⟨_, v, h2, h3⟩ := h1
  refine ⟨v, ?_, h3⟩
  unfold sAt at h2
  cases q : σ[i]? with
  | none => rw [q] at h2; cases h2
  | some x =>
    rw [q] at h2
    have h2' : x = some v := h2
    rw [h2']
theorem sAt_some {σ : L2.St} {i : Nat} {v : V} (h : sAt σ i = some v) : σ[i]? = some (some v) := by
  unfold sAt at h
  cases q : σ[i]? with
  | none => rw [q] at h; cases h
  | some x =>
    rw [q] at h
    have h2' : x = some v := h
    rw [h2']
theorem at_lt {ρ : Env} {i : Nat} (h : ρ.at i ≠ .no) : i < ρ.length := by
  by_cases q : i < ρ.length
  · exact q
  · exfalso
    apply h
    unfold Env.at
    rw [List.getD_eq_getElem?_getD, List.getElem?_eq_none_iff.mpr (by omega)]
    rfl
/-- our own list is changed in place -/
theorem Rel.mutL (R : Rel P io Hi H σ ρ) {i : Nat} {ds ds' : List D} (h : ρ.at i = .l ds) : ∃ a vs, σ[i]? = some (some (.ref a)) ∧ H a = some (.lst vs) ∧ Reps P.K P.cl.fn Hi vs ds ∧
    ∀ vs', Reps P.K P.cl Hi vs' ds' → Rel P io Hi (upd H a (.lst vs')) σ (ρ.set i (.l ds')) := by
  obtain ⟨A, R⟩ := R
  obtain ⟨a, vs, h1, h2, h3, h4, h5, h6⟩ := R.own h
  have hi' : i < ρ.length := at_lt (by rw [h]; exact fun w => nomatch w)
  refine ⟨a, vs, sAt_some h2, h3, h4, fun vs' r => ⟨A, ⟨fun b o e => ?_, fun b o e => ?_, R.i0, R.fr, by rw [List.length_set]; exact R.len, fun j => ?_, R.ow, R.nd, R.dj, R.pn, R.xo⟩⟩⟩
  · rw [upd_ne]
    · exact R.b b o e
    · intro q; subst q; rw [h6] at e; cases e
  · rw [upd_ne]
    · exact R.i b o e
    · intro q; subst q; rw [h5] at e; cases e
  · rw [at_set hi']
    by_cases e : j = i
    · rw [if_pos e, e]
      exact ⟨a, vs', h1, h2, upd_same, r⟩
    · rw [if_neg e]
      refine (R.sl j).mono (Ex.refl _) fun b hb o ho => ?_
      rw [upd_ne]
      · exact ho
      · intro q
        subst q
        exact R.dj j i e b hb (by rw [h1]; exact List.mem_singleton.mpr rfl)
/-- our own list becomes data -/
theorem Rel.frz (R : Rel P io Hi H σ ρ) {i : Nat} {ds : List D} (h : ρ.at i = .l ds) : ∃ a vs, σ[i]? = some (some (.ref a)) ∧ H a = some (.lst vs) ∧ Hi a = none ∧ Reps P.K P.cl.fn Hi vs ds ∧ Rel P io (upd Hi a (.lst vs)) H σ (ρ.set i (.v (.lst ds))) := by
  obtain ⟨A, R⟩ := R
  obtain ⟨a, vs, h1, h2, h3, h4, h5, h6⟩ := R.own h
  have hi' : i < ρ.length := at_lt (by rw [h]; exact fun w => nomatch w)
  have e0 : Ex Hi (upd Hi a (.lst vs)) := Ex.new h5
  have na : ∀ j b, j ≠ i → b ∈ A j → b ≠ a := fun j b hj hb q => by
    subst q
    exact R.dj j i hj b hb (by rw [h1]; exact List.mem_singleton.mpr rfl)
  refine ⟨a, vs, sAt_some h2, h3, h5, h4, fun j => if j = i then [] else A j, ⟨R.b, fun b o e => ?_, fun b o e => e0 b o (R.i0 b o e), fun p q1 q2 => ?_, by rw [List.length_set]; exact R.len, fun j => ?_, fun j b hb => ?_, fun j => ?_, fun j k hjk b hb => ?_, R.pn, R.xo⟩⟩
  · by_cases q : b = a
    · subst q; rw [upd_same] at e; rw [h3]; exact e
    · rw [upd_ne q] at e; exact R.i b o e
  · by_cases q : p = a
    · subst q; exact absurd h6 q1
    · rw [upd_ne q] at q2; exact R.fr p q1 q2
  · rw [at_set hi']
    by_cases e : j = i
    · rw [if_pos e, if_pos e, e]
      exact ⟨rfl, .ref a, h2, .lst upd_same (h4.mono e0)⟩
    · rw [if_neg e, if_neg e]
      exact (R.sl j).mono e0 fun _ _ _ ho => ho
  · skip
    by_cases e : j = i
    · rw [if_pos e] at hb; cases hb
    · rw [if_neg e] at hb
      obtain ⟨x1, x2⟩ := R.ow j b hb
      exact ⟨by rw [upd_ne (na j b e hb)]; exact x1, x2⟩
  · skip
    by_cases e : j = i
    · rw [if_pos e]; exact List.nodup_nil
    · rw [if_neg e]; exact R.nd j
  · skip
    by_cases e : j = i
    · rw [if_pos e] at hb; cases hb
    · rw [if_neg e] at hb
      by_cases e' : k = i
      · rw [if_pos e']; exact List.not_mem_nil
      · rw [if_neg e']; exact R.dj j k hjk b hb
end
/-! ### what is generic over the kinds of own things -/
mutual
/-- data without a list and without an instance -/
def flat : D → Bool
  | .non => true
  | .bl _ => true
  | .int _ => true
  | .str _ => true
  | .tup ds => flats ds
  | .lst _ => false
  | .ins _ _ => false
  | .scr _ => false
def flats : List D → Bool
  | [] => true
  | d :: ds => flat d && flats ds
end
def viewS : Slot → Slot
  | .no => .no
  | .v d => .v d
  | s => .v (frzS s)
theorem at_map_view (ρ : Env) (i : Nat) : Env.at (ρ.map viewS) i = viewS (ρ.at i) := by
  unfold Env.at
  rw [List.getD_eq_getElem?_getD, List.getD_eq_getElem?_getD, List.getElem?_map]
  cases ρ[i]? <;> rfl
theorem SlotOk.par {P P' : Par} {Hi H : Hp} {ov : Option V} {s : Slot} {l : List Addr} (hK : P.K = P'.K) (hc : P.cl.fn = P'.cl.fn) (h : SlotOk P Hi H ov s l) : SlotOk P' Hi H ov s l := by
  cases s with
  | no => exact h
  | v d => unfold SlotOk at h ⊢; rw [← hK, ← hc]; exact h
  | l ds => unfold SlotOk at h ⊢; rw [← hK, ← hc]; exact h
  | t cs => unfold SlotOk at h ⊢; rw [← hK, ← hc]; exact h
  | o c fs => unfold SlotOk at h ⊢; rw [← hK, ← hc]; exact h
section
variable {P : Par} {io : List Nat} {Hi Hi' H H' : Hp} {σ : L2.St} {ρ : Env} {A : Nat → List Addr}
/-- an own thing is changed -/
theorem RelA.mut (R : RelA P io Hi H σ ρ A) {i : Nat} (hi : i < ρ.length) {s' : Slot} {l' : List Addr} (hs : SlotOk P Hi H' (sAt σ i) s' l') (hk : ∀ p o, p ∉ A i → H p = some o → H' p = some o)
    (hl : ∀ a ∈ l', a ∈ A i ∨ H a = none) (hn : l'.Nodup) : RelA P io Hi H' σ (ρ.set i s') (fun j => if j = i then l' else A j) where
  b := fun p o e => hk p o (fun q => by rw [(R.ow i p q).2] at e; cases e) (R.b p o e)
  i := fun p o e => hk p o (fun q => by rw [(R.ow i p q).1] at e; cases e) (R.i p o e)
  i0 := R.i0
  fr := R.fr
  len := by rw [List.length_set]; exact R.len
  sl := fun j => by
    rw [at_set hi]
    by_cases e : j = i
    · rw [if_pos e, if_pos e, e]; exact hs
    · rw [if_neg e, if_neg e]
      exact (R.sl j).mono (Ex.refl _) fun a ha o ho => hk a o (R.dj j i e a ha) ho
  ow := fun j a ha => by
    by_cases e : j = i
    · rw [if_pos e] at ha
      rcases hl a ha with q | q
      · exact R.ow i a q
      · exact ⟨fresh_back R.i q, fresh_back R.b q⟩
    · rw [if_neg e] at ha; exact R.ow j a ha
  nd := fun j => by
    by_cases e : j = i
    · rw [if_pos e]; exact hn
    · rw [if_neg e]; exact R.nd j
  dj := fun j k hjk a ha hb => by
    have far : ∀ m, m ≠ i → a ∈ l' → a ∈ A m → False := fun m hm h1 h2 => by
      rcases hl a h1 with q | q
      · exact R.dj i m (Ne.symm hm) a q h2
      · obtain ⟨o, ho⟩ := (R.sl m).isThere h2
        rw [q] at ho; cases ho
    by_cases e : j = i
    · rw [if_pos e] at ha
      have e' : ¬ k = i := fun q => hjk (e.trans q.symm)
      rw [if_neg e'] at hb
      exact far k e' ha hb
    · rw [if_neg e] at ha
      by_cases e' : k = i
      · rw [if_pos e'] at hb
        exact far j e hb ha
      · rw [if_neg e'] at hb; exact R.dj j k hjk a ha hb
  pn := R.pn
  xo := R.xo
/-- a slot is stored: an own thing -/
theorem RelA.setO (R : RelA P io Hi H σ ρ A) {i : Nat} {a : Addr} {s : Slot} {l : List Addr} (hi : i < ρ.length) (hn : i ∉ io) (hs : SlotOk P Hi H (some (.ref a)) s l) (hl : ∀ b ∈ l, Hi b = none ∧ P.B b = none ∧ ∀ j, b ∉ A j) (hd : l.Nodup) :
    RelA P io Hi H (σ.set i (some (.ref a))) (ρ.set i s) (fun j => if j = i then l else A j) where
  b := R.b
  i := R.i
  i0 := R.i0
  fr := R.fr
  len := by rw [List.length_set, List.length_set]; exact R.len
  sl := fun j => by
    rw [sAt_set (by rw [R.len]; exact hi), at_set hi]
    by_cases e : j = i
    · rw [if_pos e, if_pos e, if_pos e]; exact hs
    · rw [if_neg e, if_neg e, if_neg e]; exact R.sl j
  ow := fun j b hb => by
    by_cases e : j = i
    · rw [if_pos e] at hb; exact ⟨(hl b hb).1, (hl b hb).2.1⟩
    · rw [if_neg e] at hb; exact R.ow j b hb
  nd := fun j => by
    by_cases e : j = i
    · rw [if_pos e]; exact hd
    · rw [if_neg e]; exact R.nd j
  dj := fun j k hjk b hb hc => by
    by_cases e : j = i
    · rw [if_pos e] at hb
      have e' : ¬ k = i := fun q => hjk (e.trans q.symm)
      rw [if_neg e'] at hc
      exact (hl b hb).2.2 k hc
    · rw [if_neg e] at hb
      by_cases e' : k = i
      · rw [if_pos e'] at hc
        exact (hl b hc).2.2 j hb
      · rw [if_neg e'] at hc; exact R.dj j k hjk b hb hc
  pn := fun p hp => by
    obtain ⟨h1, h2⟩ := R.pn p hp
    refine ⟨?_, h2⟩
    rw [sAt_set (by rw [R.len]; exact hi), if_neg]
    · exact h1
    · intro e; rw [e] at h2; exact hn h2
  xo := R.xo
/-- .. data -/
theorem RelA.setV (R : RelA P io Hi H σ ρ A) {i : Nat} {v : V} {d : D} (hi : i < ρ.length) (hn : i ∉ io) (r : Rep P.K P.cl Hi v d) : RelA P io Hi H (σ.set i (some v)) (ρ.set i (.v d)) (fun j => if j = i then [] else A j) where
  b := R.b
  i := R.i
  i0 := R.i0
  fr := R.fr
  len := by rw [List.length_set, List.length_set]; exact R.len
  sl := fun j => by
    rw [sAt_set (by rw [R.len]; exact hi), at_set hi]
    by_cases e : j = i
    · rw [if_pos e, if_pos e, if_pos e]; exact ⟨rfl, v, rfl, r⟩
    · rw [if_neg e, if_neg e, if_neg e]; exact R.sl j
  ow := fun j b hb => by
    by_cases e : j = i
    · rw [if_pos e] at hb; cases hb
    · rw [if_neg e] at hb; exact R.ow j b hb
  nd := fun j => by
    by_cases e : j = i
    · rw [if_pos e]; exact List.nodup_nil
    · rw [if_neg e]; exact R.nd j
  dj := fun j k hjk b hb hc => by
    by_cases e : j = i
    · rw [if_pos e] at hb; cases hb
    · rw [if_neg e] at hb
      by_cases e' : k = i
      · rw [if_pos e'] at hc; cases hc
      · rw [if_neg e'] at hc; exact R.dj j k hjk b hb hc
  pn := fun p hp => by
    obtain ⟨h1, h2⟩ := R.pn p hp
    refine ⟨?_, h2⟩
    rw [sAt_set (by rw [R.len]; exact hi), if_neg]
    · exact h1
    · intro e; rw [e] at h2; exact hn h2
  xo := R.xo
def frzH (Hi H : Hp) (l : List Addr) : Hp := fun p => if p ∈ l then H p else Hi p
/-- an own thing becomes data -/
theorem RelA.frzG (R : RelA P io Hi H σ ρ A) {i : Nat} (h : isOwn (ρ.at i) = true) : ∃ v, sAt σ i = some v ∧ Ex Hi (frzH Hi H (A i)) ∧ RelA P io (frzH Hi H (A i)) H σ (ρ.set i (.v (frzS (ρ.at i)))) (fun j => if j = i then [] else A j) ∧
    Rep P.K P.cl (frzH Hi H (A i)) v (frzS (ρ.at i)) := by
  have e0 : Ex Hi (frzH Hi H (A i)) := fun p o e => by
    unfold frzH
    rw [if_neg fun q => by rw [(R.ow i p q).1] at e; cases e]
    exact e
  have k0 : ∀ a ∈ A i, ∀ o, H a = some o → frzH Hi H (A i) a = some o := fun a ha o ho => by unfold frzH; rw [if_pos ha]; exact ho
  have hi' : i < ρ.length := at_lt fun w => by rw [w] at h; cases h
  obtain ⟨v, hv, hr⟩ := (R.sl i).dat e0 k0 fun w => by rw [w] at h; cases h
  refine ⟨v, hv, e0, ⟨R.b, fun p o e => ?_, fun p o e => e0 p o (R.i0 p o e), fun p q1 q2 => ?_, by rw [List.length_set]; exact R.len, fun j => ?_, fun j b hb => ?_, fun j => ?_, fun j k hjk b hb hc => ?_, R.pn, R.xo⟩, hr⟩
  · unfold frzH at e
    by_cases q : p ∈ A i
    · rw [if_pos q] at e; exact e
    · rw [if_neg q] at e; exact R.i p o e
  · unfold frzH at q2
    by_cases q : p ∈ A i
    · exact absurd (R.ow i p q).2 q1
    · rw [if_neg q] at q2; exact R.fr p q1 q2
  · rw [at_set hi']
    by_cases e : j = i
    · rw [if_pos e, if_pos e, e]; exact ⟨rfl, v, hv, hr⟩
    · rw [if_neg e, if_neg e]; exact (R.sl j).mono e0 fun _ _ _ ho => ho
  · by_cases e : j = i
    · rw [if_pos e] at hb; cases hb
    · rw [if_neg e] at hb
      obtain ⟨x1, x2⟩ := R.ow j b hb
      refine ⟨?_, x2⟩
      unfold frzH
      rw [if_neg fun q => R.dj j i e b hb q]
      exact x1
  · by_cases e : j = i
    · rw [if_pos e]; exact List.nodup_nil
    · rw [if_neg e]; exact R.nd j
  · by_cases e : j = i
    · rw [if_pos e] at hb; cases hb
    · rw [if_neg e] at hb
      by_cases e' : k = i
      · rw [if_pos e'] at hc; cases hc
      · rw [if_neg e'] at hc; exact R.dj j k hjk b hb hc
mutual
theorem Rep.flat_of {K : PySem.W.Frag} {cl : Nat → Addr} {H H' : Hp} (k : ∀ p xs, SqT K H p xs → SqT K H' p xs) : ∀ (d : D) (v : V), flat d = true → Rep K cl H v d → Rep K cl H' v d
  | .non, _, _, h => by cases h; exact .non
  | .bl b, _, _, h => by cases h; exact .bl b
  | .int b, _, _, h => by cases h; exact .int b
  | .str b, _, _, h => by cases h; exact .str b
  | .tup ds, _, f, h => by
    unfold flat at f
    cases h with
    | tup h1 h2 => exact .tup (k _ _ h1) (Reps.flat_of k ds _ f h2)
  | .lst ds, _, f, h => by unfold flat at f; cases f
  | .ins c gs, _, f, h => by unfold flat at f; cases f
  | .scr ds, _, f, h => by unfold flat at f; cases f
theorem Reps.flat_of {K : PySem.W.Frag} {cl : Nat → Addr} {H H' : Hp} (k : ∀ p xs, SqT K H p xs → SqT K H' p xs) : ∀ (ds : List D) (vs : List V), flats ds = true → Reps K cl H vs ds → Reps K cl H' vs ds
  | [], _, _, h => by cases h; exact .nil
  | d :: ds, _, f, h => by
    unfold flats at f
    rw [Bool.and_eq_true] at f
    cases h with
    | cons h1 h2 => exact .cons (Rep.flat_of k d _ f.1 h1) (Reps.flat_of k ds _ f.2 h2)
end
open Classical in
noncomputable def viewH (Hi H : Hp) (A : Nat → List Addr) : Hp := fun p => if ∃ i, p ∈ A i then H p else Hi p
open Classical in
noncomputable def backH (Hi : Hp) (A : Nat → List Addr) : Hp := fun p => if ∃ i, p ∈ A i then none else Hi p
/-- everything of our own seen as data .. -/
theorem RelA.view (R : RelA P io Hi H σ ρ A) : Ex Hi (viewH Hi H A) ∧ RelA P io (viewH Hi H A) H σ (ρ.map viewS) (fun _ => []) := by
  have e0 : Ex Hi (viewH Hi H A) := fun p o e => by
    unfold viewH
    rw [if_neg fun ⟨i, q⟩ => by rw [(R.ow i p q).1] at e; cases e]
    exact e
  have k0 : ∀ i, ∀ a ∈ A i, ∀ o, H a = some o → viewH Hi H A a = some o := fun i a ha o ho => by unfold viewH; rw [if_pos ⟨i, ha⟩]; exact ho
  refine ⟨e0, ⟨R.b, fun p o e => ?_, fun p o e => e0 p o (R.i0 p o e), fun p q1 q2 => ?_, by rw [List.length_map]; exact R.len, fun j => ?_, fun j b hb => (nomatch hb), fun j => List.nodup_nil, fun j k hjk b hb hc => (nomatch hb), R.pn, R.xo⟩⟩
  · unfold viewH at e
    by_cases q : ∃ i, p ∈ A i
    · rw [if_pos q] at e; exact e
    · rw [if_neg q] at e; exact R.i p o e
  · unfold viewH at q2
    by_cases q : ∃ i, p ∈ A i
    · obtain ⟨i, q⟩ := q; exact absurd (R.ow i p q).2 q1
    · rw [if_neg q] at q2; exact R.fr p q1 q2
  · rw [at_map_view]
    have h := R.sl j
    cases q : ρ.at j with
    | no => exact rfl
    | v d =>
      rw [q] at h
      obtain ⟨h1, v, h2, h3⟩ := h
      exact ⟨rfl, v, h2, h3.mono e0⟩
    | l ds =>
      rw [q] at h
      have nn : Slot.l ds ≠ Slot.no := fun w => nomatch w
      obtain ⟨v, h1, h2⟩ := h.dat e0 (k0 j) nn
      exact ⟨rfl, v, h1, h2⟩
    | t ds =>
      rw [q] at h
      have nn : Slot.t ds ≠ Slot.no := fun w => nomatch w
      obtain ⟨v, h1, h2⟩ := h.dat e0 (k0 j) nn
      exact ⟨rfl, v, h1, h2⟩
    | o c ds =>
      rw [q] at h
      have nn : Slot.o c ds ≠ Slot.no := fun w => nomatch w
      obtain ⟨v, h1, h2⟩ := h.dat e0 (k0 j) nn
      exact ⟨rfl, v, h1, h2⟩
/-- .. and back -/
theorem RelA.back {Hi2 H2 : Hp} {ρ2 : Env} {A2 : Nat → List Addr} (R : RelA P io Hi H σ ρ A) (e : Ex (viewH Hi H A) Hi2) (R2 : RelA P io Hi2 H2 σ ρ2 A2) :
    Ex Hi (backH Hi2 A) ∧ RelA P io (backH Hi2 A) H2 σ ρ A ∧ (∀ d v, flat d = true → Rep P.K P.cl Hi2 v d → Rep P.K P.cl (backH Hi2 A) v d) ∧ (∀ ds vs, flats ds = true → Reps P.K P.cl Hi2 vs ds → Reps P.K P.cl (backH Hi2 A) vs ds) ∧
    (∀ a, Hi2 a = none → backH Hi2 A a = none ∧ ∀ j, a ∉ A j) ∧ (∀ dx fs, Hi2 dx = some (.xd fs) → backH Hi2 A dx = some (.xd fs)) := by
  have own : ∀ j, ∀ a ∈ A j, ∃ o, H a = some o ∧ Hi2 a = some o ∧ ((∃ xs, o = .lst xs) ∨ ∃ C dx ws, o = .ins C dx ws) := fun j a ha => by
    have hv : viewH Hi H A a = H a := by unfold viewH; rw [if_pos ⟨j, ha⟩]
    rcases (R.sl j).there a ha with ⟨xs, h⟩ | ⟨C, dx, ws, h⟩
    · exact ⟨_, h, e a _ (by rw [hv]; exact h), .inl ⟨xs, rfl⟩⟩
    · exact ⟨_, h, e a _ (by rw [hv]; exact h), .inr ⟨C, dx, ws, rfl⟩⟩
  have e0 : Ex Hi (backH Hi2 A) := fun p o h => by
    have n : ¬ ∃ i, p ∈ A i := fun ⟨i, q⟩ => by rw [(R.ow i p q).1] at h; cases h
    unfold backH
    rw [if_neg n]
    refine e p o ?_
    unfold viewH
    rw [if_neg n]
    exact h
  have off : ∀ p o, Hi2 p = some o → (∀ xs, o ≠ .lst xs) → (∀ C dx ws, o ≠ .ins C dx ws) → backH Hi2 A p = some o := fun p o h h1 h2 => by
    unfold backH
    rw [if_neg fun ⟨i, q⟩ => by
      obtain ⟨o', _, h4, h5⟩ := own i p q
      rw [h] at h4
      cases h4
      rcases h5 with ⟨xs, h5⟩ | ⟨C, dx, ws, h5⟩
      · exact h1 xs h5
      · exact h2 C dx ws h5]
    exact h
  have sq : ∀ p xs, SqT P.K Hi2 p xs → SqT P.K (backH Hi2 A) p xs := fun p xs h => by
    rcases h with (h | ⟨o, h⟩) | h
    · exact .inl (.inl (off p _ h (fun _ => fun w => nomatch w) (fun _ _ _ => fun w => nomatch w)))
    · exact .inl (.inr ⟨o, off p _ h (fun _ => fun w => nomatch w) (fun _ _ _ => fun w => nomatch w)⟩)
    · exact .inr h
  refine ⟨e0, ⟨R2.b, fun p o h => ?_, fun p o h => e0 p o (R.i0 p o h), fun p q1 q2 => ?_, R.len, fun j => ?_, fun j a ha => ⟨?_, (R.ow j a ha).2⟩, R.nd, R.dj, R.pn, R.xo⟩, fun d v f r => Rep.flat_of sq d v f r, fun d v f r => Reps.flat_of sq d v f r, fun a h => ⟨?_, fun j ha => ?_⟩,
    fun dx fs h => off dx _ h (fun _ => fun w => nomatch w) (fun _ _ _ => fun w => nomatch w)⟩
  · unfold backH at h
    by_cases q : ∃ i, p ∈ A i
    · rw [if_pos q] at h; cases h
    · rw [if_neg q] at h; exact R2.i p o h
  · unfold backH at q2
    by_cases q : ∃ i, p ∈ A i
    · rw [if_pos q] at q2; exact absurd rfl q2
    · rw [if_neg q] at q2; exact R2.fr p q1 q2
  · refine (R.sl j).mono e0 fun a ha o ho => ?_
    obtain ⟨o', h1, h2, _⟩ := own j a ha
    rw [ho] at h1
    cases h1
    exact R2.i a o h2
  · unfold backH
    rw [if_pos ⟨j, ha⟩]
  · unfold backH
    by_cases q : ∃ i, a ∈ A i
    · rw [if_pos q]
    · rw [if_neg q]; exact h
  · obtain ⟨o, _, h2, _⟩ := own j a ha
    rw [h] at h2
    cases h2
/-- things are kept from all that goes on -/
theorem RelA.prot (R : RelA P io Hi H σ ρ A) {l : List Addr} (hh : ∀ p ∈ l, Hi p = none) (hA : ∀ p ∈ l, ∀ j, p ∉ A j) : RelA { P with B := frzH P.B H l } io Hi H σ ρ A where
  b := fun a u e => by
    have e : frzH P.B H l a = some u := e
    unfold frzH at e
    by_cases q : a ∈ l
    · rw [if_pos q] at e; exact e
    · rw [if_neg q] at e; exact R.b a u e
  i := R.i
  i0 := R.i0
  fr := fun a h1 h2 => by
    by_cases q : a ∈ l
    · exact absurd (hh a q) h2
    · refine R.fr a ?_ h2
      have h1 : frzH P.B H l a ≠ none := h1
      unfold frzH at h1
      rwa [if_neg q] at h1
  len := R.len
  sl := fun j => (R.sl j).par rfl rfl
  ow := fun j a ha => by
    refine ⟨(R.ow j a ha).1, ?_⟩
    show frzH P.B H l a = none
    unfold frzH
    rw [if_neg fun q => hA a q j ha]
    exact (R.ow j a ha).2
  nd := R.nd
  dj := R.dj
  pn := R.pn
  xo := R.xo
theorem RelA.unprot {H0 : Hp} {l : List Addr} (R : RelA { P with B := frzH P.B H0 l } io Hi H σ ρ A) (hB : ∀ p ∈ l, P.B p = none) (h0 : ∀ p ∈ l, P.Hi0 p = none) (hs : ∀ p ∈ l, H0 p ≠ none) :
    RelA P io Hi H σ ρ A ∧ (∀ p ∈ l, H p = H0 p) ∧ (∀ p ∈ l, Hi p = none) ∧ ∀ p ∈ l, ∀ j, p ∉ A j := by
  have hb : ∀ a u, P.B a = some u → frzH P.B H0 l a = some u := fun a u e => by
    unfold frzH
    rw [if_neg fun q => by rw [hB a q] at e; cases e]
    exact e
  have hl : ∀ p ∈ l, frzH P.B H0 l p = H0 p := fun p hp => by unfold frzH; rw [if_pos hp]
  refine ⟨⟨fun a u e => R.b a u (hb a u e), R.i, R.i0, fun a h1 h2 => R.fr a ?_ h2, R.len, fun j => (R.sl j).par rfl rfl, fun j a ha => ⟨(R.ow j a ha).1, ?_⟩, R.nd, R.dj, R.pn, R.xo⟩, fun p hp => ?_, fun p hp => ?_, fun p hp j ha => ?_⟩
  · show frzH P.B H0 l a ≠ none
    cases q : P.B a with
    | none => exact absurd q h1
    | some u => rw [hb a u q]; exact fun w => nomatch w
  · cases q : P.B a with
    | none => rfl
    | some u =>
      have h1 : frzH P.B H0 l a = none := (R.ow j a ha).2
      rw [hb a u q] at h1
      cases h1
  · cases q : H0 p with
    | none => exact absurd q (hs p hp)
    | some o => exact R.b p o (by show frzH P.B H0 l p = some o; rw [hl p hp]; exact q)
  · cases q : Hi p with
    | none => rfl
    | some u => exact absurd (h0 p hp) (R.fr p (by show frzH P.B H0 l p ≠ none; rw [hl p hp]; exact hs p hp) (by rw [q]; exact fun w => nomatch w))
  · have h1 : frzH P.B H0 l p = none := (R.ow j p ha).2
    rw [hl p hp] at h1
    exact hs p hp h1
/-- a thing of nobody's is changed -/
theorem RelA.updF (R : RelA P io Hi H σ ρ A) {p : Addr} {o : HO} (hh : Hi p = none) (hB : P.B p = none) (hA : ∀ j, p ∉ A j) : RelA P io Hi (upd H p o) σ ρ A where
  b := fun a u e => by
    rw [upd_ne fun q => by rw [q, hB] at e; cases e]
    exact R.b a u e
  i := fun a u e => by
    rw [upd_ne fun q => by rw [q, hh] at e; cases e]
    exact R.i a u e
  i0 := R.i0
  fr := R.fr
  len := R.len
  sl := fun j => (R.sl j).mono (Ex.refl _) fun a ha u hu => by
    rw [upd_ne fun q => hA j (by rw [← q]; exact ha)]
    exact hu
  ow := R.ow
  nd := R.nd
  dj := R.dj
  pn := R.pn
  xo := R.xo
theorem RelA.notin (R : RelA P io Hi H σ ρ A) {p : Addr} (h : H p = none) (j : Nat) : p ∉ A j := fun hj => by
  obtain ⟨o, ho⟩ := (R.sl j).isThere hj
  rw [h] at ho
  cases ho
theorem wipe_len (σ : L2.St) (vs : List Nat) : (L2.wipe σ vs).length = σ.length := wipe_length σ vs
theorem wipe_at (σ : L2.St) : ∀ (vs : List Nat) (j : Nat), sAt (L2.wipe σ vs) j = if j ∈ vs then none else sAt σ j
  | [], j => by rw [if_neg List.not_mem_nil]; rfl
  | v :: vs, j => by
    show sAt ((L2.wipe σ vs).set v none) j = _
    by_cases hv : v < (L2.wipe σ vs).length
    · rw [sAt_set hv, wipe_at σ vs j]
      by_cases e : j = v
      · rw [if_pos e, if_pos (by rw [e]; exact List.mem_cons_self)]
      · rw [if_neg e]
        by_cases q : j ∈ vs
        · rw [if_pos q, if_pos (List.mem_cons_of_mem _ q)]
        · rw [if_neg q, if_neg fun z => (List.mem_cons.mp z).elim e q]
    · rw [List.set_eq_of_length_le (by omega), wipe_at σ vs j]
      by_cases e : j = v
      · have : sAt σ j = none := by
          unfold sAt
          rw [wipe_length] at hv
          rw [List.getElem?_eq_none_iff.mpr (by omega)]
          rfl
        rw [this]
        split <;> split <;> rfl
      · by_cases q : j ∈ vs
        · rw [if_pos q, if_pos (List.mem_cons_of_mem _ q)]
        · rw [if_neg q, if_neg fun z => (List.mem_cons.mp z).elim e q]
def wipeE (ρ : Env) : List Nat → Env
  | [] => ρ
  | v :: vs => (wipeE ρ vs).set v .no
theorem wipeE_len (ρ : Env) : ∀ vs : List Nat, (wipeE ρ vs).length = ρ.length
  | [] => rfl
  | v :: vs => by unfold wipeE; rw [List.length_set, wipeE_len ρ vs]
theorem wipeE_at (ρ : Env) : ∀ (vs : List Nat) (j : Nat), (wipeE ρ vs).at j = if j ∈ vs then .no else ρ.at j
  | [], j => by rw [if_neg List.not_mem_nil]; rfl
  | v :: vs, j => by
    show Env.at ((wipeE ρ vs).set v .no) j = _
    by_cases hv : v < (wipeE ρ vs).length
    · rw [at_set hv, wipeE_at ρ vs j]
      by_cases e : j = v
      · rw [if_pos e, if_pos (by rw [e]; exact List.mem_cons_self)]
      · rw [if_neg e]
        by_cases q : j ∈ vs
        · rw [if_pos q, if_pos (List.mem_cons_of_mem _ q)]
        · rw [if_neg q, if_neg fun z => (List.mem_cons.mp z).elim e q]
    · rw [List.set_eq_of_length_le (by omega), wipeE_at ρ vs j]
      by_cases e : j = v
      · have : ρ.at j = .no := by
          unfold Env.at
          rw [wipeE_len] at hv
          rw [List.getD_eq_getElem?_getD, List.getElem?_eq_none_iff.mpr (by omega)]
          rfl
        rw [this]
        split <;> split <;> rfl
      · by_cases q : j ∈ vs
        · rw [if_pos q, if_pos (List.mem_cons_of_mem _ q)]
        · rw [if_neg q, if_neg fun z => (List.mem_cons.mp z).elim e q]
/-- the block's names get back what they were -/
def backE (ρ0 ρ : Env) : List Nat → Env
  | [] => ρ
  | v :: vs => (backE ρ0 ρ vs).set v (ρ0.at v)
theorem backE_len (ρ0 ρ : Env) : ∀ vs : List Nat, (backE ρ0 ρ vs).length = ρ.length
  | [] => rfl
  | v :: vs => by unfold backE; rw [List.length_set, backE_len ρ0 ρ vs]
theorem backE_at (ρ0 ρ : Env) (hl : ρ0.length = ρ.length) : ∀ (vs : List Nat) (j : Nat), (backE ρ0 ρ vs).at j = if j ∈ vs then ρ0.at j else ρ.at j
  | [], j => by rw [if_neg List.not_mem_nil]; rfl
  | v :: vs, j => by
    show Env.at ((backE ρ0 ρ vs).set v (ρ0.at v)) j = _
    by_cases hv : v < (backE ρ0 ρ vs).length
    · rw [at_set hv, backE_at ρ0 ρ hl vs j]
      by_cases e : j = v
      · rw [if_pos e, if_pos (by rw [e]; exact List.mem_cons_self), e]
      · rw [if_neg e]
        by_cases q : j ∈ vs
        · rw [if_pos q, if_pos (List.mem_cons_of_mem _ q)]
        · rw [if_neg q, if_neg fun z => (List.mem_cons.mp z).elim e q]
    · rw [List.set_eq_of_length_le (by omega), backE_at ρ0 ρ hl vs j]
      by_cases e : j = v
      · rw [backE_len] at hv
        have h1 : ρ.at j = .no := by
          unfold Env.at
          rw [List.getD_eq_getElem?_getD, List.getElem?_eq_none_iff.mpr (by omega)]
          rfl
        have h2 : ρ0.at j = .no := by
          unfold Env.at
          rw [List.getD_eq_getElem?_getD, List.getElem?_eq_none_iff.mpr (by omega)]
          rfl
        rw [h1, h2]
        split <;> split <;> rfl
      · by_cases q : j ∈ vs
        · rw [if_pos q, if_pos (List.mem_cons_of_mem _ q)]
        · rw [if_neg q, if_neg fun z => (List.mem_cons.mp z).elim e q]
def Adrop (A : Nat → List Addr) (vs : List Nat) : Nat → List Addr := fun j => if j ∈ vs then [] else A j
/-- names are forgotten -/
theorem RelA.wipe (R : RelA P io Hi H σ ρ A) {vs : List Nat} (hn : ∀ i ∈ vs, i ∉ io) : RelA P io Hi H (L2.wipe σ vs) (wipeE ρ vs) (Adrop A vs) where
  b := R.b
  i := R.i
  i0 := R.i0
  fr := R.fr
  len := by rw [wipe_length, wipeE_len]; exact R.len
  sl := fun j => by
    rw [wipe_at, wipeE_at]
    unfold Adrop
    by_cases q : j ∈ vs
    · rw [if_pos q, if_pos q, if_pos q]; exact rfl
    · rw [if_neg q, if_neg q, if_neg q]; exact R.sl j
  ow := fun j a ha => by
    unfold Adrop at ha
    by_cases q : j ∈ vs
    · rw [if_pos q] at ha; cases ha
    · rw [if_neg q] at ha; exact R.ow j a ha
  nd := fun j => by
    unfold Adrop
    by_cases q : j ∈ vs
    · rw [if_pos q]; exact List.nodup_nil
    · rw [if_neg q]; exact R.nd j
  dj := fun i j hij a ha hb => by
    unfold Adrop at ha hb
    by_cases q : i ∈ vs
    · rw [if_pos q] at ha; cases ha
    · rw [if_neg q] at ha
      by_cases q' : j ∈ vs
      · rw [if_pos q'] at hb; cases hb
      · rw [if_neg q'] at hb; exact R.dj i j hij a ha hb
  pn := fun p hp => by
    obtain ⟨h1, h2⟩ := R.pn p hp
    refine ⟨?_, h2⟩
    rw [wipe_at, if_neg fun q => hn p.1 q h2]
    exact h1
  xo := R.xo
/-- .. and come back -/
theorem RelA.unwipe {Hi1 H1 : Hp} {ρ1 : Env} {A1 : Nat → List Addr} (R1 : RelA P io Hi1 H1 σ ρ1 A1) {vs : List Nat} (R : RelA P io Hi H (L2.wipe σ vs) ρ A) (e : Ex Hi1 Hi) (hn : ∀ i ∈ vs, i ∉ io) (ho : ∀ i ∈ vs, isOwn (ρ1.at i) = false) :
    RelA P io Hi H σ (backE ρ1 ρ vs) (Adrop A vs) where
  b := R.b
  i := R.i
  i0 := R.i0
  fr := R.fr
  len := by rw [backE_len, ← R.len, wipe_length]
  sl := fun j => by
    rw [backE_at _ _ (by rw [← R.len, wipe_length, R1.len])]
    have h := R.sl j
    rw [wipe_at] at h
    unfold Adrop
    by_cases q : j ∈ vs
    · rw [if_pos q, if_pos q]
      have h1 := R1.sl j
      have h2 := h1.nown (ho j q)
      rw [h2] at h1
      exact h1.mono e fun _ z => nomatch z
    · rw [if_neg q, if_neg q]
      rw [if_neg q] at h
      exact h
  ow := fun j a ha => by
    unfold Adrop at ha
    by_cases q : j ∈ vs
    · rw [if_pos q] at ha; cases ha
    · rw [if_neg q] at ha; exact R.ow j a ha
  nd := fun j => by
    unfold Adrop
    by_cases q : j ∈ vs
    · rw [if_pos q]; exact List.nodup_nil
    · rw [if_neg q]; exact R.nd j
  dj := fun i j hij a ha hb => by
    unfold Adrop at ha hb
    by_cases q : i ∈ vs
    · rw [if_pos q] at ha; cases ha
    · rw [if_neg q] at ha
      by_cases q' : j ∈ vs
      · rw [if_pos q'] at hb; cases hb
      · rw [if_neg q'] at hb; exact R.dj i j hij a ha hb
  pn := fun p hp => by
    obtain ⟨h1, h2⟩ := R.pn p hp
    refine ⟨?_, h2⟩
    rw [wipe_at, if_neg fun q => hn p.1 q h2] at h1
    exact h1
  xo := R.xo
/-- an own thing is put aside .. -/
theorem RelA.hide (R : RelA P io Hi H σ ρ A) {i : Nat} (hi : i < ρ.length) : RelA { P with B := frzH P.B H (A i) } io Hi H σ (ρ.set i .no) (fun j => if j = i then [] else A j) := by
  have R1 : RelA P io Hi H σ (ρ.set i .no) (fun j => if j = i then [] else A j) := {
    b := R.b
    i := R.i
    i0 := R.i0
    fr := R.fr
    len := by rw [List.length_set]; exact R.len
    sl := fun j => by
      rw [at_set hi]
      by_cases e : j = i
      · rw [if_pos e, if_pos e]; exact rfl
      · rw [if_neg e, if_neg e]; exact R.sl j
    ow := fun j b hb => by
      by_cases e : j = i
      · rw [if_pos e] at hb; cases hb
      · rw [if_neg e] at hb; exact R.ow j b hb
    nd := fun j => by
      by_cases e : j = i
      · rw [if_pos e]; exact List.nodup_nil
      · rw [if_neg e]; exact R.nd j
    dj := fun j k hjk b hb hc => by
      by_cases e : j = i
      · rw [if_pos e] at hb; cases hb
      · rw [if_neg e] at hb
        by_cases e' : k = i
        · rw [if_pos e'] at hc; cases hc
        · rw [if_neg e'] at hc; exact R.dj j k hjk b hb hc
    pn := R.pn
    xo := R.xo }
  refine R1.prot (fun p hp => (R.ow i p hp).1) fun p hp j hj => ?_
  by_cases e : j = i
  · rw [if_pos e] at hj; cases hj
  · rw [if_neg e] at hj; exact R.dj i j (Ne.symm e) p hp hj
/-- .. and taken up again -/
theorem RelA.unhide {Hi2 H2 : Hp} {ρ2 : Env} {A2 : Nat → List Addr} (R : RelA P io Hi H σ ρ A) {i : Nat} (hi : i < ρ.length) (e : Ex Hi Hi2) (R2 : RelA { P with B := frzH P.B H (A i) } io Hi2 H2 σ ρ2 A2) :
    RelA P io Hi2 H2 σ (ρ2.set i (ρ.at i)) (fun j => if j = i then A i else A2 j) := by
  obtain ⟨R3, k1, k2, k3⟩ := RelA.unprot R2 (fun p hp => (R.ow i p hp).2) (fun p hp => fresh_back R.i0 (R.ow i p hp).1) (fun p hp => by obtain ⟨o, ho⟩ := (R.sl i).isThere hp; rw [ho]; exact fun w => nomatch w)
  have hi2 : i < ρ2.length := by rw [← R3.len, R.len]; exact hi
  exact {
    b := R3.b
    i := R3.i
    i0 := R3.i0
    fr := R3.fr
    len := by rw [List.length_set]; exact R3.len
    sl := fun j => by
      rw [at_set hi2]
      by_cases q : j = i
      · rw [if_pos q, if_pos q, q]
        exact (R.sl i).mono e fun a ha o ho => by rw [k1 a ha]; exact ho
      · rw [if_neg q, if_neg q]; exact R3.sl j
    ow := fun j b hb => by
      by_cases q : j = i
      · rw [if_pos q] at hb; exact ⟨k2 b hb, (R.ow i b hb).2⟩
      · rw [if_neg q] at hb; exact R3.ow j b hb
    nd := fun j => by
      by_cases q : j = i
      · rw [if_pos q]; exact R.nd i
      · rw [if_neg q]; exact R3.nd j
    dj := fun j k hjk b hb hc => by
      by_cases q : j = i
      · rw [if_pos q] at hb
        have q' : ¬ k = i := fun z => hjk (q.trans z.symm)
        rw [if_neg q'] at hc
        exact k3 b hb k hc
      · rw [if_neg q] at hb
        by_cases q' : k = i
        · rw [if_pos q'] at hc; exact k3 b hc j hb
        · rw [if_neg q'] at hc; exact R3.dj j k hjk b hb hc
    pn := R3.pn
    xo := R3.xo }
/-- one list of a tree -/
theorem Cels.at_l {K : PySem.W.Frag} {cf : Nat → Addr} {Hi H : Hp} : ∀ {vs : List V} {cs : List Cel} {as : List Addr} {j : Nat} {es : List D}, Cels K cf Hi H vs cs as → cs[j]? = some (.l es) → as.Nodup →
    ∃ b xs, vs[j]? = some (.ref b) ∧ b ∈ as ∧ H b = some (.lst xs) ∧ Reps K cf Hi xs es ∧ ∀ xs' es', Reps K cf Hi xs' es' → Cels K cf Hi (upd H b (.lst xs')) vs (cs.set j (.l es')) as
  | _, _, _, j, _, .nil, h, _ => by simp at h
  | _, _, _, 0, _, .d r t, h, _ => by simp at h
  | _, _, _, 0, es, .l (a := a) (xs := xs) g r t, h, hn => by
    simp at h
    subst h
    refine ⟨a, xs, rfl, List.mem_cons_self, g, r, fun xs' es' r' => ?_⟩
    exact .l upd_same r' (t.mono (Ex.refl _) fun c hc o ho => by
      rw [upd_ne]
      · exact ho
      · intro z; rw [z] at hc; exact (List.nodup_cons.mp hn).1 hc)
  | _, _, _, j + 1, es, .d r t, h, hn => by
    obtain ⟨b, xs, h1, h2, h3, h4, h5⟩ := Cels.at_l (j := j) t (by simpa using h) hn
    exact ⟨b, xs, by simpa using h1, h2, h3, h4, fun xs' es' r' => .d r (h5 xs' es' r')⟩
  | _, _, _, j + 1, es, .l (a := a) g r t, h, hn => by
    obtain ⟨b, xs, h1, h2, h3, h4, h5⟩ := Cels.at_l (j := j) t (by simpa using h) (List.nodup_cons.mp hn).2
    refine ⟨b, xs, by simpa using h1, List.mem_cons_of_mem _ h2, h3, h4, fun xs' es' r' => .l ?_ r (h5 xs' es' r')⟩
    rw [upd_ne]
    · exact g
    · intro z; rw [← z] at h2; exact (List.nodup_cons.mp hn).1 h2
def putC (f : Str) (v : Cel) : List (Str × Cel) → List (Str × Cel)
  | [] => [(f, v)]
  | (g, u) :: r => if g = f then (g, v) :: r else (g, u) :: putC f v r
theorem CelF.put {K : PySem.W.Frag} {cf : Nat → Addr} {Hi H : Hp} {f : Str} {v : V} {d : D} (q : Rep K cf Hi v d) : ∀ {vs : List (Str × V)} {cs : List (Str × Cel)} {as : List Addr}, CelF K cf Hi H vs cs as → ∃ as', CelF K cf Hi H (putF f v vs) (putC f (.d d) cs) as' ∧ as'.Sublist as
  | _, _, _, .nil => ⟨[], .d q .nil, .slnil⟩
  | _, _, _, .d (n := n) r t => by
    unfold putF putC
    by_cases e : n = f
    · rw [if_pos e, if_pos e]; exact ⟨_, .d q t, List.Sublist.refl _⟩
    · rw [if_neg e, if_neg e]
      obtain ⟨as', h1, h2⟩ := CelF.put q t
      exact ⟨as', .d r h1, h2⟩
  | _, _, _, .l (n := n) g r t => by
    unfold putF putC
    by_cases e : n = f
    · rw [if_pos e, if_pos e]; exact ⟨_, .d q t, List.sublist_cons_self _ _⟩
    · rw [if_neg e, if_neg e]
      obtain ⟨as', h1, h2⟩ := CelF.put q t
      exact ⟨_, .l g r h1, List.Sublist.cons₂ _ h2⟩
theorem CelF.len {K : PySem.W.Frag} {cf : Nat → Addr} {Hi H : Hp} : ∀ {vs : List (Str × V)} {cs : List (Str × Cel)} {as : List Addr}, CelF K cf Hi H vs cs as → vs.length = cs.length
  | _, _, _, .nil => rfl
  | _, _, _, .d _ t => congrArg (· + 1) t.len
  | _, _, _, .l _ _ t => congrArg (· + 1) t.len
end
end VI
set_option maxHeartbeats 2000000
/-! The language: expressions, argument lists, list makers, statements; what they come to. -/
namespace VI
open PySem L2 Evl
inductive Ty where
  | int | bool | str | tuple | list
  deriving DecidableEq
def Ty.name : Ty → String
  | .int => "int" | .bool => "bool" | .str => "str" | .tuple => "tuple" | .list => "list"
inductive Op2 where
  | add | sub | mul | fdiv | mod | pow
  deriving DecidableEq
inductive Cm where
  | lt | le | gt | ge
  deriving DecidableEq
/-- what an except clause names: an own class, or one far above all of them -/
inductive XT where
  | own (c : Nat)
  | sup (x : Str)
def hitX (c : Nat) : XT → Bool
  | .own c' => c == c'
  | .sup _ => true
/-- what a turn binds: a name, or names of a tuple -/
inductive Pt where
  | n (i : Nat)
  | t (is : List Nat)
/-- a built-in of one sequence -/
inductive U1 where
  | sum | any | all | mn | mx
  deriving DecidableEq
/-- what is found in a class -/
inductive DK where
  | meth | prop
  deriving DecidableEq
mutual
inductive E where
  | var (i : Nat)
  | cst (d : D)
  | tup (a : A)
  | bin (op : Op2) (a b : E)
  | neg (a : E)
  | cmp (op : Cm) (a b : E)
  | eqq (ne : Bool) (a b : E)
  | isN (ne : Bool) (a : E)
  | and (a b : E)
  | or (a b : E)
  | not (a : E)
  | ifx (c a b : E)
  | call (f : Nat) (a : A)
  | isT (a : E) (ts : List Ty)
  | len (a : E)
  | lenl (i : Nat)
  | abs (a : E)
  | int1 (a : E)
  | min2 (a b : E)
  | max2 (a b : E)
  | gcd (a b : E)
  | bits (a : E)
  | ix (a b : E)
  | pop (i : Nat)
  | tupOf (a : E)
  | ofL (l : L)
  | glo (x : Str) (d : D)
  | inn (ne : Bool) (a b : E)
  | strI (a : E)
  | startsw (a b : E)
  | partn (a b : E)
  | slF (a lo : E)
  | slT (a hi : E)
  | slB (a lo hi : E)
  | fst (a : A)
  | xf (i : Nat) (f : Str)
  | xis (i : Nat) (ts : List XT)
  | peek (e : E)
  | un (o : U1) (a : E)
  | chn (o1 o2 : Cm) (a b c : E)
  | fld (e : E) (f : Str) (cs : List Nat)
  | dis (k : DK) (m : Str) (tb : List (Nat × Nat)) (e : E) (a : A)
  | mk (c f : Nat) (a : A) (ks : List Str) (kw : A)
  | isC (a : E) (c : Nat)
  | ixl (i : Nat) (k : E)
inductive A where
  | nil
  | cons (e : E) (r : A)
  | io (i : Nat) (r : A)
inductive L where
  | disp (a : A)
  | listOf (e : E)
  | callL (f : Nat) (a : A)
  | splt (a b : E)
  | lc (own : List Nat) (it : I) (p : Pt) (e : E)
  | lci (own : List Nat) (it : I) (p : Pt) (c e : E)
  | cat (a b : E)
  | rep (a n : E)
  | slF (a lo : E)
  | slT (a hi : E)
  | slB (a lo hi : E)
  | srt (a : E)
  | rng1 (a : E)
  | rng2 (a b : E)
  | peek (l : L)
  | slFl (i : Nat) (lo : E)
  | slTl (i : Nat) (hi : E)
  | slBl (i : Nat) (lo hi : E)
/-- what is walked -/
inductive I where
  | seq (e : E)
  | rng1 (a : E)
  | rng2 (a b : E)
  | rng3 (a b c : E)
  | zip (a b : E)
  | enm (a : E)
  | rev (a : E)
end
/-- makers of trees -/
inductive NM where
  | lc (own : List Nat) (it : I) (p : Pt) (l : L)
inductive S where
  | nil
  | seq (a b : S)
  | pass
  | asg (i : Nat) (e : E)
  | asgT (is : List Nat) (e : E)
  | par (i j : Nat) (a b : E)
  | newL (i : Nat) (l : L)
  | newT (i : Nat) (n : NM)
  | app (i : Nat) (e : E)
  | rev (i : Nat)
  | setI (i : Nat) (k e : E)
  | augI (op : Op2) (i : Nat) (k e : E)
  | aug (op : Op2) (i : Nat) (e : E)
  | appP (i : Nat) (k e : E)
  | setP (i : Nat) (k k2 e : E)
  | setF (i c : Nat) (f : Str) (e : E)
  | exp (e : E)
  | ite (c : E) (a b : S)
  | for (p : Pt) (it : I) (b : S)
  | whl (c : E) (b : S)
  | whlL (i : Nat) (b : S)
  | ret (e : E)
  | retL (i : Nat)
  | brk
  | cnt
  | nev
  | rse (c : Nat) (f : Str) (e : E)
  | tryx (m : Nat) (b h : S)
  | hnd (t : XT) (i : Option Nat) (s r : S)
inductive Out (α : Type) where
  | ok (d : α) (ρ : Env)
  | ex (c : Nat) (w : List (Str × D)) (ρ : Env)
def bnd {α β : Type} (m : Option (Out α)) (f : α → Env → Option (Out β)) : Option (Out β) :=
  match m with
  | none => none
  | some (.ok d ρ) => f d ρ
  | some (.ex c w ρ) => some (.ex c w ρ)
inductive AV where
  | v (d : D)
  | io (i : Nat)
inductive FOut where
  | ret (r : Slot) (outs : List Slot)
  | ex (c : Nat) (w : List (Str × D)) (outs : List Slot)
/-- what the defs mean; the exception at hand -/
structure Gam where
  fn : Nat → List Slot → Option FOut
  cur : Option (Nat × Nat × List (Str × D))
instance : CoeFun Gam (fun _ => Nat → List Slot → Option FOut) := ⟨Gam.fn⟩
def truthy : D → Option Bool
  | .non => some false
  | .bl b => some b
  | .int i => some (i != 0)
  | .str x => if x.length ≤ sizeLine then some ((x.length : Int) != 0) else none
  | .tup ds => some (!ds.isEmpty)
  | .lst ds => some (!ds.isEmpty)
  | .ins _ _ => none
  | .scr _ => none
def okMul (i j : Int) : Bool := decide (i.natAbs.log2 + j.natAbs.log2 < 1000000) || decide ((-(2 ^ 64) < i ∧ i < 2 ^ 64) ∨ (-(2 ^ 64) < j ∧ j < 2 ^ 64))
def okDiv (j : Int) : Bool := decide (0 < j ∧ j.natAbs.log2 < 9000)
def okPow (i j : Int) : Bool := decide (0 ≤ j ∧ j ≤ 1000000 ∧ i.natAbs < 2 ^ 64)
def binD : Op2 → D → D → Option D
  | .add, .int i, .int j => some (.int (i + j))
  | .add, .str a, .str b => if a.length + b.length ≤ sizeLine then some (.str (a ++ b)) else none
  | .sub, .int i, .int j => some (.int (i - j))
  | .mul, .int i, .int j => if okMul i j = true then some (.int (i * j)) else none
  | .fdiv, .int i, .int j => if okDiv j = true then some (.int (i / j)) else none
  | .mod, .int i, .int j => if 0 < j then some (.int (i % j)) else none
  | .pow, .int i, .int j => if okPow i j = true then some (.int (i ^ j.toNat)) else none
  | .add, .tup a, .tup b => if a.length + b.length ≤ sizeLine then some (.tup (a ++ b)) else none
  | .mul, .tup a, .int j => if a ≠ [] ∧ 2 ≤ j ∧ j ≤ 1000 ∧ a.length ≤ 1000 then some (.tup (List.replicate j.toNat a).flatten) else none
  | _, _, _ => none
def cmpD : Cm → Int → Int → Bool
  | .lt, i, j => decide (i < j)
  | .le, i, j => decide (i ≤ j)
  | .gt, i, j => decide (j < i)
  | .ge, i, j => decide (j ≤ i)
mutual
def toPy : D → Option PyData
  | .non => some .none
  | .bl b => some (.bool b)
  | .int i => some (.int i)
  | .str x => some (.str x)
  | .tup ds => (toPys ds).map .tuple
  | .lst ds => (toPys ds).map .list
  | .ins _ _ => none
  | .scr _ => none
def toPys : List D → Option (List PyData)
  | [] => some []
  | d :: ds => (toPy d).bind fun p => (toPys ds).map fun ps => p :: ps
end
def eqD (a b : D) : Option Bool :=
  (toPy a).bind fun p => (toPy b).bind fun q => if SeqAt.shaped p = true ∧ SeqAt.shaped q = true then some (PyData.eqv p q) else none
def tyOf : D → Option String
  | .non => some "NoneType"
  | .bl _ => some "bool"
  | .int _ => some "int"
  | .str _ => some "str"
  | .tup _ => some "tuple"
  | .lst _ => some "list"
  | .ins _ _ => none
  | .scr _ => none
def isTy (d : D) (t : Ty) : Bool := match d, t with
  | .bl _, .bool | .bl _, .int | .int _, .int | .str _, .str | .tup _, .tuple | .lst _, .list => true
  | _, _ => false
def isTyD (d : D) (ts : List Ty) : Option Bool := (tyOf d).map fun _ => ts.any fun t => isTy d t
def isNon : D → Bool
  | .non => true
  | _ => false
def vals : List AV → Option (List D)
  | [] => some []
  | .v d :: r => (vals r).map fun ds => d :: ds
  | .io _ :: _ => none
def slotsOf (ρ : Env) : List AV → List Slot
  | [] => []
  | .v d :: r => .v d :: slotsOf ρ r
  | .io i :: r => ρ.at i :: slotsOf ρ r
def iosOf : List AV → List Nat
  | [] => []
  | .v _ :: r => iosOf r
  | .io i :: r => i :: iosOf r
def iosOk (ρ : Env) (avs : List AV) : Bool := decide (iosOf avs).Nodup && (iosOf avs).all fun i => isOwn (ρ.at i)
def putBack (ρ : Env) : List AV → List Slot → Env
  | .v _ :: r, _ :: o => putBack ρ r o
  | .io i :: r, s :: o => putBack (ρ.set i s) r o
  | _, _ => ρ
def ok1 {α : Type} (o : Option α) (ρ : Env) : Option (Out α) := o.map fun d => .ok d ρ
def items : D → Option (List D)
  | .tup ds => some ds
  | .lst ds => some ds
  | .scr ds => some ds
  | _ => none
def negD : D → Option D
  | .int i => some (.int (-i))
  | _ => none
def cmpDD (op : Cm) : D → D → Option D
  | .int i, .int j => some (.bl (cmpD op i j))
  | _, _ => none
def absD : D → Option D
  | .int i => some (.int (if i < 0 then -i else i))
  | _ => none
def int1D : D → Option D
  | .int i => some (.int i)
  | .str a => if a.length ≤ 640 then (PySem.intText? a).map .int else none
  | _ => none
def bitsD : D → Option D
  | .int i => some (.int (Builtin.Int.intBits i : Nat))
  | _ => none
def min2D : D → D → Option D
  | .int i, .int j => some (.int (if j < i then j else i))
  | _, _ => none
def max2D : D → D → Option D
  | .int i, .int j => some (.int (if j > i then j else i))
  | _, _ => none
def gcdD : D → D → Option D
  | .int i, .int j => some (.int ((Nat.gcd i.natAbs j.natAbs : Nat) : Int))
  | _, _ => none
def lenQ (x : D) : Option D := (items x).map fun ds => .int ds.length
def lenD : D → Option D
  | .str z => if z.length ≤ sizeLine then some (.int z.length) else none
  | x => lenQ x
def tupD (x : D) : Option D := (items x).map .tup
def ixQ (x : D) : D → Option D
  | .int i => (items x).bind fun ds => atI ds i
  | _ => none
def ixS (z : Str) : D → Option D
  | .int i => if 0 ≤ i ∧ i < 2 ^ 63 ∧ i < z.length then (z.cps[i.toNat]?).map fun c => .str ⟨#[c]⟩ else none
  | _ => none
def ixD (x y : D) : Option D := match x with
  | .str z => ixS z y
  | x => ixQ x y
def eqqD (ne : Bool) (x y : D) : Option D := (eqD x y).map fun k => .bl (if ne then !k else k)
def isTDD (ts : List Ty) (x : D) : Option D := (isTyD x ts).map .bl
def isStr : D → Bool
  | .str _ => true
  | _ => false
/-- x[lo:hi] -/
def cutD (ds : List D) (lo hi : Option Int) : List D := (ds.drop (HT.sIx ds.length 0 lo)).take (HT.sIx ds.length ds.length hi - HT.sIx ds.length 0 lo)
def slD (x : D) (lo hi : Option Int) : Option D := match x with
  | .str z => if z.length ≤ sizeLine then some (.str (cutS z lo hi)) else none
  | .tup ds => some (.tup (cutD ds lo hi))
  | _ => none
def slL (x : D) (lo hi : Option Int) : Option (List D) := match x with
  | .lst ds => some (cutD ds lo hi)
  | _ => none
def slFD (x lo : D) : Option D := match lo with
  | .int i => slD x (some i) none
  | _ => none
def slTD (x hi : D) : Option D := match hi with
  | .int i => slD x none (some i)
  | _ => none
def slBD (x lo hi : D) : Option D := match lo, hi with
  | .int i, .int j => slD x (some i) (some j)
  | _, _ => none
def slFL (x lo : D) : Option (List D) := match lo with
  | .int i => slL x (some i) none
  | _ => none
def slTL (x hi : D) : Option (List D) := match hi with
  | .int i => slL x none (some i)
  | _ => none
def slBL (x lo hi : D) : Option (List D) := match lo, hi with
  | .int i, .int j => slL x (some i) (some j)
  | _, _ => none
/-! whole rows of numbers, of truths, of pairs -/
def isIntD : D → Bool
  | .int _ => true
  | _ => false
def intOf : D → Option Int
  | .int i => some i
  | _ => none
def blOf : D → Option Bool
  | .bl b => some b
  | _ => none
def pairOf : D → Option (Int × Int)
  | .tup [.int i, .int j] => some (i, j)
  | _ => none
def allOf {α : Type} (f : D → Option α) : List D → Option (List α)
  | [] => some []
  | d :: ds => (f d).bind fun a => (allOf f ds).map fun r => a :: r
def mnI : List Int → Option Int
  | [] => none
  | a :: r => some (r.foldl (fun m x => if x < m then x else m) a)
def mxI : List Int → Option Int
  | [] => none
  | a :: r => some (r.foldl (fun m x => if m < x then x else m) a)
def lstItems : D → Option (List D)
  | .lst ds => some ds
  | _ => none
def unD : U1 → D → Option D
  | .sum, x => (lstItems x).bind fun ds => (allOf intOf ds).map fun ns => .int ns.sum
  | .any, x => (lstItems x).bind fun ds => (allOf blOf ds).map fun ns => .bl (ns.any id)
  | .all, x => (lstItems x).bind fun ds => (allOf blOf ds).map fun ns => .bl (ns.all id)
  | .mn, x => (lstItems x).bind fun ds => (allOf intOf ds).bind fun ns => (mnI ns).map .int
  | .mx, x => (lstItems x).bind fun ds => (allOf intOf ds).bind fun ns => (mxI ns).map .int
def lePair (p q : Int × Int) : Bool := decide (p.1 < q.1) || (decide (p.1 = q.1) && decide (p.2 ≤ q.2))
def pairD (p : Int × Int) : D := .tup [.int p.1, .int p.2]
/-- sorted: ints, or pairs of ints -/
def sortD : D → Option (List D)
  | .lst ds => (match allOf intOf ds with
    | some ns => some ((ns.mergeSort fun a b => decide (a ≤ b)).map .int)
    | none => (allOf pairOf ds).map fun ps => (ps.mergeSort lePair).map pairD)
  | _ => none
def catL : D → D → Option (List D)
  | .lst a, .lst b => if a.length + b.length ≤ sizeLine then some (a ++ b) else none
  | _, _ => none
def repL : D → D → Option (List D)
  | .lst a, .int k => if -(2 ^ 63) ≤ k ∧ k < 2 ^ 63 ∧ a.length * k.toNat ≤ sizeLine then some (List.replicate k.toNat a).flatten else none
  | _, _ => none
def okR (i : Int) : Bool := decide (-(2 ^ 62) ≤ i ∧ i < 2 ^ 62)
def rngD (lo c : Int) (n : Nat) : List D := (List.range n).map fun (k : Nat) => D.int (lo + (k : Int) * c)
def rng1D : D → Option (List D)
  | .int j => if okR j = true then some (rngD 0 1 j.toNat) else none
  | _ => none
def rng2D : D → D → Option (List D)
  | .int i, .int j => if okR i = true ∧ okR j = true then some (rngD i 1 (j - i).toNat) else none
  | _, _ => none
def rng3D : D → D → D → Option (List D)
  | .int i, .int j, .int c => if okR i = true ∧ okR j = true ∧ c = -1 then some (rngD i (-1) (i - j).toNat) else none
  | _, _, _ => none
def lineD (o : Option (List D)) : Option (List D) := o.bind fun ds => if ds.length ≤ 2 ^ 24 then some ds else none
def zip2 : List D → List D → List D
  | a :: x, b :: y => .tup [a, b] :: zip2 x y
  | _, _ => []
def sameKind : D → D → Bool
  | .lst _, .lst _ => true
  | .tup _, .tup _ => true
  | _, _ => false
def zipD (x y : D) : Option (List D) := if sameKind x y = true then (items x).bind fun a => (items y).map fun b => zip2 a b else none
def enmD : D → Option (List D)
  | .lst ds => some (zip2 (rngD 0 1 ds.length) ds)
  | _ => none
def revI (x : D) : Option (List D) := (items x).map List.reverse
/-- what a for walks -/
def walkD : D → Option (List D)
  | .str z => some (z.cps.toList.map fun c => D.str ⟨#[c]⟩)
  | x => items x
def fldD (f : Str) (cs : List Nat) : D → Option D
  | .ins c fs => if c ∈ cs then fs.lookup f else none
  | _ => none
def isCD (c : Nat) : D → Option D
  | .ins c' _ => some (.bl (c' == c))
  | x => (tyOf x).map fun _ => .bl false
def spltD (x y : D) : Option (List D) := match x, y with
  | .str a, .str b => if b.length ≠ 0 ∧ a.length + 2 ≤ sizeLine then some ((Txt.split a b).map .str) else none
  | _, _ => none
/-- a piece of an f-text -/
def fmtD : D → Option Str
  | .str y => if y.length ≤ sizeLine then some y else none
  | .int i => if i.natAbs.log2 < 1920 then some (toString i) else none
  | _ => none
/-- numbers and None alone -/
def isScal : D → Bool
  | .non => true
  | .bl _ => true
  | .int _ => true
  | .str _ => true
  | _ => false
def eqScal : D → D → Bool
  | .non, .non => true
  | .bl a, .bl b => a == b
  | .bl a, .int b => (if a then 1 else 0) == b
  | .int a, .bl b => a == (if b then 1 else 0)
  | .int a, .int b => a == b
  | .str a, .str b => a == b
  | _, _ => false
def inScal (x : D) : List D → Bool
  | [] => false
  | y :: ys => eqScal y x || inScal x ys
/-- x in y -/
def innB (x y : D) : Option Bool := match y with
  | .str j => (match x with
    | .str i => some (!(Builtin.Str.occurrences j i 0 j.length 1).isEmpty)
    | _ => none)
  | .lst ds => (toPy x).bind fun p => (toPys ds).bind fun qs => if SeqAt.shaped p = true ∧ SeqAt.shaped (.list qs) = true then some (qs.any fun z => PyData.eqv z p) else none
  | .tup ds => if isScal x = true ∧ ds.all isScal = true then some (inScal x ds) else none
  | _ => none
def innD (ne : Bool) (x y : D) : Option D := (innB x y).map fun k => .bl (if ne then !k else k)
def strD : D → Option D
  | .int i => if i.natAbs.log2 < 1920 then some (.str (toString i)) else none
  | _ => none
def startD' : D → D → Option D
  | .str a, .str b => some (.bl (Txt.startswith a b))
  | _, _ => none
def partD : D → D → Option D
  | .str a, .str b => if b.length ≠ 0 ∧ a.length ≤ sizeLine then some (.tup [.str (Txt.partition a b).1, .str (Txt.partition a b).2.1, .str (Txt.partition a b).2.2]) else none
  | _, _ => none
def xfE (cur : Option (Nat × Nat × List (Str × D))) (i : Nat) (f : Str) (ρ : Env) : Option (Out D) := match cur with
  | some (j, _, w) => if i = j then ok1 (w.lookup f) ρ else none
  | none => none
def xisE (cur : Option (Nat × Nat × List (Str × D))) (i : Nat) (ts : List XT) (ρ : Env) : Option (Out D) := match cur with
  | some (j, c, _) => if i = j then some (.ok (.bl (ts.any (hitX c))) ρ) else none
  | none => none
/-- the class of an instance that has no attribute m -/
def insOf (m : Str) : D → Option Nat
  | .ins c gs => if (gs.lookup m).isNone = true then some c else none
  | _ => none
def okOnly {α β : Type} (m : Option (Out α)) (f : α → Env → Option (Out β)) : Option (Out β) := match m with
  | some (.ok d ρ) => f d ρ
  | _ => none
def dkE : DK → Option (Out D) → Option (Out D)
  | .meth, o => o
  | .prop, some (.ok d ρ) => some (.ok d ρ)
  | .prop, _ => none
/-- seen as data: what comes out is flat -/
def peekE (m : Option (Out D)) (ρ : Env) : Option (Out D) := match m with
  | some (.ok d _) => if flat d = true then some (.ok d ρ) else none
  | some (.ex c w _) => if flats (w.map (·.2)) = true then some (.ex c w ρ) else none
  | none => none
def peekL (m : Option (Out (List D))) (ρ : Env) : Option (Out (List D)) := match m with
  | some (.ok ds _) => if flats ds = true then some (.ok ds ρ) else none
  | some (.ex c w _) => if flats (w.map (·.2)) = true then some (.ex c w ρ) else none
  | none => none
def callE (g : List Slot → Option FOut) (avs : List AV) (ρ : Env) : Option (Out D) := if iosOk ρ avs = true then match g (slotsOf ρ avs) with
    | some (.ret .no _) => none
    | some (.ret s outs) => some (.ok (frzS s) (putBack ρ avs outs))
    | some (.ex c w outs) => some (.ex c w (putBack ρ avs outs))
    | none => none else none
def callLE (g : List Slot → Option FOut) (avs : List AV) (ρ : Env) : Option (Out (List D)) := if iosOk ρ avs = true then match g (slotsOf ρ avs) with
    | some (.ret (.l ds) outs) => some (.ok ds (putBack ρ avs outs))
    | some (.ex c w outs) => some (.ex c w (putBack ρ avs outs))
    | _ => none else none
/-- a new instance of class c by its __init__ -/
def mkE (g : List Slot → Option FOut) (c : Nat) (avs : List AV) (ρ : Env) : Option (Out D) := if iosOk ρ avs = true then match g (.o c [] :: slotsOf ρ avs) with
    | some (.ret (.v .non) (.o c' fs :: outs)) => if c' = c then some (.ok (frzS (.o c fs)) (putBack ρ avs outs)) else none
    | some (.ex c w (_ :: outs)) => some (.ex c w (putBack ρ avs outs))
    | _ => none else none
def setAll (ρ : Env) : List Nat → List D → Env
  | i :: is, d :: ds => setAll (ρ.set i (.v d)) is ds
  | _, _ => ρ
def bindE {α : Type} (p : Pt) (d : D) (ρ : Env) (f : Env → Option α) : Option α := match p with
  | .n i => if i < ρ.length then f (ρ.set i (.v d)) else none
  | .t is => match items d with
    | some ds => if ds.length = is.length ∧ (is.all fun i => decide (i < ρ.length)) = true then f (setAll ρ is ds) else none
    | none => none
def lcS (g : D → Env → Option (Out (Option D))) (own : List Nat) : List D → List D → Env → Option (List D × Env)
  | [], acc, ρ => some (acc, ρ)
  | d :: ds, acc, ρ => match g d ρ with
    | some (.ok (some x) ρ') => if acc.length < sizeLine then lcS g own ds (acc ++ [x]) (wipeE ρ' own) else none
    | some (.ok none ρ') => lcS g own ds acc (wipeE ρ' own)
    | _ => none
def lcE (own : List Nat) (g : D → Env → Option (Out (Option D))) (ds : List D) (ρ : Env) : Option (Out (List D)) :=
  if (own.all fun i => !isOwn (ρ.at i)) = true then (match lcS g own ds [] (wipeE ρ own) with
    | some (acc, ρ') => some (.ok acc (backE ρ ρ' own))
    | none => none) else none
def lcT (g : D → Env → Option (Out (List D))) (own : List Nat) : List D → List Cel → Env → Option (List Cel × Env)
  | [], acc, ρ => some (acc, ρ)
  | d :: ds, acc, ρ => match g d ρ with
    | some (.ok x ρ') => if acc.length < sizeLine then lcT g own ds (acc ++ [.l x]) (wipeE ρ' own) else none
    | _ => none
def lcN (own : List Nat) (g : D → Env → Option (Out (List D))) (ds : List D) (ρ : Env) : Option (Out (List Cel)) :=
  if (own.all fun i => !isOwn (ρ.at i)) = true then (match lcT g own ds [] (wipeE ρ own) with
    | some (acc, ρ') => some (.ok acc (backE ρ ρ' own))
    | none => none) else none
def isL : Slot → Bool
  | .l _ => true
  | _ => false
def getIS (i : Nat) (z : D) (ρ : Env) : Option D := match ρ.at i, z with
  | .l ds, .int k => atI ds k
  | _, _ => none
def slOwn (i : Nat) (lo hi : Option D) (ρ : Env) : Option (List D) := match ρ.at i with
  | .l ds => (match lo, hi with
    | some y, none => slFL (.lst ds) y
    | none, some z => slTL (.lst ds) z
    | some y, some z => slBL (.lst ds) y z
    | none, none => none)
  | _ => none
def testL (i : Nat) (ρ : Env) : Option (Out Bool) := match ρ.at i with
  | .l ds => some (.ok (!ds.isEmpty) ρ)
  | _ => none
mutual
def evE (Γ : Gam) : E → Env → Option (Out D)
  | .var i, ρ => match ρ.at i with
    | .v d => some (.ok d ρ)
    | .no => none
    | s => some (.ok (frzS s) (ρ.set i (.v (frzS s))))
  | .cst d, ρ => some (.ok d ρ)
  | .tup a, ρ => bnd (evA Γ a ρ) fun avs ρ => ok1 ((vals avs).bind fun ds => if ds.length ≤ sizeLine then some (.tup ds) else none) ρ
  | .bin op a b, ρ => bnd (evE Γ a ρ) fun x ρ => bnd (evE Γ b ρ) fun y ρ => ok1 (binD op x y) ρ
  | .neg a, ρ => bnd (evE Γ a ρ) fun x ρ => ok1 (negD x) ρ
  | .cmp op a b, ρ => bnd (evE Γ a ρ) fun x ρ => bnd (evE Γ b ρ) fun y ρ => ok1 (cmpDD op x y) ρ
  | .eqq ne a b, ρ => bnd (evE Γ a ρ) fun x ρ => bnd (evE Γ b ρ) fun y ρ => ok1 (eqqD ne x y) ρ
  | .isN ne a, ρ => bnd (evE Γ a ρ) fun x ρ => some (.ok (.bl (if ne then !isNon x else isNon x)) ρ)
  | .and a b, ρ => bnd (evE Γ a ρ) fun x ρ => match truthy x with
    | some true => evE Γ b ρ
    | some false => some (.ok x ρ)
    | none => none
  | .or a b, ρ => bnd (evE Γ a ρ) fun x ρ => match truthy x with
    | some false => evE Γ b ρ
    | some true => some (.ok x ρ)
    | none => none
  | .not a, ρ => bnd (evE Γ a ρ) fun x ρ => ok1 ((truthy x).map fun k => .bl (!k)) ρ
  | .ifx c a b, ρ => bnd (bnd (evE Γ c ρ) fun x ρ => ok1 (truthy x) ρ) fun k ρ => match k with
    | true => evE Γ a ρ
    | false => evE Γ b ρ
  | .call f a, ρ => bnd (evA Γ a ρ) fun avs ρ => callE (Γ f) avs ρ
  | .isT a ts, ρ => bnd (evE Γ a ρ) fun x ρ => ok1 (isTDD ts x) ρ
  | .len a, ρ => bnd (evE Γ a ρ) fun x ρ => ok1 (lenD x) ρ
  | .lenl i, ρ => match ρ.at i with
    | .l ds => some (.ok (.int ds.length) ρ)
    | .v d => ok1 (lenD d) ρ
    | _ => none
  | .abs a, ρ => bnd (evE Γ a ρ) fun x ρ => ok1 (absD x) ρ
  | .int1 a, ρ => bnd (evE Γ a ρ) fun x ρ => ok1 (int1D x) ρ
  | .min2 a b, ρ => bnd (evE Γ a ρ) fun x ρ => bnd (evE Γ b ρ) fun y ρ => ok1 (min2D x y) ρ
  | .max2 a b, ρ => bnd (evE Γ a ρ) fun x ρ => bnd (evE Γ b ρ) fun y ρ => ok1 (max2D x y) ρ
  | .gcd a b, ρ => bnd (evE Γ a ρ) fun x ρ => bnd (evE Γ b ρ) fun y ρ => ok1 (gcdD x y) ρ
  | .bits a, ρ => bnd (evE Γ a ρ) fun x ρ => ok1 (bitsD x) ρ
  | .ix a b, ρ => bnd (evE Γ a ρ) fun x ρ => bnd (evE Γ b ρ) fun y ρ => ok1 (ixD x y) ρ
  | .pop i, ρ => match ρ.at i with
    | .l ds => ok1 (ds[ds.length - 1]?) (ρ.set i (.l ds.dropLast))
    | _ => none
  | .tupOf a, ρ => bnd (evE Γ a ρ) fun x ρ => ok1 (tupD x) ρ
  | .ofL l, ρ => bnd (evL Γ l ρ) fun ds ρ => some (.ok (.lst ds) ρ)
  | .glo _ d, ρ => some (.ok d ρ)
  | .inn ne a b, ρ => bnd (evE Γ a ρ) fun x ρ => bnd (evE Γ b ρ) fun y ρ => ok1 (innD ne x y) ρ
  | .strI a, ρ => bnd (evE Γ a ρ) fun x ρ => ok1 (strD x) ρ
  | .startsw a b, ρ => bnd (evE Γ a ρ) fun x ρ => if isStr x = true then bnd (evE Γ b ρ) fun y ρ => ok1 (startD' x y) ρ else none
  | .partn a b, ρ => bnd (evE Γ a ρ) fun x ρ => if isStr x = true then bnd (evE Γ b ρ) fun y ρ => ok1 (partD x y) ρ else none
  | .slF a b, ρ => bnd (evE Γ a ρ) fun x ρ => bnd (evE Γ b ρ) fun y ρ => ok1 (slFD x y) ρ
  | .slT a b, ρ => bnd (evE Γ a ρ) fun x ρ => bnd (evE Γ b ρ) fun y ρ => ok1 (slTD x y) ρ
  | .fst a, ρ => evF Γ a Str.empty ρ
  | .xf i f, ρ => xfE Γ.cur i f ρ
  | .xis i ts, ρ => xisE Γ.cur i ts ρ
  | .slB a b c, ρ => bnd (evE Γ a ρ) fun x ρ => bnd (evE Γ b ρ) fun y ρ => if isIntD y = true then bnd (evE Γ c ρ) fun z ρ => ok1 (slBD x y z) ρ else none
  | .peek e, ρ => peekE (evE Γ e (ρ.map viewS)) ρ
  | .un o a, ρ => bnd (evE Γ a ρ) fun x ρ => ok1 (unD o x) ρ
  | .chn o1 o2 a b c, ρ => bnd (evE Γ a ρ) fun x ρ => bnd (evE Γ b ρ) fun y ρ => match cmpDD o1 x y with
    | some (.bl true) => bnd (evE Γ c ρ) fun z ρ => ok1 (cmpDD o2 y z) ρ
    | some (.bl false) => some (.ok (.bl false) ρ)
    | _ => none
  | .fld e f cs, ρ => bnd (evE Γ e ρ) fun x ρ => ok1 (fldD f cs x) ρ
  | .dis k m tb e a, ρ => okOnly (evE Γ e ρ) fun x ρ => match insOf m x with
    | some c => (match tb.lookup c with
      | some f => bnd (evA Γ a ρ) fun avs ρ => dkE k (callE (Γ f) (.v x :: avs) ρ)
      | none => none)
    | none => none
  | .mk c f a ks kw, ρ => bnd (evA Γ a ρ) fun avs ρ => bnd (evA Γ kw ρ) fun kvs ρ => if kvs.length = ks.length then mkE (Γ f) c (avs ++ kvs) ρ else none
  | .isC a c, ρ => bnd (evE Γ a ρ) fun x ρ => ok1 (isCD c x) ρ
  | .ixl i k, ρ => if isL (ρ.at i) = true then bnd (evE Γ k ρ) fun z ρ => ok1 (getIS i z ρ) ρ else none
def evA (Γ : Gam) : A → Env → Option (Out (List AV))
  | .nil, ρ => some (.ok [] ρ)
  | .cons e r, ρ => bnd (evE Γ e ρ) fun d ρ => bnd (evA Γ r ρ) fun ds ρ => some (.ok (.v d :: ds) ρ)
  | .io i r, ρ => if isOwn (ρ.at i) = true then bnd (evA Γ r ρ) fun ds ρ => some (.ok (.io i :: ds) ρ) else none
/-- the pieces of an f-text, one behind the other -/
def evF (Γ : Gam) : A → Str → Env → Option (Out D)
  | .nil, acc, ρ => some (.ok (.str acc) ρ)
  | .cons e r, acc, ρ => bnd (evE Γ e ρ) fun d ρ => match fmtD d with
    | some y => if (acc ++ y).length ≤ sizeLine then evF Γ r (acc ++ y) ρ else none
    | none => none
  | .io _ _, _, _ => none
def evL (Γ : Gam) : L → Env → Option (Out (List D))
  | .disp a, ρ => bnd (evA Γ a ρ) fun avs ρ => ok1 ((vals avs).bind fun ds => if ds.length ≤ sizeLine then some ds else none) ρ
  | .listOf e, ρ => bnd (evE Γ e ρ) fun x ρ => ok1 (items x) ρ
  | .callL f a, ρ => bnd (evA Γ a ρ) fun avs ρ => callLE (Γ f) avs ρ
  | .splt a b, ρ => bnd (evE Γ a ρ) fun x ρ => if isStr x = true then bnd (evE Γ b ρ) fun y ρ => ok1 (spltD x y) ρ else none
  | .lc own it p e, ρ => bnd (evI Γ it ρ) fun ds ρ => lcE own (fun d ρ => bindE p d ρ fun ρ => bnd (evE Γ e ρ) fun x ρ => some (.ok (some x) ρ)) ds ρ
  | .lci own it p c e, ρ => bnd (evI Γ it ρ) fun ds ρ => lcE own (fun d ρ => bindE p d ρ fun ρ => bnd (bnd (evE Γ c ρ) fun x ρ => ok1 (truthy x) ρ) fun k ρ => match k with
    | true => bnd (evE Γ e ρ) fun x ρ => some (.ok (some x) ρ)
    | false => some (.ok none ρ)) ds ρ
  | .cat a b, ρ => bnd (evE Γ a ρ) fun x ρ => bnd (evE Γ b ρ) fun y ρ => ok1 (catL x y) ρ
  | .rep a b, ρ => bnd (evE Γ a ρ) fun x ρ => bnd (evE Γ b ρ) fun y ρ => ok1 (repL x y) ρ
  | .slF a b, ρ => bnd (evE Γ a ρ) fun x ρ => bnd (evE Γ b ρ) fun y ρ => ok1 (slFL x y) ρ
  | .slT a b, ρ => bnd (evE Γ a ρ) fun x ρ => bnd (evE Γ b ρ) fun y ρ => ok1 (slTL x y) ρ
  | .slB a b c, ρ => bnd (evE Γ a ρ) fun x ρ => bnd (evE Γ b ρ) fun y ρ => if isIntD y = true then bnd (evE Γ c ρ) fun z ρ => ok1 (slBL x y z) ρ else none
  | .srt a, ρ => bnd (evE Γ a ρ) fun x ρ => ok1 (sortD x) ρ
  | .rng1 a, ρ => bnd (evE Γ a ρ) fun x ρ => ok1 (lineD (rng1D x)) ρ
  | .rng2 a b, ρ => bnd (evE Γ a ρ) fun x ρ => bnd (evE Γ b ρ) fun y ρ => ok1 (lineD (rng2D x y)) ρ
  | .peek l, ρ => peekL (evL Γ l (ρ.map viewS)) ρ
  | .slFl i a, ρ => if isL (ρ.at i) = true then bnd (evE Γ a ρ) fun y ρ => ok1 (slOwn i (some y) none ρ) ρ else none
  | .slTl i a, ρ => if isL (ρ.at i) = true then bnd (evE Γ a ρ) fun y ρ => ok1 (slOwn i none (some y) ρ) ρ else none
  | .slBl i a b, ρ => if isL (ρ.at i) = true then bnd (evE Γ a ρ) fun y ρ => if isIntD y = true then bnd (evE Γ b ρ) fun z ρ => ok1 (slOwn i (some y) (some z) ρ) ρ else none else none
/-- what is walked: its items -/
def evI (Γ : Gam) : I → Env → Option (Out (List D))
  | .seq e, ρ => bnd (evE Γ e ρ) fun x ρ => ok1 (walkD x) ρ
  | .rng1 a, ρ => bnd (evE Γ a ρ) fun x ρ => ok1 (rng1D x) ρ
  | .rng2 a b, ρ => bnd (evE Γ a ρ) fun x ρ => bnd (evE Γ b ρ) fun y ρ => ok1 (rng2D x y) ρ
  | .rng3 a b c, ρ => bnd (evE Γ a ρ) fun x ρ => bnd (evE Γ b ρ) fun y ρ => bnd (evE Γ c ρ) fun z ρ => ok1 (rng3D x y z) ρ
  | .zip a b, ρ => bnd (evE Γ a ρ) fun x ρ => bnd (evE Γ b ρ) fun y ρ => ok1 (zipD x y) ρ
  | .enm a, ρ => bnd (evE Γ a ρ) fun x ρ => ok1 (enmD x) ρ
  | .rev a, ρ => bnd (evE Γ a ρ) fun x ρ => ok1 (revI x) ρ
end
/-- a tree: a list of our own of lists of our own -/
def evN (Γ : Gam) : NM → Env → Option (Out (List Cel))
  | .lc own it p l, ρ => bnd (evI Γ it ρ) fun ds ρ => lcN own (fun d ρ => bindE p d ρ fun ρ => evL Γ l ρ) ds ρ
/-- a test -/
def evT (Γ : Gam) (e : E) (ρ : Env) : Option (Out Bool) := bnd (evE Γ e ρ) fun x ρ => ok1 (truthy x) ρ
inductive SOut where
  | nx (ρ : Env)
  | ret (r : Slot) (ρ : Env)
  | bk (ρ : Env)
  | ct (ρ : Env)
  | ex (c : Nat) (w : List (Str × D)) (ρ : Env)
def sbnd {α : Type} (m : Option (Out α)) (f : α → Env → Option SOut) : Option SOut :=
  match m with
  | none => none
  | some (.ok d ρ) => f d ρ
  | some (.ex c w ρ) => some (.ex c w ρ)
def thenS (m : Option SOut) (f : Env → Option SOut) : Option SOut :=
  match m with
  | some (.nx ρ) => f ρ
  | o => o
def loopS (f : D → Env → Option SOut) : List D → Env → Option SOut
  | [], ρ => some (.nx ρ)
  | d :: ds, ρ => match f d ρ with
    | some (.nx ρ') => loopS f ds ρ'
    | some (.ct ρ') => loopS f ds ρ'
    | some (.bk ρ') => some (.nx ρ')
    | o => o
def whileS (c : Env → Option (Out Bool)) (f : Env → Option SOut) : Nat → Env → Option SOut
  | 0, _ => none
  | n + 1, ρ => sbnd (c ρ) fun x ρ => match x with
    | true => (match f ρ with
      | some (.nx ρ') => whileS c f n ρ'
      | some (.ct ρ') => whileS c f n ρ'
      | some (.bk ρ') => some (.nx ρ')
      | o => o)
    | false => some (.nx ρ)
def setS (ρ : Env) (i : Nat) (s : Slot) : Option SOut := if i < ρ.length then some (.nx (ρ.set i s)) else none
def bindS (ρ : Env) (i : Nat) (s : Slot) (f : Env → Option SOut) : Option SOut := if i < ρ.length then f (ρ.set i s) else none
/-- an except suite lets no exception out -/
def noX : Option SOut → Option SOut
  | some (.ex _ _ _) => none
  | o => o
/-- the name of an except clause goes -/
def goneX (i : Nat) : SOut → SOut
  | .nx ρ => .nx (ρ.set i .no)
  | .ret r ρ => .ret r (ρ.set i .no)
  | .bk ρ => .bk (ρ.set i .no)
  | .ct ρ => .ct (ρ.set i .no)
  | .ex c w ρ => .ex c w (ρ.set i .no)
def setIS (i : Nat) (z d : D) (ρ : Env) : Option SOut := match ρ.at i, z with
  | .l ds, .int k => (match ixN ds.length k with
    | some j => some (.nx (ρ.set i (.l (ds.set j d))))
    | none => none)
  | _, _ => none
/-- a list of our own in a tree -/
def celAt (i : Nat) (z : D) (ρ : Env) : Option (Nat × List D) := match ρ.at i, z with
  | .t cs, .int k => (match ixN cs.length k with
    | some j => (match cs[j]? with
      | some (.l es) => some (j, es)
      | _ => none)
    | none => none)
  | _, _ => none
def setC (i j : Nat) (c : Cel) (ρ : Env) : Option SOut := match ρ.at i with
  | .t cs => some (.nx (ρ.set i (.t (cs.set j c))))
  | _ => none
/-- a place of a list in a tree is stored -/
def setPS (i j : Nat) (es : List D) (d : D) (s : Slot) (z : D) (ρ : Env) : Option SOut := match z with
  | .int q => (match ixN es.length q with
    | some m => setC i j (.l (es.set m d)) (ρ.set i s)
    | none => none)
  | _ => none
def setFS (i c0 : Nat) (f : Str) (d : D) (ρ : Env) : Option SOut := match ρ.at i with
  | .o c fs => if c = c0 ∧ fs.length < 1000 then some (.nx (ρ.set i (.o c (putC f (.d d) fs)))) else none
  | _ => none
mutual
def evS (Γ : Gam) (fu : Nat) : S → Env → Option SOut
  | .nil, ρ => some (.nx ρ)
  | .seq a b, ρ => thenS (evS Γ fu a ρ) (evS Γ fu b)
  | .pass, ρ => some (.nx ρ)
  | .asg i e, ρ => sbnd (evE Γ e ρ) fun d ρ => setS ρ i (.v d)
  | .asgT is e, ρ => sbnd (evE Γ e ρ) fun d ρ => bindE (.t is) d ρ fun ρ => some (.nx ρ)
  | .par i j a b, ρ => sbnd (evE Γ a ρ) fun x ρ => sbnd (evE Γ b ρ) fun y ρ => bindS ρ i (.v x) fun ρ => setS ρ j (.v y)
  | .newL i l, ρ => sbnd (evL Γ l ρ) fun ds ρ => setS ρ i (.l ds)
  | .app i e, ρ => match ρ.at i with
    | .l _ => sbnd (evE Γ e ρ) fun d ρ => match ρ.at i with
      | .l ds => if ds.length < sizeLine then some (.nx (ρ.set i (.l (ds ++ [d])))) else none
      | _ => none
    | _ => none
  | .rev i, ρ => match ρ.at i with
    | .l ds => some (.nx (ρ.set i (.l ds.reverse)))
    | _ => none
  | .newT i n, ρ => sbnd (evN Γ n ρ) fun cs ρ => setS ρ i (.t cs)
  | .setI i k e, ρ => sbnd (evE Γ e ρ) fun d ρ => if isL (ρ.at i) = true then sbnd (evE Γ k ρ) fun z ρ => setIS i z d ρ else none
  | .augI op i k e, ρ => if isL (ρ.at i) = true then sbnd (evE Γ k ρ) fun z ρ => match getIS i z ρ with
    | some x => sbnd (evE Γ e (ρ.set i .no)) fun d ρ' => (match binD op x d with
      | some y => setIS i z y (ρ'.set i (ρ.at i))
      | none => none)
    | none => none else none
  | .aug op i e, ρ => match ρ.at i with
    | .v (.int x) => sbnd (evE Γ e ρ) fun d ρ => (match binD op (.int x) d with
      | some (.int y) => setS ρ i (.v (.int y))
      | _ => none)
    | _ => none
  | .appP i k e, ρ => if isOwn (ρ.at i) = true then sbnd (evE Γ k ρ) fun z ρ => match celAt i z ρ with
    | some (j, es) => sbnd (evE Γ e (ρ.set i .no)) fun d ρ' => if es.length < sizeLine then setC i j (.l (es ++ [d])) (ρ'.set i (ρ.at i)) else none
    | none => none else none
  | .setP i k k2 e, ρ => sbnd (evE Γ e ρ) fun d ρ => if isOwn (ρ.at i) = true then sbnd (evE Γ k ρ) fun z ρ => match celAt i z ρ with
    | some (j, es) => sbnd (evE Γ k2 (ρ.set i .no)) fun z2 ρ' => setPS i j es d (ρ.at i) z2 ρ'
    | none => none else none
  | .setF i c f e, ρ => sbnd (evE Γ e ρ) fun d ρ => setFS i c f d ρ
  | .exp e, ρ => sbnd (evE Γ e ρ) fun _ ρ => some (.nx ρ)
  | .ite c a b, ρ => sbnd (evT Γ c ρ) fun x ρ => match x with
    | true => evS Γ fu a ρ
    | false => evS Γ fu b ρ
  | .for p it b, ρ => sbnd (evI Γ it ρ) fun ds ρ => loopS (fun d ρ => bindE p d ρ (evS Γ fu b)) ds ρ
  | .whl c b, ρ => whileS (evT Γ c) (evS Γ fu b) fu ρ
  | .whlL i b, ρ => whileS (testL i) (evS Γ fu b) fu ρ
  | .ret e, ρ => sbnd (evE Γ e ρ) fun d ρ => some (.ret (.v d) ρ)
  | .retL i, ρ => match ρ.at i with
    | .no => none
    | .v _ => none
    | s => some (.ret s ρ)
  | .brk, ρ => some (.bk ρ)
  | .cnt, ρ => some (.ct ρ)
  | .nev, _ => none
  | .rse c f e, ρ => sbnd (evE Γ e ρ) fun d ρ => some (.ex c [(f, d)] ρ)
  | .tryx m b h, ρ => match evS Γ fu b ρ with
    | some (.ex c w ρ') => if c < m then evH Γ fu h c w ρ' else none
    | o => o
  | .hnd _ _ _ _, _ => none
/-- the except clauses, one after the other -/
def evH (Γ : Gam) (fu : Nat) : S → Nat → List (Str × D) → Env → Option SOut
  | .hnd t none s r, c, w, ρ => if hitX c t = true then noX (evS ⟨Γ.fn, none⟩ fu s ρ) else evH Γ fu r c w ρ
  | .hnd t (some i) s r, c, w, ρ => if hitX c t = true then (if i < ρ.length then (noX (evS ⟨Γ.fn, some (i, c, w)⟩ fu s (ρ.set i .no))).map (goneX i) else none) else evH Γ fu r c w ρ
  | _, c, w, ρ => some (.ex c w ρ)
end
structure Def where
  name : Str
  N : List Str
  np : Nat
  io : List Nat
  body : S
  cls : Option Str := none
  kw : List Str := []
def outsOf (io : List Nat) (np : Nat) (ρ : Env) : List Slot := (List.range np).map fun k => if k ∈ io then ρ.at k else .no
def startD (d : Def) (avs : List Slot) : Env := avs ++ List.replicate (d.N.length - avs.length) .no
def finish (d : Def) : Option SOut → Option FOut
  | some (.nx ρ) => some (.ret (.v .non) (outsOf d.io d.np ρ))
  | some (.ret r ρ) => some (.ret r (outsOf d.io d.np ρ))
  | some (.ex c w ρ) => some (.ex c w (outsOf d.io d.np ρ))
  | _ => none
def avsOk (d : Def) (avs : List Slot) : Bool := decide (avs.length = d.np) && (List.range d.np).all fun k => if k ∈ d.io then isOwn (Env.at avs k) else isVal (Env.at avs k)
def callD (defs : List Def) (fu : Nat) : Nat → Gam
  | 0 => ⟨fun _ _ => none, none⟩
  | n + 1 => ⟨fun f avs => match defs[f]? with
    | some d => if avsOk d avs = true then finish d (evS (callD defs fu n) fu d.body (startD d avs)) else none
    | none => none, none⟩
end VI
set_option maxHeartbeats 2000000
/-! Soundness, first part: expressions. -/
namespace VI
open PySem L2 Evl
/-- what is wanted behind an outcome -/
def FinG {α β : Type} (P : Par) (io : List Nat) (W : WX) (Hi : Hp) (σ : L2.St) (R : Par → Hp → Hp → (Nat → List Addr) → L2.St → β → α → Prop) (Q : β → Hp → Prop) : Option (Out α) → Prop
  | none => False
  | some (.ok d ρ) => ∀ v Hi' H' A, Ex Hi Hi' → RelA P io Hi' H' σ ρ A → R P Hi' H' A σ v d → Q v H'
  | some (.ex c w ρ) => ∀ dx fs Hi' H' A, Ex Hi Hi' → RelA P io Hi' H' σ ρ A → Hi' dx = some (.xd fs) → RepF P.K P.cl Hi' fs w → W (.ref (P.cl.fn c)) (some dx) σ H'
section
variable {α β γ δ : Type} {P : Par} {io : List Nat} {W : WX} {Hi Hi' : Hp} {σ : L2.St} {R : Par → Hp → Hp → (Nat → List Addr) → L2.St → β → α → Prop} {R2 : Par → Hp → Hp → (Nat → List Addr) → L2.St → δ → γ → Prop}
theorem FinG.mono {Q : β → Hp → Prop} (e : Ex Hi Hi') : ∀ {o : Option (Out α)}, FinG P io W Hi σ R Q o → FinG P io W Hi' σ R Q o
  | none, h => h
  | some (.ok _ _), h => fun v H1 H2 A e1 => h v H1 H2 A (e.trans e1)
  | some (.ex _ _ _), h => fun v fs H1 H2 A e1 => h v fs H1 H2 A (e.trans e1)
theorem FinG.bnd {Q : δ → Hp → Prop} {Q1 : β → Hp → Prop} {m : Option (Out α)} {f : α → Env → Option (Out γ)} (h : FinG P io W Hi σ R2 Q (bnd m f))
    (k : ∀ v Hi' H' ρ' A d, Ex Hi Hi' → RelA P io Hi' H' σ ρ' A → R P Hi' H' A σ v d → FinG P io W Hi' σ R2 Q (f d ρ') → Q1 v H') : FinG P io W Hi σ R Q1 m := by
  cases m with
  | none => exact h
  | some o =>
    cases o with
    | ok d ρ => exact fun v H1 H2 A e r1 r2 => k v H1 H2 ρ A d e r1 r2 (FinG.mono e h)
    | ex c w ρ => exact h
theorem FinG.ok {Q : β → Hp → Prop} {d : α} {ρ : Env} {H : Hp} {A : Nat → List Addr} {v : β} (h : FinG P io W Hi σ R Q (some (.ok d ρ))) (r : RelA P io Hi H σ ρ A) (q : R P Hi H A σ v d) : Q v H := h v Hi H A (Ex.refl _) r q
/-- .. where the heap has grown -/
theorem FinG.ok' {Q : β → Hp → Prop} {d : α} {ρ : Env} {H : Hp} {A : Nat → List Addr} {v : β} (h : FinG P io W Hi σ R Q (some (.ok d ρ))) (e : Ex Hi Hi') (r : RelA P io Hi' H σ ρ A) (q : R P Hi' H A σ v d) : Q v H := h v Hi' H A e r q
theorem ok1_some {o : Option α} {ρ : Env} {Q : β → Hp → Prop} (h : FinG P io W Hi σ R Q (ok1 o ρ)) : ∃ d, o = some d ∧ FinG P io W Hi σ R Q (some (.ok d ρ)) := by
  cases o with
  | none => exact False.elim h
  | some d => exact ⟨d, rfl, h⟩
end
/-- the relations of results -/
def RV : Par → Hp → Hp → (Nat → List Addr) → L2.St → V → D → Prop := fun P Hi _ _ _ v d => Rep P.K P.cl Hi v d
def RT : Par → Hp → Hp → (Nat → List Addr) → L2.St → Bool → Bool → Prop := fun _ _ _ _ _ b d => b = d
inductive RepA (P : Par) (Hi : Hp) (σ : L2.St) : List V → List AV → Prop
  | nil : RepA P Hi σ [] []
  | v {v : V} {d : D} {vs : List V} {avs : List AV} : Rep P.K P.cl Hi v d → RepA P Hi σ vs avs → RepA P Hi σ (v :: vs) (.v d :: avs)
  | io {v : V} {i : Nat} {vs : List V} {avs : List AV} : sAt σ i = some v → RepA P Hi σ vs avs → RepA P Hi σ (v :: vs) (.io i :: avs)
def RA : Par → Hp → Hp → (Nat → List Addr) → L2.St → List V → List AV → Prop := fun P Hi _ _ σ vs avs => RepA P Hi σ vs avs
def RL : Par → Hp → Hp → (Nat → List Addr) → L2.St → V → List D → Prop := fun P Hi H A _ v ds => ∃ a vs, v = .ref a ∧ H a = some (.lst vs) ∧ Reps P.K P.cl Hi vs ds ∧ Hi a = none ∧ P.B a = none ∧ ∀ j, a ∉ A j
/-- an evaluator as a reading -/
def tG {α β : Type} (K : PySem.W.Frag) (cl : Cl) (io : List Nat) (W : WX) (R : Par → Hp → Hp → (Nat → List Addr) → L2.St → β → α → Prop) (ev : Env → Option (Out α)) : L2.St → Hp → (β → Hp → Prop) → Prop :=
  fun σ H Q => ∃ B Hi0 pin Hi ρ A, RelA ⟨K, cl, B, Hi0, pin⟩ io Hi H σ ρ A ∧ FinG ⟨K, cl, B, Hi0, pin⟩ io W Hi σ R Q (ev ρ)
theorem RepA.mono {P : Par} {Hi Hi' : Hp} {σ : L2.St} (e : Ex Hi Hi') : ∀ {vs : List V} {avs : List AV}, RepA P Hi σ vs avs → RepA P Hi' σ vs avs
  | _, _, .nil => .nil
  | _, _, .v r t => .v (r.mono e) (RepA.mono e t)
  | _, _, .io r t => .io r (RepA.mono e t)
theorem RepA.vals {P : Par} {Hi : Hp} {σ : L2.St} : ∀ {vs : List V} {avs : List AV} {ds : List D}, RepA P Hi σ vs avs → vals avs = some ds → Reps P.K P.cl Hi vs ds
  | _, _, _, .nil, h => by
    have e : [] = _ := Option.some.inj h
    subst e
    exact .nil
  | _, _, _, .v (avs := avs) r t, h => by
    unfold VI.vals at h
    cases q : VI.vals avs with
    | none => rw [q] at h; cases h
    | some es =>
      rw [q] at h
      have e := Option.some.inj h
      subst e
      exact .cons r (RepA.vals t q)
  | _, _, _, .io _ _, h => by
    unfold VI.vals at h
    cases h
theorem RepA.len {P : Par} {Hi : Hp} {σ : L2.St} : ∀ {vs : List V} {avs : List AV}, RepA P Hi σ vs avs → vs.length = avs.length
  | _, _, .nil => rfl
  | _, _, .v r t => by rw [List.length_cons, List.length_cons, t.len]
  | _, _, .io r t => by rw [List.length_cons, List.length_cons, t.len]
theorem PE.imp {X : Cx} {e : Expr} {t t' : TE} (h : PE X e t) (k : ∀ σ H Q, t' σ H Q → t σ H Q) : PE X e t' := ⟨fun pins s σ H Q I q => h.run pins s σ H Q I (k σ H Q q)⟩
theorem PT.imp {X : Cx} {e : Expr} {t t' : TT} (h : PT X e t) (k : ∀ σ H Q, t' σ H Q → t σ H Q) : PT X e t' := ⟨fun pins s σ H Q I q => h.run pins s σ H Q I (k σ H Q q)⟩
theorem PA.imp {X : Cx} {e : List Expr} {t t' : TA} (h : PA X e t) (k : ∀ σ H Q, t' σ H Q → t σ H Q) : PA X e t' := ⟨fun po pins s σ H Q I q => h.run po pins s σ H Q I (k σ H Q q)⟩
theorem PS.imp {X : Cx} {e : Stmt} {t t' : TS} (h : PS X e t) (k : ∀ D σ H, t' D σ H → t D σ H) : PS X e t' := ⟨fun pins s σ H D I q => h.run pins s σ H D I (k D σ H q)⟩
theorem PSs.imp {X : Cx} {e : List Stmt} {t t' : TS} (h : PSs X e t) (k : ∀ D σ H, t' D σ H → t D σ H) : PSs X e t' := ⟨fun pins s σ H D I q => h.run pins s σ H D I (k D σ H q)⟩
section
variable {X : Cx} {cl : Cl} {io : List Nat} {W : WX} {Γ : Gam} {a b c : Expr} {ia ib ic : E} {pos : Pos}
abbrev tE (X : Cx) (cl : Cl) (io : List Nat) (W : WX) (Γ : Gam) (e : E) : TE := tG X.K cl io W RV (evE Γ e)
abbrev tT (X : Cx) (cl : Cl) (io : List Nat) (W : WX) (Γ : Gam) (e : E) : TT := tG X.K cl io W RT (evT Γ e)
abbrev tA (X : Cx) (cl : Cl) (io : List Nat) (W : WX) (Γ : Gam) (e : A) : TA := tG X.K cl io W RA (evA Γ e)
abbrev tL (X : Cx) (cl : Cl) (io : List Nat) (W : WX) (Γ : Gam) (e : L) : TE := tG X.K cl io W RL (evL Γ e)
theorem snd_var {i : Nat} {x : Str} (hN : X.N[i]? = some x) (hv : Vis X.env.scope x) (hd : (x == ("__debug__" : Str)) = false) (hcd : (x == ("__classdict__" : Str)) = false) : PE X (.Name x pos) (tE X cl io W Γ (.var i)) := by
  refine PE.imp (pe_var hN hv hd hcd) ?_
  rintro σ H Q ⟨B, Hi0, pin, Hi, ρ, A, R, h⟩
  unfold evE at h
  cases q : ρ.at i with
  | no => rw [q] at h; exact h.elim
  | v d =>
    rw [q] at h
    obtain ⟨v, h1, h2⟩ := Rel.val ⟨A, R⟩ q
    exact ⟨v, h1, h.ok R h2⟩
  | l ds =>
    rw [q] at h
    obtain ⟨v, h1, h2, h3, h4⟩ := R.frzG (i := i) (by rw [q]; rfl)
    rw [q] at h3 h4
    exact ⟨v, sAt_some h1, h.ok' h2 h3 h4⟩
  | t ds =>
    rw [q] at h
    obtain ⟨v, h1, h2, h3, h4⟩ := R.frzG (i := i) (by rw [q]; rfl)
    rw [q] at h3 h4
    exact ⟨v, sAt_some h1, h.ok' h2 h3 h4⟩
  | o c ds =>
    rw [q] at h
    obtain ⟨v, h1, h2, h3, h4⟩ := R.frzG (i := i) (by rw [q]; rfl)
    rw [q] at h3 h4
    exact ⟨v, sAt_some h1, h.ok' h2 h3 h4⟩
def constD : Const → Option D
  | .none => some .non
  | .bool b => some (.bl b)
  | .int i => some (.int i)
  | .str x => some (.str x)
  | _ => none
theorem snd_cst {k : Const} {d : D} {j : Nat} (hk : constD k = some d) : PE X (.Constant k j pos) (tE X cl io W Γ (.cst d)) := by
  have fin : ∀ {v : V}, (∀ K cl Hi, Rep K cl Hi v d) → ∀ σ H Q, tE X cl io W Γ (.cst d) σ H Q → tC v σ H Q := by
    rintro v hr σ H Q ⟨B, Hi0, pin, Hi, ρ, A, R, h⟩
    exact h.ok R (hr _ _ _)
  cases k with
  | none => cases hk; exact PE.imp pe_non (fin fun _ _ _ => .non)
  | bool b => cases hk; exact PE.imp pe_bl (fin fun _ _ _ => .bl b)
  | int i => cases hk; exact PE.imp pe_int (fin fun _ _ _ => .int i)
  | str x => cases hk; exact PE.imp pe_str (fin fun _ _ _ => .str x)
  | _ => cases hk
theorem snd_tup {es : List Expr} {k : Nat} {ia : A} (ha : PA X es (tA X cl io W Γ ia)) : PE X (.Tuple es k pos) (tE X cl io W Γ (.tup ia)) := by
  refine PE.imp (pe_tup ha) ?_
  rintro σ H Q ⟨B, Hi0, pin, Hi, ρ, A, R, h⟩
  refine ⟨B, Hi0, pin, Hi, ρ, A, R, ?_⟩
  unfold evE at h
  refine h.bnd fun vs Hi1 H1 ρ1 A1 avs e1 R1 r1 h1 => ?_
  obtain ⟨d, hd, h2⟩ := ok1_some h1
  cases q : vals avs with
  | none => rw [q] at hd; cases hd
  | some ds =>
    rw [q] at hd
    have hr := r1.vals q
    by_cases hl : ds.length ≤ sizeLine
    · have hd' : (if ds.length ≤ sizeLine then some (D.tup ds) else none) = some d := hd
      rw [if_pos hl] at hd'
      cases hd'
      refine ⟨by rw [hr.len]; exact hl, fun p hp => ?_⟩
      obtain ⟨A2, R2⟩ := Rel.newD (o := .tup vs) ⟨A1, R1⟩ hp
      have e2 : Ex Hi1 (upd Hi1 p (.tup vs)) := Ex.new (Rel.hfree ⟨A1, R1⟩ hp)
      exact h2.ok' e2 R2 (.tup (.inl (.inl upd_same)) (hr.mono e2))
    · have hd' : (if ds.length ≤ sizeLine then some (D.tup ds) else none) = some d := hd
      rw [if_neg hl] at hd'
      cases hd'
theorem snd_disp {es : List Expr} {ia : A} (ha : PA X es (tA X cl io W Γ ia)) : PE X (.List es pos) (tL X cl io W Γ (.disp ia)) := by
  refine PE.imp (pe_lst ha) ?_
  rintro σ H Q ⟨B, Hi0, pin, Hi, ρ, A, R, h⟩
  refine ⟨B, Hi0, pin, Hi, ρ, A, R, ?_⟩
  unfold evL at h
  refine h.bnd fun vs Hi1 H1 ρ1 A1 avs e1 R1 r1 h1 => ?_
  obtain ⟨d, hd, h2⟩ := ok1_some h1
  cases q : vals avs with
  | none => rw [q] at hd; cases hd
  | some ds =>
    rw [q] at hd
    have hr := r1.vals q
    by_cases hl : ds.length ≤ sizeLine
    · have hd' : (if ds.length ≤ sizeLine then some ds else none) = some d := hd
      rw [if_pos hl] at hd'
      cases hd'
      refine ⟨by rw [hr.len]; exact hl, fun p hp => ?_⟩
      have R2 := R1.step (H' := upd H1 p (.lst vs)) (Ex.refl _) (fun a u e => Ex.new hp a u (R1.i a u e)) (fun a u e n => Ex.new hp a u e) (fun _ _ e => e)
      refine h2.ok R2 ⟨p, vs, rfl, upd_same, hr, Rel.hfree ⟨A1, R1⟩ hp, fresh_back R1.b hp, R1.notin hp⟩
    · have hd' : (if ds.length ≤ sizeLine then some ds else none) = some d := hd
      rw [if_neg hl] at hd'
      cases hd'
/-- a new list as data -/
theorem ofL_imp {il : L} (σ : L2.St) (H : Hp) (Q : VK) (h : tE X cl io W Γ (.ofL il) σ H Q) : tL X cl io W Γ il σ H Q := by
  obtain ⟨B, Hi0, pin, Hi, ρ, A, R, h⟩ := h
  refine ⟨B, Hi0, pin, Hi, ρ, A, R, ?_⟩
  unfold evE at h
  refine h.bnd fun v Hi1 H1 ρ1 A1 ds e1 R1 r1 h1 => ?_
  obtain ⟨p, vs, rfl, hp, hr, hn, hb, hj⟩ := r1
  have e2 : Ex Hi1 (upd Hi1 p (.lst vs)) := Ex.new hn
  refine h1.ok' (A := A1) e2 ⟨R1.b, fun b o e => ?_, fun b o e => e2 b o (R1.i0 b o e), fun b q1 q2 => ?_, R1.len, fun j => (R1.sl j).mono e2 fun _ _ _ ho => ho, fun j b hb' => ?_, R1.nd, R1.dj, R1.pn, R1.xo⟩ (.lst upd_same (hr.mono e2))
  · by_cases q : b = p
    · subst q; rw [upd_same] at e; rw [hp]; exact e
    · rw [upd_ne q] at e; exact R1.i b o e
  · by_cases q : b = p
    · subst q; exact absurd hb q1
    · rw [upd_ne q] at q2; exact R1.fr b q1 q2
  · obtain ⟨x1, x2⟩ := R1.ow j b hb'
    refine ⟨?_, x2⟩
    rw [upd_ne]
    · exact x1
    · intro q; subst q; exact hj j hb'
/-- two in a row, then an operation -/
theorem snd_ofL {il : L} (ha : PE X a (tL X cl io W Γ il)) : PE X a (tE X cl io W Γ (.ofL il)) := PE.imp ha fun σ H Q h => ofL_imp σ H Q h
theorem two {r : R2} {f : D → D → Option D} (hr : ∀ (P : Par) (Hi H : Hp) (x y : V) (dx dy d : D) (Q : VK), P.K = X.K → Ex Hi H → Rep P.K P.cl Hi x dx → Rep P.K P.cl Hi y dy → f dx dy = some d → (∀ v, Rep P.K P.cl Hi v d → Q v H) → r x y H Q)
    {e : E} (he : ∀ ρ, evE Γ e ρ = bnd (evE Γ ia ρ) fun x ρ => bnd (evE Γ ib ρ) fun y ρ => ok1 (f x y) ρ) (σ : L2.St) (H : Hp) (Q : VK) (h : tE X cl io W Γ e σ H Q) : tOp r (tE X cl io W Γ ia) (tE X cl io W Γ ib) σ H Q := by
  obtain ⟨B, Hi0, pin, Hi, ρ, A, R, h⟩ := h
  rw [he] at h
  refine ⟨B, Hi0, pin, Hi, ρ, A, R, h.bnd fun v1 Hi1 H1 ρ1 A1 d1 e1 R1 r1 h1 => ?_⟩
  refine ⟨B, Hi0, pin, Hi1, ρ1, A1, R1, h1.bnd fun v2 Hi2 H2 ρ2 A2 d2 e2 R2 r2 h2 => ?_⟩
  obtain ⟨d, hd, h3⟩ := ok1_some h2
  exact hr ⟨X.K, cl, B, Hi0, pin⟩ Hi2 H2 v1 v2 d1 d2 d Q rfl R2.i (Rep.mono e2 _ _ r1) r2 hd fun v rv => h3.ok R2 rv
/-- .. that may give a new thing -/
theorem twoG {r : R2} {f : D → D → Option D} (hr : ∀ (P : Par) (Hi H : Hp) (x y : V) (dx dy d : D) (Q : VK), P.K = X.K → Ex Hi H → Rep P.K P.cl Hi x dx → Rep P.K P.cl Hi y dy → f dx dy = some d → (∀ v, Rep P.K P.cl Hi v d → Q v H) →
      (∀ p o, H p = none → Rep P.K P.cl (upd Hi p o) (.ref p) d → Q (.ref p) (upd H p o)) → r x y H Q)
    {e : E} (he : ∀ ρ, evE Γ e ρ = bnd (evE Γ ia ρ) fun x ρ => bnd (evE Γ ib ρ) fun y ρ => ok1 (f x y) ρ) (σ : L2.St) (H : Hp) (Q : VK) (h : tE X cl io W Γ e σ H Q) : tOp r (tE X cl io W Γ ia) (tE X cl io W Γ ib) σ H Q := by
  obtain ⟨B, Hi0, pin, Hi, ρ, A, R, h⟩ := h
  rw [he] at h
  refine ⟨B, Hi0, pin, Hi, ρ, A, R, h.bnd fun v1 Hi1 H1 ρ1 A1 d1 e1 R1 r1 h1 => ?_⟩
  refine ⟨B, Hi0, pin, Hi1, ρ1, A1, R1, h1.bnd fun v2 Hi2 H2 ρ2 A2 d2 e2 R2 r2 h2 => ?_⟩
  obtain ⟨d, hd, h3⟩ := ok1_some h2
  refine hr ⟨X.K, cl, B, Hi0, pin⟩ Hi2 H2 v1 v2 d1 d2 d Q rfl R2.i (Rep.mono e2 _ _ r1) r2 hd (fun v rv => h3.ok R2 rv) fun p o hp rp => ?_
  obtain ⟨A3, R3⟩ := Rel.newD (o := o) ⟨A2, R2⟩ hp
  exact h3.ok' (Ex.new (Rel.hfree ⟨A2, R2⟩ hp)) R3 rp
/-- one, then an operation -/
theorem one {r : V → Hp → VK → Prop} {f : D → Option D} (hr : ∀ (P : Par) (Hi H : Hp) (x : V) (dx d : D) (Q : VK), P.K = X.K → Ex Hi H → Rep P.K P.cl Hi x dx → f dx = some d → (∀ v, Rep P.K P.cl Hi v d → Q v H) → r x H Q)
    {e : E} (he : ∀ ρ, evE Γ e ρ = bnd (evE Γ ia ρ) fun x ρ => ok1 (f x) ρ) (σ : L2.St) (H : Hp) (Q : VK) (h : tE X cl io W Γ e σ H Q) : tUn r (tE X cl io W Γ ia) σ H Q := by
  obtain ⟨B, Hi0, pin, Hi, ρ, A, R, h⟩ := h
  rw [he] at h
  refine ⟨B, Hi0, pin, Hi, ρ, A, R, h.bnd fun v1 Hi1 H1 ρ1 A1 d1 e1 R1 r1 h1 => ?_⟩
  obtain ⟨d, hd, h3⟩ := ok1_some h1
  exact hr ⟨X.K, cl, B, Hi0, pin⟩ Hi1 H1 v1 d1 d Q rfl R1.i r1 hd fun v rv => h3.ok R1 rv
def opA : Op2 → Operator
  | .add => .Add | .sub => .Sub | .mul => .Mult | .fdiv => .FloorDiv | .mod => .Mod | .pow => .Pow
theorem snd_bin {op : Op2} (ha : PE X a (tE X cl io W Γ ia)) (hb : PE X b (tE X cl io W Γ ib)) : PE X (.BinOp a (opA op) b pos) (tE X cl io W Γ (.bin op ia ib)) := by
  cases op with
  | add =>
    refine PE.imp (pe_op (op_add.or (op_add_str.or op_catA)) ha hb) (twoG (f := binD .add) (fun P Hi H x y dx dy d Q hK e rx ry hd q q2 => ?_) fun ρ => by rw [evE])
    cases rx <;> cases ry <;> try (cases hd; done)
    · cases hd
      exact .inl ⟨_, _, rfl, rfl, q _ (.int _)⟩
    · rename_i i j
      by_cases hc : i.length + j.length ≤ sizeLine
      · have hd' : (if i.length + j.length ≤ sizeLine then some (D.str (i ++ j)) else none) = some d := hd
        rw [if_pos hc] at hd'
        cases hd'
        exact .inr (.inl ⟨_, _, rfl, rfl, hc, q _ (.str _)⟩)
      · have hd' : (if i.length + j.length ≤ sizeLine then some (D.str (i ++ j)) else none) = some d := hd
        rw [if_neg hc] at hd'
        cases hd'
    · rename_i p xs ds h1 h2 p' ys es h3 h4
      by_cases hc : ds.length + es.length ≤ sizeLine
      · have hd' : (if ds.length + es.length ≤ sizeLine then some (D.tup (ds ++ es)) else none) = some d := hd
        rw [if_pos hc] at hd'
        cases hd'
        refine .inr (.inr ⟨p, p', xs, ys, rfl, rfl, hK ▸ ex_t e h1, hK ▸ ex_t e h3, by rw [h2.len, h4.len]; exact hc, fun hx => ?_, fun hx hy => ?_, fun hx hy t ht => ?_⟩)
        · subst hx
          cases h2
          exact q _ (.tup h3 h4)
        · subst hy
          cases h4
          rw [List.append_nil] at q
          exact q _ (.tup h1 h2)
        · have e0 : Ex Hi (upd Hi t (.tup (xs ++ ys))) := Ex.new (fresh_back e ht)
          exact q2 t _ ht (.tup (.inl (.inl upd_same)) ((h2.mono e0).append (h4.mono e0)))
      · have hd' : (if ds.length + es.length ≤ sizeLine then some (D.tup (ds ++ es)) else none) = some d := hd
        rw [if_neg hc] at hd'
        cases hd'
  | sub =>
    refine PE.imp (pe_op op_sub ha hb) (two (f := binD .sub) (fun P Hi H x y dx dy d Q hK e rx ry hd q => ?_) fun ρ => by rw [evE])
    cases rx <;> cases ry <;> cases hd
    exact ⟨_, _, rfl, rfl, q _ (.int _)⟩
  | mul =>
    refine PE.imp (pe_op (op_mulW.or (op_mul.or op_repT)) ha hb) (twoG (f := binD .mul) (fun P Hi H x y dx dy d Q hK e rx ry hd q q2 => ?_) fun ρ => by rw [evE])
    cases rx <;> cases ry <;> try (cases hd; done)
    · rename_i i j
      by_cases hc : okMul i j = true
      · have hd' : (if okMul i j = true then some (D.int (i * j)) else none) = some d := hd
        rw [if_pos hc] at hd'
        cases hd'
        unfold okMul at hc
        rw [Bool.or_eq_true] at hc
        rcases hc with hc | hc
        · exact .inl ⟨_, _, rfl, rfl, (show CMulW i j from of_decide_eq_true (p := i.natAbs.log2 + j.natAbs.log2 < 1000000) hc), q _ (.int _)⟩
        · exact .inr (.inl ⟨_, _, rfl, rfl, (show CMul i j from of_decide_eq_true (p := (-(2 ^ 64) < i ∧ i < 2 ^ 64) ∨ (-(2 ^ 64) < j ∧ j < 2 ^ 64)) hc), q _ (.int _)⟩)
      · have hd' : (if okMul i j = true then some (D.int (i * j)) else none) = some d := hd
        rw [if_neg hc] at hd'
        cases hd'
    · rename_i p xs ds h1 h2 k
      by_cases hc : ds ≠ [] ∧ 2 ≤ k ∧ k ≤ 1000 ∧ ds.length ≤ 1000
      · have hd' : (if ds ≠ [] ∧ 2 ≤ k ∧ k ≤ 1000 ∧ ds.length ≤ 1000 then some (D.tup (List.replicate k.toNat ds).flatten) else none) = some d := hd
        rw [if_pos hc] at hd'
        cases hd'
        refine .inr (.inr ⟨p, k, xs, rfl, rfl, hK ▸ ex_t e h1, fun hx => ?_, hc.2.1, hc.2.2.1, by rw [h2.len]; exact hc.2.2.2, fun t ht => ?_⟩)
        · subst hx
          cases h2
          exact hc.1 rfl
        · have e0 : Ex Hi (upd Hi t (.tup (List.replicate k.toNat xs).flatten)) := Ex.new (fresh_back e ht)
          exact q2 t _ ht (.tup (.inl (.inl upd_same)) ((h2.mono e0).rep k.toNat))
      · have hd' : (if ds ≠ [] ∧ 2 ≤ k ∧ k ≤ 1000 ∧ ds.length ≤ 1000 then some (D.tup (List.replicate k.toNat ds).flatten) else none) = some d := hd
        rw [if_neg hc] at hd'
        cases hd'
  | fdiv =>
    refine PE.imp (pe_op op_fdivW ha hb) (two (f := binD .fdiv) (fun P Hi H x y dx dy d Q hK e rx ry hd q => ?_) fun ρ => by rw [evE])
    cases rx <;> cases ry <;> try (cases hd; done)
    rename_i i j
    by_cases hc : okDiv j = true
    · have hd' : (if okDiv j = true then some (D.int (i / j)) else none) = some d := hd
      rw [if_pos hc] at hd'
      cases hd'
      exact ⟨_, _, rfl, rfl, (show CDivW i j from of_decide_eq_true (p := 0 < j ∧ j.natAbs.log2 < 9000) hc), q _ (.int _)⟩
    · have hd' : (if okDiv j = true then some (D.int (i / j)) else none) = some d := hd
      rw [if_neg hc] at hd'
      cases hd'
  | mod =>
    refine PE.imp (pe_op op_mod ha hb) (two (f := binD .mod) (fun P Hi H x y dx dy d Q hK e rx ry hd q => ?_) fun ρ => by rw [evE])
    cases rx <;> cases ry <;> try (cases hd; done)
    rename_i i j
    by_cases hc : 0 < j
    · have hd' : (if 0 < j then some (D.int (i % j)) else none) = some d := hd
      rw [if_pos hc] at hd'
      cases hd'
      exact ⟨_, _, rfl, rfl, hc, q _ (.int _)⟩
    · have hd' : (if 0 < j then some (D.int (i % j)) else none) = some d := hd
      rw [if_neg hc] at hd'
      cases hd'
  | pow =>
    refine PE.imp (pe_op op_pow ha hb) (two (f := binD .pow) (fun P Hi H x y dx dy d Q hK e rx ry hd q => ?_) fun ρ => by rw [evE])
    cases rx <;> cases ry <;> try (cases hd; done)
    rename_i i j
    by_cases hc : okPow i j = true
    · have hd' : (if okPow i j = true then some (D.int (i ^ j.toNat)) else none) = some d := hd
      rw [if_pos hc] at hd'
      cases hd'
      exact ⟨_, _, rfl, rfl, (show CPow i j from of_decide_eq_true (p := 0 ≤ j ∧ j ≤ 1000000 ∧ i.natAbs < 2 ^ 64) hc), q _ (.int _)⟩
    · have hd' : (if okPow i j = true then some (D.int (i ^ j.toNat)) else none) = some d := hd
      rw [if_neg hc] at hd'
      cases hd'
theorem snd_neg (ha : PE X a (tE X cl io W Γ ia)) : PE X (.UnaryOp .USub a pos) (tE X cl io W Γ (.neg ia)) := by
  refine PE.imp (pe_un un_neg ha) (one (f := negD) (fun P Hi H x dx d Q hK e rx hd q => ?_) fun ρ => by rw [evE])
  cases rx <;> cases hd
  exact ⟨_, rfl, q _ (.int _)⟩
def cmA : Cm → CmpOp
  | .lt => .Lt | .le => .LtE | .gt => .Gt | .ge => .GtE
theorem snd_cmp {op : Cm} (ha : PE X a (tE X cl io W Γ ia)) (hb : PE X b (tE X cl io W Γ ib)) : PE X (.Compare a [cmA op] [b] pos) (tE X cl io W Γ (.cmp op ia ib)) := by
  have go : ∀ (p : Int → Int → Bool), (∀ i j, cmpD op i j = p i j) → ∀ σ H Q, tE X cl io W Γ (.cmp op ia ib) σ H Q → tOp (rI0 fun i j => .bl (p i j)) (tE X cl io W Γ ia) (tE X cl io W Γ ib) σ H Q := fun p hp σ H Q h =>
    two (f := cmpDD op) (fun P Hi H x y dx dy d Q hK e rx ry hd q => by
      cases rx <;> cases ry <;> cases hd
      rename_i i j
      exact ⟨_, _, rfl, rfl, by show Q (V.bl (p i j)) H; rw [← hp]; exact q _ (.bl _)⟩) (fun ρ => by rw [evE]) σ H Q h
  cases op with
  | lt => exact PE.imp (pe_cmpR op_lt ha hb (nomark _)) (go _ fun _ _ => rfl)
  | le => exact PE.imp (pe_cmpR op_le ha hb (nomark _)) (go _ fun _ _ => rfl)
  | gt => exact PE.imp (pe_cmpR op_gt ha hb (nomark _)) (go _ fun _ _ => rfl)
  | ge => exact PE.imp (pe_cmpR op_ge ha hb (nomark _)) (go _ fun _ _ => rfl)
mutual
theorem rep_dp {K : PySem.W.Frag} {cl : Cl} {H : Hp} : ∀ (d : D) (v : V) (p : PyData), Rep K cl H v d → toPy d = some p → Dp K H v p
  | .non, _, _, h, e => by cases h; cases e; exact .non
  | .bl _, _, _, h, e => by cases h; cases e; exact .bl _
  | .int _, _, _, h, e => by cases h; cases e; exact .int _
  | .str _, _, _, h, e => by cases h; cases e; exact .str _
  | .tup ds, _, p, h, e => by
    unfold toPy at e
    cases q : toPys ds with
    | none => rw [q] at e; cases e
    | some ps =>
      rw [q] at e
      cases e
      cases h with
      | tup h1 h2 => exact .tup h1 (reps_dp ds _ ps h2 q)
  | .lst ds, _, p, h, e => by
    unfold toPy at e
    cases q : toPys ds with
    | none => rw [q] at e; cases e
    | some ps =>
      rw [q] at e
      cases e
      cases h with
      | lst h1 h2 => exact .lst (.inl (.inl h1)) (reps_dp ds _ ps h2 q)
  | .ins _ _, _, _, _, e => by unfold toPy at e; cases e
  | .scr _, _, _, _, e => by unfold toPy at e; cases e
theorem reps_dp {K : PySem.W.Frag} {cl : Cl} {H : Hp} : ∀ (ds : List D) (vs : List V) (ps : List PyData), Reps K cl H vs ds → toPys ds = some ps → DpAll K H vs ps
  | [], _, _, h, e => by cases h; unfold toPys at e; cases e; exact .nil
  | d :: ds, _, ps, h, e => by
    unfold toPys at e
    cases q : toPy d with
    | none => rw [q] at e; cases e
    | some p =>
      rw [q] at e
      cases q2 : toPys ds with
      | none => rw [q2] at e; cases e
      | some qs =>
        rw [q2] at e
        cases e
        cases h with
        | cons h1 h2 => exact .cons (rep_dp d _ p h1 q) (reps_dp ds _ qs h2 q2)
end
theorem eqD_some {x y : D} {k : Bool} (h : eqD x y = some k) : ∃ p q, toPy x = some p ∧ toPy y = some q ∧ SeqAt.shaped p = true ∧ SeqAt.shaped q = true ∧ PyData.eqv p q = k := by
  unfold eqD at h
  cases q1 : toPy x with
  | none => rw [q1] at h; cases h
  | some p =>
    rw [q1] at h
    cases q2 : toPy y with
    | none => rw [q2] at h; cases h
    | some q =>
      rw [q2] at h
      have h' : (if SeqAt.shaped p = true ∧ SeqAt.shaped q = true then some (PyData.eqv p q) else none) = some k := h
      by_cases hc : SeqAt.shaped p = true ∧ SeqAt.shaped q = true
      · rw [if_pos hc] at h'
        exact ⟨p, q, rfl, rfl, hc.1, hc.2, Option.some.inj h'⟩
      · rw [if_neg hc] at h'
        cases h'
theorem snd_eqq {ne : Bool} (hu : X.A.units + 64 < cLine) (ha : PE X a (tE X cl io W Γ ia)) (hb : PE X b (tE X cl io W Γ ib)) : PE X (.Compare a [if ne then .NotEq else .Eq] [b] pos) (tE X cl io W Γ (.eqq ne ia ib)) := by
  have go : ∀ {r : R2}, (∀ (P : Par) (Hi H : Hp) (x y : V) (dx dy d : D) (Q : VK), P.K = X.K → Ex Hi H → Rep P.K P.cl Hi x dx → Rep P.K P.cl Hi y dy → eqqD ne dx dy = some d → (∀ v, Rep P.K P.cl Hi v d → Q v H) → r x y H Q) →
      ∀ σ H Q, tE X cl io W Γ (.eqq ne ia ib) σ H Q → tOp r (tE X cl io W Γ ia) (tE X cl io W Γ ib) σ H Q := fun hr σ H Q h =>
    two (f := eqqD ne) hr (fun ρ => by rw [evE]) σ H Q h
  cases ne with
  | false =>
    refine PE.imp (pe_cmpR (op_eqD hu) ha hb (nomark _)) (go fun P Hi H x y dx dy d Q hK e rx ry hd q => ?_)
    cases q1 : eqD dx dy with
    | none => unfold eqqD at hd; rw [q1] at hd; cases hd
    | some k =>
      unfold eqqD at hd
      rw [q1] at hd
      cases hd
      obtain ⟨p1, p2, e1, e2, s1, s2, e3⟩ := eqD_some q1
      rw [← hK]
      exact ⟨p1, p2, rep_dp _ _ _ (Rep.mono e _ _ rx) e1, rep_dp _ _ _ (Rep.mono e _ _ ry) e2, s1, s2, by rw [e3]; exact q _ (.bl _)⟩
  | true =>
    refine PE.imp (pe_cmpR (op_neD hu) ha hb (nomark _)) (go fun P Hi H x y dx dy d Q hK e rx ry hd q => ?_)
    cases q1 : eqD dx dy with
    | none => unfold eqqD at hd; rw [q1] at hd; cases hd
    | some k =>
      unfold eqqD at hd
      rw [q1] at hd
      cases hd
      obtain ⟨p1, p2, e1, e2, s1, s2, e3⟩ := eqD_some q1
      rw [← hK]
      exact ⟨p1, p2, rep_dp _ _ _ (Rep.mono e _ _ rx) e1, rep_dp _ _ _ (Rep.mono e _ _ ry) e2, s1, s2, by rw [e3]; exact q _ (.bl _)⟩
theorem isNon_of {K : PySem.W.Frag} {H : Hp} {x : V} {d : D} (r : Rep K cl H x d) : decide (x = V.non) = isNon d := by
  cases r <;> rfl
theorem snd_isN {ne : Bool} {j : Nat} {p2 : Pos} (ha : PE X a (tE X cl io W Γ ia)) : PE X (.Compare a [if ne then .IsNot else .Is] [.Constant .none j p2] pos) (tE X cl io W Γ (.isN ne ia)) := by
  have go : ∀ (σ : L2.St) (H : Hp) (Q : VK) (g : Bool → Bool), (∀ k, (if ne then !k else k) = g k) → tE X cl io W Γ (.isN ne ia) σ H Q → tE X cl io W Γ ia σ H fun x H1 => Q (.bl (g (decide (x = V.non)))) H1 := by
    rintro σ H Q g hg ⟨B, Hi0, pin, Hi, ρ, A, R, h⟩
    refine ⟨B, Hi0, pin, Hi, ρ, A, R, ?_⟩
    unfold evE at h
    refine h.bnd fun v1 Hi1 H1 ρ1 A1 d1 e1 R1 r1 h1 => ?_
    have e := isNon_of r1
    rw [e, ← hg]
    refine h1.ok R1 ?_
    cases ne <;> exact .bl _
  cases ne with
  | false => exact PE.imp (pe_cmp (pc_isN ha) rfl) fun σ H Q h => go σ H Q (fun k => k) (fun _ => rfl) h
  | true => exact PE.imp (pe_cmp (pc_notN ha) rfl) fun σ H Q h => go σ H Q (fun k => !k) (fun _ => rfl) h
/-- a value's truth -/
theorem tru_of {K : PySem.W.Frag} {Hi H : Hp} {x : V} {d : D} {k : Bool} (e : Ex Hi H) (r : Rep K cl Hi x d) (h : truthy d = some k) : TruV K x H k := by
  cases r with
  | non => cases h; rfl
  | bl b => cases h; rfl
  | int i => cases h; rfl
  | str z =>
    have h' : (if z.length ≤ sizeLine then some ((z.length : Int) != 0) else none) = some k := h
    by_cases hl : z.length ≤ sizeLine
    · rw [if_pos hl] at h'
      cases h'
      exact ⟨hl, rfl⟩
    · rw [if_neg hl] at h'
      cases h'
  | @tup a xs ds h1 h2 =>
    cases h
    refine .inr (.inl ⟨xs, ex_t e h1, ?_⟩)
    cases h2 <;> rfl
  | @lst a xs ds h1 h2 =>
    cases h
    refine .inl ⟨xs, .inl (.inl (e _ _ h1)), ?_⟩
    cases h2 <;> rfl
  | ins _ _ => cases h
  | scr _ _ => cases h
theorem snd_and {b' : Expr} {rest : List Expr} (ha : PE X a (tE X cl io W Γ ia)) (hb : PE X (.BoolOp .And (b' :: rest) pos) (tE X cl io W Γ ib)) : PE X (.BoolOp .And (a :: b' :: rest) pos) (tE X cl io W Γ (.and ia ib)) := by
  refine PE.imp (pe_andT ha hb) ?_
  rintro σ H Q ⟨B, Hi0, pin, Hi, ρ, A, R, h⟩
  refine ⟨B, Hi0, pin, Hi, ρ, A, R, ?_⟩
  unfold evE at h
  refine h.bnd fun v1 Hi1 H1 ρ1 A1 d1 e1 R1 r1 h1 => ?_
  cases q : truthy d1 with
  | none => rw [q] at h1; exact h1.elim
  | some k =>
    rw [q] at h1
    refine ⟨k, tru_of R1.i r1 q, ?_⟩
    cases k with
    | true => rw [if_pos rfl]; exact ⟨B, Hi0, pin, Hi1, ρ1, A1, R1, h1⟩
    | false => rw [if_neg Bool.false_ne_true]; exact h1.ok R1 r1
theorem snd_or {b' : Expr} {rest : List Expr} (ha : PE X a (tE X cl io W Γ ia)) (hb : PE X (.BoolOp .Or (b' :: rest) pos) (tE X cl io W Γ ib)) : PE X (.BoolOp .Or (a :: b' :: rest) pos) (tE X cl io W Γ (.or ia ib)) := by
  refine PE.imp (pe_orT ha hb) ?_
  rintro σ H Q ⟨B, Hi0, pin, Hi, ρ, A, R, h⟩
  refine ⟨B, Hi0, pin, Hi, ρ, A, R, ?_⟩
  unfold evE at h
  refine h.bnd fun v1 Hi1 H1 ρ1 A1 d1 e1 R1 r1 h1 => ?_
  cases q : truthy d1 with
  | none => rw [q] at h1; exact h1.elim
  | some k =>
    rw [q] at h1
    refine ⟨k, tru_of R1.i r1 q, ?_⟩
    cases k with
    | true => rw [if_pos rfl]; exact h1.ok R1 r1
    | false => rw [if_neg Bool.false_ne_true]; exact ⟨B, Hi0, pin, Hi1, ρ1, A1, R1, h1⟩
theorem snd_not (ha : PE X a (tE X cl io W Γ ia)) : PE X (.UnaryOp .Not a pos) (tE X cl io W Γ (.not ia)) := by
  refine PE.imp (pe_notT ha) ?_
  rintro σ H Q ⟨B, Hi0, pin, Hi, ρ, A, R, h⟩
  refine ⟨B, Hi0, pin, Hi, ρ, A, R, ?_⟩
  unfold evE at h
  refine h.bnd fun v1 Hi1 H1 ρ1 A1 d1 e1 R1 r1 h1 => ?_
  obtain ⟨d, hd, h2⟩ := ok1_some h1
  cases q : truthy d1 with
  | none => rw [q] at hd; cases hd
  | some k =>
    rw [q] at hd
    cases hd
    exact ⟨k, tru_of R1.i r1 q, h2.ok R1 (.bl _)⟩
/-! tests -/
theorem sndT_val (ha : PE X a (tE X cl io W Γ ia)) (he : ∀ whole, isTrue a X.env whole = (do let v ← whole; standAt a.pos; holding [v] (PySem.truthy v))) : PT X a (tT X cl io W Γ ia) := by
  refine PT.imp (pt_truth ha he) ?_
  rintro σ H Q ⟨B, Hi0, pin, Hi, ρ, A, R, h⟩
  refine ⟨B, Hi0, pin, Hi, ρ, A, R, ?_⟩
  unfold evT at h
  refine h.bnd fun v1 Hi1 H1 ρ1 A1 d1 e1 R1 r1 h1 => ?_
  obtain ⟨k, hk, h2⟩ := ok1_some h1
  exact ⟨k, tru_of R1.i r1 hk, h2.ok R1 rfl⟩
theorem evT_not (ρ : Env) : evT Γ (.not ia) ρ = bnd (evT Γ ia ρ) fun k ρ => some (.ok (!k) ρ) := by
  unfold evT
  rw [evE]
  cases q : evE Γ ia ρ with
  | none => rfl
  | some o =>
    cases o with
    | ex c w r => rfl
    | ok d r =>
      show bnd (ok1 ((truthy d).map fun k => D.bl (!k)) r) _ = bnd (ok1 (truthy d) r) _
      cases truthy d <;> rfl
theorem sndT_not (ha : PT X a (tT X cl io W Γ ia)) : PT X (.UnaryOp .Not a pos) (tT X cl io W Γ (.not ia)) := by
  refine PT.imp (pt_not ha) ?_
  rintro σ H Q ⟨B, Hi0, pin, Hi, ρ, A, R, h⟩
  refine ⟨B, Hi0, pin, Hi, ρ, A, R, ?_⟩
  rw [evT_not] at h
  refine h.bnd fun v1 Hi1 H1 ρ1 A1 d1 e1 R1 r1 h1 => ?_
  cases r1
  exact h1.ok R1 rfl
theorem evT_and (ρ : Env) : evT Γ (.and ia ib) ρ = bnd (evT Γ ia ρ) fun k ρ => match k with | true => evT Γ ib ρ | false => some (.ok false ρ) := by
  unfold evT
  rw [evE]
  cases q : evE Γ ia ρ with
  | none => rfl
  | some o =>
    cases o with
    | ex c w r => rfl
    | ok d r =>
      show bnd (match truthy d with | some true => evE Γ ib r | some false => some (.ok d r) | none => none) _ = bnd (ok1 (truthy d) r) _
      cases q2 : truthy d with
      | none => rfl
      | some k =>
        cases k with
        | true => rfl
        | false =>
          show ok1 (truthy d) r = some (.ok false r)
          rw [q2]
          rfl
theorem evT_or (ρ : Env) : evT Γ (.or ia ib) ρ = bnd (evT Γ ia ρ) fun k ρ => match k with | false => evT Γ ib ρ | true => some (.ok true ρ) := by
  unfold evT
  rw [evE]
  cases q : evE Γ ia ρ with
  | none => rfl
  | some o =>
    cases o with
    | ex c w r => rfl
    | ok d r =>
      show bnd (match truthy d with | some false => evE Γ ib r | some true => some (.ok d r) | none => none) _ = bnd (ok1 (truthy d) r) _
      cases q2 : truthy d with
      | none => rfl
      | some k =>
        cases k with
        | false => rfl
        | true =>
          show ok1 (truthy d) r = some (.ok true r)
          rw [q2]
          rfl
theorem sndT_and {b' : Expr} {rest : List Expr} (ha : PT X a (tT X cl io W Γ ia)) (hb : PW X (.BoolOp .And (b' :: rest) pos) (tT X cl io W Γ ib)) : PW X (.BoolOp .And (a :: b' :: rest) pos) (tT X cl io W Γ (.and ia ib)) := by
  refine ⟨fun wh pins s σ H Q I h => (pw_and ha hb).run wh pins s σ H Q I ?_⟩
  obtain ⟨B, Hi0, pin, Hi, ρ, A, R, h⟩ := h
  refine ⟨B, Hi0, pin, Hi, ρ, A, R, ?_⟩
  rw [evT_and] at h
  refine h.bnd fun v1 Hi1 H1 ρ1 A1 d1 e1 R1 r1 h1 => ?_
  cases r1
  cases v1 with
  | true => rw [if_pos rfl]; exact ⟨B, Hi0, pin, Hi1, ρ1, A1, R1, h1⟩
  | false => rw [if_neg Bool.false_ne_true]; exact h1.ok R1 rfl
theorem sndT_or {b' : Expr} {rest : List Expr} (ha : PT X a (tT X cl io W Γ ia)) (hb : PW X (.BoolOp .Or (b' :: rest) pos) (tT X cl io W Γ ib)) : PW X (.BoolOp .Or (a :: b' :: rest) pos) (tT X cl io W Γ (.or ia ib)) := by
  refine ⟨fun wh pins s σ H Q I h => (pw_or ha hb).run wh pins s σ H Q I ?_⟩
  obtain ⟨B, Hi0, pin, Hi, ρ, A, R, h⟩ := h
  refine ⟨B, Hi0, pin, Hi, ρ, A, R, ?_⟩
  rw [evT_or] at h
  refine h.bnd fun v1 Hi1 H1 ρ1 A1 d1 e1 R1 r1 h1 => ?_
  cases r1
  cases v1 with
  | true => rw [if_pos rfl]; exact h1.ok R1 rfl
  | false => rw [if_neg Bool.false_ne_true]; exact ⟨B, Hi0, pin, Hi1, ρ1, A1, R1, h1⟩
theorem sndT_cmp {op : Cm} (ha : PE X a (tE X cl io W Γ ia)) (hb : PE X b (tE X cl io W Γ ib)) : PT X (.Compare a [cmA op] [b] pos) (tT X cl io W Γ (.cmp op ia ib)) := by
  have go : ∀ (p : Int → Int → Bool), (∀ i j, cmpD op i j = p i j) → ∀ σ H Q, tT X cl io W Γ (.cmp op ia ib) σ H Q → tTest (tOp (rI0 fun i j => .bl (p i j)) (tE X cl io W Γ ia) (tE X cl io W Γ ib)) σ H Q := by
    rintro p hp σ H Q ⟨B, Hi0, pin, Hi, ρ, A, R, h⟩
    refine ⟨B, Hi0, pin, Hi, ρ, A, R, ?_⟩
    unfold evT evE at h
    refine FinG.bnd (R := RV) (R2 := RT) (Q := Q) (f := fun x ρ => bnd (bnd (evE Γ ib ρ) fun y ρ => ok1 (cmpDD op x y) ρ) fun x ρ => ok1 (truthy x) ρ) (by
      cases q : evE Γ ia ρ with
      | none => rw [q] at h; exact h
      | some o => rw [q] at h; cases o <;> exact h) fun v1 Hi1 H1 ρ1 A1 d1 e1 R1 r1 h1 => ?_
    refine ⟨B, Hi0, pin, Hi1, ρ1, A1, R1, ?_⟩
    refine FinG.bnd (R := RV) (R2 := RT) (Q := Q) (f := fun y ρ => bnd (ok1 (cmpDD op d1 y) ρ) fun x ρ => ok1 (truthy x) ρ) (by
      cases q : evE Γ ib ρ1 with
      | none => rw [q] at h1; exact h1
      | some o => rw [q] at h1; cases o <;> exact h1) fun v2 Hi2 H2 ρ2 A2 d2 e2 R2 r2 h2 => ?_
    cases r1 <;> cases r2 <;> try (exact h2.elim)
    refine ⟨_, _, rfl, rfl, _, rfl, ?_⟩
    rw [← hp]
    exact FinG.ok h2 R2 rfl
  cases op with
  | lt => exact PT.imp (pt_cmpR op_lt ha hb (nomark _)) (go _ fun _ _ => rfl)
  | le => exact PT.imp (pt_cmpR op_le ha hb (nomark _)) (go _ fun _ _ => rfl)
  | gt => exact PT.imp (pt_cmpR op_gt ha hb (nomark _)) (go _ fun _ _ => rfl)
  | ge => exact PT.imp (pt_cmpR op_ge ha hb (nomark _)) (go _ fun _ _ => rfl)
theorem sndT_isN {ne : Bool} {j : Nat} {p2 : Pos} (ha : PE X a (tE X cl io W Γ ia)) : PT X (.Compare a [if ne then .IsNot else .Is] [.Constant .none j p2] pos) (tT X cl io W Γ (.isN ne ia)) := by
  have go : ∀ (σ : L2.St) (H : Hp) (Q : Bool → Hp → Prop) (g : Bool → Bool), (∀ k, (if ne then !k else k) = g k) → tT X cl io W Γ (.isN ne ia) σ H Q → tE X cl io W Γ ia σ H fun x H1 => ∃ c, V.bl (g (decide (x = V.non))) = V.bl c ∧ Q c H1 := by
    rintro σ H Q g hg ⟨B, Hi0, pin, Hi, ρ, A, R, h⟩
    refine ⟨B, Hi0, pin, Hi, ρ, A, R, ?_⟩
    unfold evT evE at h
    refine FinG.bnd (R := RV) (R2 := RT) (Q := Q) (f := fun x ρ => bnd (some (Out.ok (D.bl (if ne then !isNon x else isNon x)) ρ)) fun x ρ => ok1 (truthy x) ρ) (by
      cases q : evE Γ ia ρ with
      | none => rw [q] at h; exact h
      | some o => rw [q] at h; cases o <;> exact h) fun v1 Hi1 H1 ρ1 A1 d1 e1 R1 r1 h1 => ?_
    refine ⟨_, rfl, ?_⟩
    have e := isNon_of r1
    rw [e, ← hg]
    exact FinG.ok h1 R1 rfl
  cases ne with
  | false => exact PT.imp (pt_cmp (pc_isN ha) rfl) fun σ H Q h => go σ H Q (fun k => k) (fun _ => rfl) h
  | true => exact PT.imp (pt_cmp (pc_notN ha) rfl) fun σ H Q h => go σ H Q (fun k => !k) (fun _ => rfl) h
theorem sndT_eqq {ne : Bool} (hu : X.A.units + 64 < cLine) (ha : PE X a (tE X cl io W Γ ia)) (hb : PE X b (tE X cl io W Γ ib)) : PT X (.Compare a [if ne then .NotEq else .Eq] [b] pos) (tT X cl io W Γ (.eqq ne ia ib)) := by
  have go : ∀ {r : R2}, (∀ (Hi H : Hp) (x y : V) (dx dy : D) (k : Bool) (Q : VK), Ex Hi H → Rep X.K cl Hi x dx → Rep X.K cl Hi y dy → eqD dx dy = some k → Q (.bl (if ne then !k else k)) H → r x y H Q) →
      ∀ σ H Q, tT X cl io W Γ (.eqq ne ia ib) σ H Q → tTest (tOp r (tE X cl io W Γ ia) (tE X cl io W Γ ib)) σ H Q := by
    rintro r hr σ H Q ⟨B, Hi0, pin, Hi, ρ, A, R, h⟩
    refine ⟨B, Hi0, pin, Hi, ρ, A, R, ?_⟩
    unfold evT evE at h
    refine FinG.bnd (R := RV) (R2 := RT) (Q := Q) (f := fun x ρ => bnd (bnd (evE Γ ib ρ) fun y ρ => ok1 (eqqD ne x y) ρ) fun x ρ => ok1 (truthy x) ρ) (by
      cases q : evE Γ ia ρ with
      | none => rw [q] at h; exact h
      | some o => rw [q] at h; cases o <;> exact h) fun v1 Hi1 H1 ρ1 A1 d1 e1 R1 r1 h1 => ?_
    refine ⟨B, Hi0, pin, Hi1, ρ1, A1, R1, ?_⟩
    refine FinG.bnd (R := RV) (R2 := RT) (Q := Q) (f := fun y ρ => bnd (ok1 (eqqD ne d1 y) ρ) fun x ρ => ok1 (truthy x) ρ) (by
      cases q : evE Γ ib ρ1 with
      | none => rw [q] at h1; exact h1
      | some o => rw [q] at h1; cases o <;> exact h1) fun v2 Hi2 H2 ρ2 A2 d2 e2 R2 r2 h2 => ?_
    cases q1 : eqD d1 d2 with
    | none => unfold eqqD at h2; rw [q1] at h2; exact h2.elim
    | some k =>
      unfold eqqD at h2
      rw [q1] at h2
      refine hr Hi2 H2 v1 v2 d1 d2 k _ R2.i (Rep.mono e2 _ _ r1) r2 q1 ⟨_, rfl, ?_⟩
      exact FinG.ok h2 R2 rfl
  cases ne with
  | false =>
    refine PT.imp (pt_cmpR (op_eqD hu) ha hb (nomark _)) (go fun Hi H x y dx dy k Q e rx ry q1 q => ?_)
    obtain ⟨p1, p2, e1, e2, s1, s2, e3⟩ := eqD_some q1
    exact ⟨p1, p2, rep_dp _ _ _ (Rep.mono e _ _ rx) e1, rep_dp _ _ _ (Rep.mono e _ _ ry) e2, s1, s2, by rw [e3]; exact q⟩
  | true =>
    refine PT.imp (pt_cmpR (op_neD hu) ha hb (nomark _)) (go fun Hi H x y dx dy k Q e rx ry q1 q => ?_)
    obtain ⟨p1, p2, e1, e2, s1, s2, e3⟩ := eqD_some q1
    exact ⟨p1, p2, rep_dp _ _ _ (Rep.mono e _ _ rx) e1, rep_dp _ _ _ (Rep.mono e _ _ ry) e2, s1, s2, by rw [e3]; exact q⟩
theorem snd_ifx (hc : PT X c (tT X cl io W Γ ic)) (ha : PE X a (tE X cl io W Γ ia)) (hb : PE X b (tE X cl io W Γ ib)) : PE X (.IfExp c a b pos) (tE X cl io W Γ (.ifx ic ia ib)) := by
  refine PE.imp (pe_ifExp hc ha hb) ?_
  rintro σ H Q ⟨B, Hi0, pin, Hi, ρ, A, R, h⟩
  refine ⟨B, Hi0, pin, Hi, ρ, A, R, ?_⟩
  unfold evE at h
  refine FinG.bnd (R := RT) h fun v1 Hi1 H1 ρ1 A1 d1 e1 R1 r1 h1 => ?_
  cases r1
  cases v1 with
  | true => rw [if_pos rfl]; exact ⟨B, Hi0, pin, Hi1, ρ1, A1, R1, h1⟩
  | false => rw [if_neg Bool.false_ne_true]; exact ⟨B, Hi0, pin, Hi1, ρ1, A1, R1, h1⟩
end
end VI
set_option maxHeartbeats 2000000
/-! Soundness, second part: built-ins, argument lists, list makers, calls. -/
namespace VI
open PySem L2 Evl
def plainX : Expr → Bool
  | .Starred _ _ => false
  | _ => true
theorem star_cons {e : Expr} {es : List Expr} {env : PySem.Env} (h : plainX e = true) : starEach (e :: es) env = (false, eval e env) :: starEach es env := by
  cases e <;> first | rfl | (cases h; done)
theorem star_any {pos : Pos} {env : PySem.Env} : ∀ {es : List Expr}, es.all plainX = true → (backTo pos (starEach es env)).any (·.1) = false
  | [], _ => rfl
  | e :: es, h => by
    rw [List.all_cons, Bool.and_eq_true] at h
    rw [star_cons h.1]
    show (false || (backTo pos (starEach es env)).any (·.1)) = false
    rw [star_any h.2]
    rfl
section
variable {X : Cx} {cl : Cl} {io : List Nat} {W : WX} {Γ : Gam} {a b c : Expr} {ia ib ic : E} {pos : Pos}
/-! argument lists -/
theorem snd_anil : PA X [] (tA X cl io W Γ .nil) := by
  refine PA.imp pa_nil ?_
  rintro σ H Q ⟨B, Hi0, pin, Hi, ρ, A, R, h⟩
  unfold evA at h
  exact FinG.ok (v := []) h R RepA.nil
theorem snd_acons {es : List Expr} {ir : A} (hp : plainX a = true) (ha : PE X a (tE X cl io W Γ ia)) (hr : PA X es (tA X cl io W Γ ir)) : PA X (a :: es) (tA X cl io W Γ (.cons ia ir)) := by
  refine PA.imp (pa_cons ha hr (star_cons hp)) ?_
  rintro σ H Q ⟨B, Hi0, pin, Hi, ρ, A, R, h⟩
  refine ⟨B, Hi0, pin, Hi, ρ, A, R, ?_⟩
  unfold evA at h
  refine h.bnd fun v1 Hi1 H1 ρ1 A1 d1 e1 R1 r1 h1 => ?_
  refine ⟨B, Hi0, pin, Hi1, ρ1, A1, R1, h1.bnd fun vs Hi2 H2 ρ2 A2 avs e2 R2 r2 h2 => ?_⟩
  exact h2.ok R2 (.v (Rep.mono e2 _ _ r1) r2)
theorem snd_aio {es : List Expr} {ir : A} {i : Nat} {x : Str} {p : Pos} (hN : X.N[i]? = some x) (hv : Vis X.env.scope x) (hd : (x == ("__debug__" : Str)) = false) (hcd : (x == ("__classdict__" : Str)) = false)
    (hr : PA X es (tA X cl io W Γ ir)) : PA X (.Name x p :: es) (tA X cl io W Γ (.io i ir)) := by
  refine PA.imp (pa_cons (pe_var hN hv hd hcd) hr rfl) ?_
  rintro σ H Q ⟨B, Hi0, pin, Hi, ρ, A, R, h⟩
  unfold evA at h
  by_cases hc : isOwn (ρ.at i) = true
  · rw [if_pos hc] at h
    obtain ⟨a', as, h1, h2⟩ := (R.sl i).root hc
    refine ⟨.ref a', sAt_some h2, B, Hi0, pin, Hi, ρ, A, R, ?_⟩
    refine FinG.bnd h fun vs Hi2 H2 ρ2 A2 avs e2 R2 r2 h3' => ?_
    exact h3'.ok R2 (.io h2 r2)
  · rw [if_neg hc] at h
    exact h.elim
/-! built-ins of one and two values -/
theorem one' {r : List V → Hp → VK → Prop} {f : D → Option D} (hr : ∀ (P : Par) (Hi H : Hp) (x : V) (dx d : D) (Q : VK), P.K = X.K → Ex Hi H → Rep P.K P.cl Hi x dx → f dx = some d → (∀ v, Rep P.K P.cl Hi v d → Q v H) → r [x] H Q)
    {e : E} (he : ∀ ρ, evE Γ e ρ = bnd (evE Γ ia ρ) fun x ρ => ok1 (f x) ρ) (σ : L2.St) (H : Hp) (Q : VK) (h : tE X cl io W Γ e σ H Q) : tCB r (tCons (tE X cl io W Γ ia) tNil) σ H Q := by
  obtain ⟨B, Hi0, pin, Hi, ρ, A, R, h⟩ := h
  rw [he] at h
  refine ⟨B, Hi0, pin, Hi, ρ, A, R, h.bnd fun v1 Hi1 H1 ρ1 A1 d1 e1 R1 r1 h1 => ?_⟩
  obtain ⟨d, hd, h3⟩ := ok1_some h1
  exact hr ⟨X.K, cl, B, Hi0, pin⟩ Hi1 H1 v1 d1 d Q rfl R1.i r1 hd fun v rv => h3.ok R1 rv
theorem two' {r : List V → Hp → VK → Prop} {f : D → D → Option D} (hr : ∀ (P : Par) (Hi H : Hp) (x y : V) (dx dy d : D) (Q : VK), P.K = X.K → Ex Hi H → Rep P.K P.cl Hi x dx → Rep P.K P.cl Hi y dy → f dx dy = some d → (∀ v, Rep P.K P.cl Hi v d → Q v H) → r [x, y] H Q)
    {e : E} (he : ∀ ρ, evE Γ e ρ = bnd (evE Γ ia ρ) fun x ρ => bnd (evE Γ ib ρ) fun y ρ => ok1 (f x y) ρ) (σ : L2.St) (H : Hp) (Q : VK) (h : tE X cl io W Γ e σ H Q) : tCB r (tCons (tE X cl io W Γ ia) (tCons (tE X cl io W Γ ib) tNil)) σ H Q := by
  obtain ⟨B, Hi0, pin, Hi, ρ, A, R, h⟩ := h
  rw [he] at h
  refine ⟨B, Hi0, pin, Hi, ρ, A, R, h.bnd fun v1 Hi1 H1 ρ1 A1 d1 e1 R1 r1 h1 => ?_⟩
  refine ⟨B, Hi0, pin, Hi1, ρ1, A1, R1, h1.bnd fun v2 Hi2 H2 ρ2 A2 d2 e2 R2 r2 h2 => ?_⟩
  obtain ⟨d, hd, h3⟩ := ok1_some h2
  exact hr ⟨X.K, cl, B, Hi0, pin⟩ Hi2 H2 v1 v2 d1 d2 d Q rfl R2.i (Rep.mono e2 _ _ r1) r2 hd fun v rv => h3.ok R2 rv
theorem items_some {K : PySem.W.Frag} {cl : Cl} {H : Hp} {x : V} {d : D} {ds : List D} (r : Rep K cl H x d) (h : items d = some ds) : ∃ a xs, x = .ref a ∧ Reps K cl H xs ds ∧ (SqL K H a xs ∨ SqT K H a xs) := by
  cases r with
  | tup h1 h2 => cases h; exact ⟨_, _, rfl, h2, .inr h1⟩
  | lst h1 h2 => cases h; exact ⟨_, _, rfl, h2, .inl (.inl (.inl h1))⟩
  | scr h1 h2 => cases h; exact ⟨_, _, rfl, h2, .inl h1⟩
  | _ => cases h
theorem sq_ex {K : PySem.W.Frag} {Hi H : Hp} {a : Addr} {xs : List V} (e : Ex Hi H) (h : SqL K Hi a xs ∨ SqT K Hi a xs) : SqL K H a xs ∨ SqT K H a xs := h.elim (fun z => .inl (ex_l e z)) fun z => .inr (ex_t e z)
variable {p : Pos}
theorem lenD_some {x d : D} (h : lenD x = some d) : (∃ z, x = .str z ∧ z.length ≤ sizeLine ∧ d = .int z.length) ∨ lenQ x = some d := by
  cases x with
  | str z =>
    have h' : (if z.length ≤ sizeLine then some (D.int z.length) else none) = some d := h
    by_cases hc : z.length ≤ sizeLine
    · rw [if_pos hc] at h'
      exact .inl ⟨z, rfl, hc, (Option.some.inj h').symm⟩
    · rw [if_neg hc] at h'; cases h'
  | _ => exact .inr h
theorem snd_len (hg : Gl X "len") (hm : X.mg "len" = none) (hp : plainX a = true) (ha : PE X a (tE X cl io W Γ ia)) : PE X (.Call (.Name "len" p) [a] [] pos) (tE X cl io W Γ (.len ia)) := by
  refine PE.imp (pe_callB (call_len_seq.or call_len) hg hm PySem.boot_len (pa_cons ha pa_nil (star_cons hp)) (he := star_cons hp) (hpl := rfl)) (one' (f := lenD) (fun P Hi H x dx d Q hK e rx hd q => ?_) fun ρ => by rw [evE])
  rcases lenD_some hd with ⟨z, rfl, hz, rfl⟩ | hd
  · cases rx
    exact .inr ⟨_, _, rfl, ⟨hz, rfl⟩, q _ (.int _)⟩
  unfold lenQ at hd
  cases q1 : items dx with
  | none => rw [q1] at hd; cases hd
  | some ds =>
    rw [q1] at hd
    cases hd
    obtain ⟨a', xs, rfl, hr, hs⟩ := items_some rx q1
    rw [← hK]
    refine .inl ⟨a', xs, rfl, sq_ex e hs, ?_⟩
    rw [hr.len]
    exact q _ (.int _)
theorem snd_lenl {i : Nat} {x : Str} {p2 : Pos} (hg : Gl X "len") (hm : X.mg "len" = none) (hN : X.N[i]? = some x) (hv : Vis X.env.scope x) (hd : (x == ("__debug__" : Str)) = false) (hcd : (x == ("__classdict__" : Str)) = false) :
    PE X (.Call (.Name "len" p) [.Name x p2] [] pos) (tE X cl io W Γ (.lenl i)) := by
  refine PE.imp (pe_callB (call_len_seq.or call_len) hg hm PySem.boot_len (pa_cons (pe_var hN hv hd hcd) pa_nil)) ?_
  rintro σ H Q ⟨B, Hi0, pin, Hi, ρ, A, R, h⟩
  unfold evE at h
  cases q : ρ.at i with
  | no => rw [q] at h; exact h.elim
  | v d =>
    rw [q] at h
    obtain ⟨v, h1, h2⟩ := Rel.val ⟨A, R⟩ q
    obtain ⟨k, hk, h3⟩ := ok1_some h
    rcases lenD_some hk with ⟨z, rfl, hz, rfl⟩ | hk
    · cases h2
      exact ⟨_, h1, .inr ⟨_, _, rfl, ⟨hz, rfl⟩, h3.ok R (.int _)⟩⟩
    unfold lenQ at hk
    cases q1 : items d with
    | none => rw [q1] at hk; cases hk
    | some ds =>
      rw [q1] at hk
      cases hk
      obtain ⟨a', xs, rfl, hr, hs⟩ := items_some h2 q1
      refine ⟨.ref a', h1, .inl ⟨a', xs, rfl, sq_ex R.i hs, ?_⟩⟩
      rw [hr.len]
      exact h3.ok R (.int _)
  | l ds =>
    rw [q] at h
    obtain ⟨a', vs, h1, h2, h3, h4, h5, h6⟩ := R.own q
    refine ⟨.ref a', sAt_some h2, .inl ⟨a', vs, rfl, .inl (.inl (.inl h3)), ?_⟩⟩
    rw [h4.len]
    exact h.ok R (.int _)
  | t cs => rw [q] at h; exact h.elim
  | o c fs => rw [q] at h; exact h.elim
theorem snd_abs (hg : Gl X "abs") (hm : X.mg "abs" = none) (hp : plainX a = true) (ha : PE X a (tE X cl io W Γ ia)) : PE X (.Call (.Name "abs" p) [a] [] pos) (tE X cl io W Γ (.abs ia)) := by
  refine PE.imp (pe_callB call_abs hg hm (by decide +kernel) (pa_cons ha pa_nil (star_cons hp)) (he := star_cons hp) (hpl := rfl)) (one' (f := absD) (fun P Hi H x dx d Q hK e rx hd q => ?_) fun ρ => by rw [evE])
  cases rx <;> cases hd
  exact ⟨_, rfl, q _ (.int _)⟩
theorem snd_int1 (hg : Gl X "int") (hm : X.mg "int" = none) (hp : plainX a = true) (ha : PE X a (tE X cl io W Γ ia)) : PE X (.Call (.Name "int" p) [a] [] pos) (tE X cl io W Γ (.int1 ia)) := by
  refine PE.imp (pe_callTy (call_int1.or call_int_str) hg hm (by decide +kernel) (pa_cons ha pa_nil (star_cons hp)) (he := star_cons hp) (hpl := rfl)) (one' (f := int1D) (fun P Hi H x dx d Q hK e rx hd q => ?_) fun ρ => by rw [evE])
  cases rx <;> try (cases hd; done)
  · cases hd
    exact .inl (.inl ⟨_, rfl, q _ (.int _)⟩)
  · rename_i z
    have hd' : (if z.length ≤ 640 then (PySem.intText? z).map D.int else none) = some d := hd
    by_cases hc : z.length ≤ 640
    · rw [if_pos hc] at hd'
      cases qz : PySem.intText? z with
      | none => rw [qz] at hd'; cases hd'
      | some n =>
        rw [qz] at hd'
        cases hd'
        exact .inr ⟨z, n, rfl, qz, hc, q _ (.int _)⟩
    · rw [if_neg hc] at hd'
      cases hd'
theorem snd_strI (hg : Gl X "str") (hm : X.mg "str" = none) (hp : plainX a = true) (ha : PE X a (tE X cl io W Γ ia)) : PE X (.Call (.Name "str" p) [a] [] pos) (tE X cl io W Γ (.strI ia)) := by
  refine PE.imp (pe_callTy call_str_int hg hm (by decide +kernel) (pa_cons ha pa_nil (star_cons hp)) (he := star_cons hp) (hpl := rfl)) (one' (f := strD) (fun P Hi H x dx d Q hK e rx hd q => ?_) fun ρ => by rw [evE])
  cases rx <;> try (cases hd; done)
  rename_i n
  have hd' : (if n.natAbs.log2 < 1920 then some (D.str (toString n)) else none) = some d := hd
  by_cases hc : n.natAbs.log2 < 1920
  · rw [if_pos hc] at hd'
    cases hd'
    exact ⟨n, rfl, hc, q _ (.str _)⟩
  · rw [if_neg hc] at hd'
    cases hd'
theorem snd_glo {x : Str} {d : D} {v : V} {u : Value} (hg : Gl X x) (hm : X.mg x = some u) (hr : RelV v u) (hv : ∀ K (cf : Nat → Addr) Hi, Rep K cf Hi v d) (hd : (x == ("__debug__" : Str)) = false) : PE X (.Name x p) (tE X cl io W Γ (.glo x d)) := by
  refine PE.imp (pe_glob hg hm hr hd) ?_
  rintro σ H Q ⟨B, Hi0, pin, Hi, ρ, A, R, h⟩
  unfold evE at h
  exact h.ok R (hv _ _ _)
theorem rep_dps {K : PySem.W.Frag} {k : Cl} {H : Hp} {x : V} {ds : List D} {qs : List PyData} (r : Rep K k H x (.lst ds)) (h : toPys ds = some qs) : Dp K H x (.list qs) := rep_dp (cl := k) (.lst ds) x (.list qs) r (by rw [toPy, h]; rfl)
theorem scal_rep {K : PySem.W.Frag} {cf : Nat → Addr} {Hi : Hp} {x : V} {d : D} (r : Rep K cf Hi x d) (h : isScal d = true) : flatV x = true := by
  cases r <;> first | rfl | (cases h; done)
theorem eqScal_rep {K : PySem.W.Frag} {cf : Nat → Addr} {Hi : Hp} {x y : V} {d e : D} (r : Rep K cf Hi x d) (s : Rep K cf Hi y e) (h : isScal d = true) (h' : isScal e = true) : eqV x y = eqScal d e := by
  cases r <;> cases s <;> first | rfl | (cases h; done) | (cases h'; done)
theorem inScal_rep {K : PySem.W.Frag} {cf : Nat → Addr} {Hi : Hp} {x : V} {d : D} (r : Rep K cf Hi x d) (h : isScal d = true) : ∀ {xs : List V} {ds : List D}, Reps K cf Hi xs ds → ds.all isScal = true → inV x xs = inScal d ds ∧ xs.all flatV = true
  | _, _, .nil, _ => ⟨rfl, rfl⟩
  | _, _, .cons r1 t, f => by
    rw [List.all_cons, Bool.and_eq_true] at f
    obtain ⟨h1, h2⟩ := inScal_rep r h t f.2
    refine ⟨?_, by rw [List.all_cons, scal_rep r1 f.1, h2]; rfl⟩
    unfold inScal
    rw [← h1, ← eqScal_rep r1 r f.1 h]
    unfold inV
    rw [List.any_cons]
theorem innB_some : ∀ {x y : D} {k : Bool}, innB x y = some k → (∃ i j, x = .str i ∧ y = .str j ∧ k = !(Builtin.Str.occurrences j i 0 j.length 1).isEmpty) ∨
      (∃ ds p qs, y = .lst ds ∧ toPy x = some p ∧ toPys ds = some qs ∧ SeqAt.shaped p = true ∧ SeqAt.shaped (.list qs) = true ∧ k = qs.any fun z => PyData.eqv z p) ∨
      ∃ ds, y = .tup ds ∧ isScal x = true ∧ ds.all isScal = true ∧ k = inScal x ds := by
    intro x y k h
    unfold innB at h
    cases y with
    | str j =>
      cases x with
      | str i => cases h; exact .inl ⟨i, j, rfl, rfl, rfl⟩
      | _ => cases h
    | lst ds =>
      replace h : ((toPy x).bind fun p => (toPys ds).bind fun qs => if SeqAt.shaped p = true ∧ SeqAt.shaped (.list qs) = true then some (qs.any fun z => PyData.eqv z p) else none) = some k := h
      cases q1 : toPy x with
      | none => rw [q1] at h; cases h
      | some p =>
        cases q2 : toPys ds with
        | none => rw [q1, q2] at h; cases h
        | some qs =>
          rw [q1, q2] at h
          have h' : (if SeqAt.shaped p = true ∧ SeqAt.shaped (.list qs) = true then some (qs.any fun z => PyData.eqv z p) else none) = some k := h
          by_cases hc : SeqAt.shaped p = true ∧ SeqAt.shaped (.list qs) = true
          · rw [if_pos hc] at h'
            exact .inr (.inl ⟨ds, p, qs, rfl, rfl, q2, hc.1, hc.2, (Option.some.inj h').symm⟩)
          · rw [if_neg hc] at h'; cases h'
    | tup ds =>
      have h' : (if isScal x = true ∧ ds.all isScal = true then some (inScal x ds) else none) = some k := h
      by_cases hc : isScal x = true ∧ ds.all isScal = true
      · rw [if_pos hc] at h'
        exact .inr (.inr ⟨ds, rfl, hc.1, hc.2, (Option.some.inj h').symm⟩)
      · rw [if_neg hc] at h'; cases h'
    | _ => cases h
theorem snd_inn {ne : Bool} (hu : X.A.units + 65 < cLine) (ha : PE X a (tE X cl io W Γ ia)) (hb : PE X b (tE X cl io W Γ ib)) (hm : behindInMarks (if ne then .NotIn else .In) b = false) : PE X (.Compare a [if ne then .NotIn else .In] [b] pos) (tE X cl io W Γ (.inn ne ia ib)) := by
  cases ne with
  | false =>
    refine PE.imp (pe_cmpR (op_in_str.or ((op_inD hu).or op_in_seq)) ha hb hm) (two (f := innD false) (fun P Hi H x y dx dy d Q hK e rx ry hd q => ?_) fun ρ => by rw [evE])
    cases qk : innB dx dy with
    | none => unfold innD at hd; rw [qk] at hd; cases hd
    | some k =>
      unfold innD at hd; rw [qk] at hd; cases hd
      rcases innB_some qk with ⟨i, j, rfl, rfl, rfl⟩ | ⟨ds, pp, qs, rfl, h1, h2, h3, h4, rfl⟩ | ⟨ds, rfl, h1, h2, rfl⟩
      · cases rx; cases ry
        exact .inl ⟨_, _, rfl, rfl, q _ (.bl _)⟩
      · rw [← hK]
        exact .inr (.inl ⟨pp, qs, rep_dp _ _ _ (Rep.mono e _ _ rx) h1, rep_dps (Rep.mono e _ _ ry) h2, h3, h4, q _ (.bl _)⟩)
      · cases ry with
        | tup g1 g2 =>
          obtain ⟨g3, g4⟩ := inScal_rep rx h1 g2 h2
          refine .inr (.inr ⟨_, _, rfl, .inr (hK ▸ ex_t e g1), scal_rep rx h1, g4, ?_⟩)
          rw [g3]
          exact q _ (.bl _)
  | true =>
    refine PE.imp (pe_cmpR (op_notin_str.or ((op_notInD hu).or op_notIn_seq)) ha hb hm) (two (f := innD true) (fun P Hi H x y dx dy d Q hK e rx ry hd q => ?_) fun ρ => by rw [evE])
    cases qk : innB dx dy with
    | none => unfold innD at hd; rw [qk] at hd; cases hd
    | some k =>
      unfold innD at hd; rw [qk] at hd; cases hd
      rcases innB_some qk with ⟨i, j, rfl, rfl, rfl⟩ | ⟨ds, pp, qs, rfl, h1, h2, h3, h4, rfl⟩ | ⟨ds, rfl, h1, h2, rfl⟩
      · cases rx; cases ry
        exact .inl ⟨_, _, rfl, rfl, q _ (.bl _)⟩
      · rw [← hK]
        exact .inr (.inl ⟨pp, qs, rep_dp _ _ _ (Rep.mono e _ _ rx) h1, rep_dps (Rep.mono e _ _ ry) h2, h3, h4, q _ (.bl _)⟩)
      · cases ry with
        | tup g1 g2 =>
          obtain ⟨g3, g4⟩ := inScal_rep rx h1 g2 h2
          refine .inr (.inr ⟨_, _, rfl, .inr (hK ▸ ex_t e g1), scal_rep rx h1, g4, ?_⟩)
          rw [g3]
          exact q _ (.bl _)
theorem snd_tupOf (hg : Gl X "tuple") (hm : X.mg "tuple" = none) (hp : plainX a = true) (ha : PE X a (tE X cl io W Γ ia)) : PE X (.Call (.Name "tuple" p) [a] [] pos) (tE X cl io W Γ (.tupOf ia)) := by
  refine PE.imp (pe_callTy call_tuple_of hg hm (by decide +kernel) (pa_cons ha pa_nil (star_cons hp)) (he := star_cons hp) (hpl := rfl)) ?_
  rintro σ H Q ⟨B, Hi0, pin, Hi, ρ, A, R, h⟩
  refine ⟨B, Hi0, pin, Hi, ρ, A, R, ?_⟩
  unfold evE at h
  refine h.bnd fun v1 Hi1 H1 ρ1 A1 d1 e1 R1 r1 h1 => ?_
  obtain ⟨d, hd, h3⟩ := ok1_some h1
  cases r1 <;> cases hd
  · rename_i a' xs ds h4 h5
    exact ⟨a', xs, rfl, .inr ⟨ex_t R1.i h4, h3.ok R1 (.tup h4 h5)⟩⟩
  · rename_i a' xs ds h4 h5
    refine ⟨a', xs, rfl, .inl ⟨.inl (.inl (R1.i _ _ h4)), fun l hl => ?_⟩⟩
    obtain ⟨A2, R2⟩ := Rel.newD (o := .tup xs) ⟨A1, R1⟩ hl
    have e2 : Ex Hi1 (upd Hi1 l (.tup xs)) := Ex.new (Rel.hfree ⟨A1, R1⟩ hl)
    exact h3.ok' e2 R2 (.tup (.inl (.inl upd_same)) (h5.mono e2))
  · rename_i a' xs ds h4 h5
    refine ⟨a', xs, rfl, .inl ⟨ex_l R1.i h4, fun l hl => ?_⟩⟩
    obtain ⟨A2, R2⟩ := Rel.newD (o := .tup xs) ⟨A1, R1⟩ hl
    have e2 : Ex Hi1 (upd Hi1 l (.tup xs)) := Ex.new (Rel.hfree ⟨A1, R1⟩ hl)
    exact h3.ok' e2 R2 (.tup (.inl (.inl upd_same)) (h5.mono e2))
theorem snd_min2 (hc : X.calm = true) (hg : Gl X "min") (hm : X.mg "min" = none) (hp : plainX a = true) (hp' : plainX b = true) (ha : PE X a (tE X cl io W Γ ia)) (hb : PE X b (tE X cl io W Γ ib)) : PE X (.Call (.Name "min" p) [a, b] [] pos) (tE X cl io W Γ (.min2 ia ib)) := by
  refine PE.imp (pe_callB (call_min2 hc) hg hm (by decide +kernel) (pa_cons ha (pa_cons hb pa_nil (star_cons hp')) (star_cons hp)) (he := star_cons hp) (hpl := star_any (by rw [List.all_cons, hp'] <;> rfl))) (two' (f := min2D) (fun P Hi H x y dx dy d Q hK e rx ry hd q => ?_) fun ρ => by rw [evE])
  cases rx <;> cases ry <;> cases hd
  exact ⟨_, _, rfl, q _ (.int _)⟩
theorem snd_max2 (hc : X.calm = true) (hg : Gl X "max") (hm : X.mg "max" = none) (hp : plainX a = true) (hp' : plainX b = true) (ha : PE X a (tE X cl io W Γ ia)) (hb : PE X b (tE X cl io W Γ ib)) : PE X (.Call (.Name "max" p) [a, b] [] pos) (tE X cl io W Γ (.max2 ia ib)) := by
  refine PE.imp (pe_callB (call_max2 hc) hg hm (by decide +kernel) (pa_cons ha (pa_cons hb pa_nil (star_cons hp')) (star_cons hp)) (he := star_cons hp) (hpl := star_any (by rw [List.all_cons, hp'] <;> rfl))) (two' (f := max2D) (fun P Hi H x y dx dy d Q hK e rx ry hd q => ?_) fun ρ => by rw [evE])
  cases rx <;> cases ry <;> cases hd
  exact ⟨_, _, rfl, q _ (.int _)⟩
theorem snd_gcd {x : Str} (hg : Gl X x) (hm : X.mg x = some (.builtin "math.gcd")) (hdb : (x == ("__debug__" : Str)) = false) (hp : plainX a = true) (hp' : plainX b = true) (ha : PE X a (tE X cl io W Γ ia)) (hb : PE X b (tE X cl io W Γ ib)) : PE X (.Call (.Name x p) [a, b] [] pos) (tE X cl io W Γ (.gcd ia ib)) := by
  refine PE.imp (pe_callBfun cr_gcd hg hm (pa_cons ha (pa_cons hb pa_nil (star_cons hp')) (star_cons hp)) hdb (he := star_cons hp) (hpl := star_any (by rw [List.all_cons, hp'] <;> rfl))) (two' (f := gcdD) (fun P Hi H x y dx dy d Q hK e rx ry hd q => ?_) fun ρ => by rw [evE])
  cases rx <;> cases ry <;> cases hd
  exact ⟨_, _, rfl, q _ (.int _)⟩
theorem snd_bits {p2 : Pos} (hb : attributeBase a "bit_length" X.env (eval a X.env) = eval a X.env) (hl : (p2.endLine == pos.line) = true) (ha : PE X a (tE X cl io W Γ ia)) : PE X (.Call (.Attribute a "bit_length" p2) [] [] pos) (tE X cl io W Γ (.bits ia)) := by
  refine PE.imp (pe_bits ha hb hl) ?_
  rintro σ H Q ⟨B, Hi0, pin, Hi, ρ, A, R, h⟩
  refine ⟨B, Hi0, pin, Hi, ρ, A, R, ?_⟩
  unfold evE at h
  refine h.bnd fun v1 Hi1 H1 ρ1 A1 d1 e1 R1 r1 h1 => ?_
  obtain ⟨d, hd, h3⟩ := ok1_some h1
  cases r1 <;> cases hd
  exact ⟨_, rfl, h3.ok R1 (.int _)⟩
theorem ixN_len {α β : Type} {xs : List α} {ys : List β} {i : Int} (h : xs.length = ys.length) {y : β} (e : atI ys i = some y) : ∃ j, ixN xs.length i = some j ∧ ys[j]? = some y := by
  unfold atI at e
  rw [← h] at e
  cases q : ixN xs.length i with
  | none => rw [q] at e; cases e
  | some j => rw [q] at e; exact ⟨j, rfl, e⟩
theorem reps_at {K : PySem.W.Frag} {cl : Cl} {H : Hp} {xs : List V} {ds : List D} {i : Int} {d : D} (r : Reps K cl H xs ds) (h : atI ds i = some d) : ∃ v, atI xs i = some v ∧ Rep K cl H v d := by
  obtain ⟨j, h1, h2⟩ := ixN_len r.len h
  obtain ⟨v, h3, h4⟩ := r.get h2
  refine ⟨v, ?_, h4⟩
  unfold atI
  rw [h1]
  exact h3
theorem snd_ix (hs : PlainIx b) (ha : PE X a (tE X cl io W Γ ia)) (hb : PE X b (tE X cl io W Γ ib)) : PE X (.Subscript a b pos) (tE X cl io W Γ (.ix ia ib)) := by
  refine ⟨fun pins s σ H Q I h => ?_⟩
  have h0 := h
  obtain ⟨B, Hi0, pin, Hi, ρ, A, R, h1⟩ := h0
  have isS : (∃ z ρ', evE Γ ia ρ = some (.ok (.str z) ρ')) ∨ ¬ (∃ z ρ', evE Γ ia ρ = some (.ok (.str z) ρ')) := Classical.em _
  rcases isS with ⟨z, ρ', ez⟩ | nS
  · refine (pe_item_str ha hb hs).run pins s σ H Q I ?_
    refine ⟨B, Hi0, pin, Hi, ρ, A, R, ?_⟩
    unfold evE at h1
    rw [ez] at h1 ⊢
    intro v1 Hi1 H1 A1 e1 R1 r1
    refine ⟨B, Hi0, pin, Hi1, ρ', A1, R1, ?_⟩
    have h2 : FinG ⟨X.K, cl, B, Hi0, pin⟩ io W Hi σ RV Q (bnd (evE Γ ib ρ') fun y ρ => ok1 (ixD (.str z) y) ρ) := h1
    refine (FinG.mono e1 h2).bnd fun v2 Hi2 H2 ρ2 A2 d2 e2 R2 r2 h3 => ?_
    obtain ⟨d, hd, h4⟩ := ok1_some h3
    have hd' : ixS z d2 = some d := hd
    cases r1
    cases r2 <;> try (cases hd'; done)
    rename_i i
    have hd2 : (if 0 ≤ i ∧ i < 2 ^ 63 ∧ i < z.length then (z.cps[i.toNat]?).map fun c => D.str ⟨#[c]⟩ else none) = some d := hd'
    by_cases hc : 0 ≤ i ∧ i < 2 ^ 63 ∧ i < z.length
    · rw [if_pos hc] at hd2
      cases qc : z.cps[i.toNat]? with
      | none => rw [qc] at hd2; cases hd2
      | some c =>
        rw [qc] at hd2
        cases hd2
        exact ⟨z, i, c, rfl, rfl, hc.1, hc.2.1, hc.2.2, qc, h4.ok R2 (.str _)⟩
    · rw [if_neg hc] at hd2
      cases hd2
  · refine (pe_ix (ix_list.or ix_tup) ha hb hs).run pins s σ H Q I ?_
    refine ⟨B, Hi0, pin, Hi, ρ, A, R, ?_⟩
    unfold evE at h1
    cases qa : evE Γ ia ρ with
    | none => rw [qa] at h1; exact h1
    | some o =>
      cases o with
      | ex c w ρ1 => rw [qa] at h1; exact h1
      | ok d1 ρ1 =>
        rw [qa] at h1
        have nd : ∀ z, d1 ≠ .str z := fun z e => nS ⟨z, ρ1, by rw [qa, e]⟩
        intro v1 Hi1 H1 A1 e1 R1 r1
        refine ⟨B, Hi0, pin, Hi1, ρ1, A1, R1, ?_⟩
        have h2 : FinG ⟨X.K, cl, B, Hi0, pin⟩ io W Hi σ RV Q (bnd (evE Γ ib ρ1) fun y ρ => ok1 (ixD d1 y) ρ) := h1
        refine (FinG.mono e1 h2).bnd fun v2 Hi2 H2 ρ2 A2 d2 e2 R2 r2 h3 => ?_
        obtain ⟨d, hd, h4⟩ := ok1_some h3
        have hd' : ixQ d1 d2 = some d := by cases d1 <;> first | exact absurd rfl (nd _) | exact hd
        cases r2 <;> try (cases hd'; done)
        rename_i i
        unfold ixQ at hd'
        cases q1 : items d1 with
        | none => rw [q1] at hd'; cases hd'
        | some ds =>
          rw [q1] at hd'
          obtain ⟨a', xs, rfl, hr, hsq⟩ := items_some (Rep.mono e2 _ _ r1) q1
          obtain ⟨v, g1, g2⟩ := reps_at hr (show atI ds i = some d from hd')
          rcases hsq with hsq | hsq
          · exact .inl ⟨a', xs, i, v, rfl, rfl, ex_l R2.i hsq, g1, h4.ok R2 g2⟩
          · exact .inr ⟨a', xs, i, v, rfl, rfl, ex_t R2.i hsq, g1, h4.ok R2 g2⟩
theorem snd_pop {i : Nat} {x : Str} {p2 p3 : Pos} (hl : (p3.endLine == pos.line) = true) (hN : X.N[i]? = some x) (hv : Vis X.env.scope x) (hd : (x == ("__debug__" : Str)) = false) (hcd : (x == ("__classdict__" : Str)) = false) :
    PE X (.Call (.Attribute (.Name x p2) "pop" p3) [] [] pos) (tE X cl io W Γ (.pop i)) := by
  refine PE.imp (pe_bm0 PySem.F.plainAttrs_list PySem.F.slot_list_pop PySem.F.type_list_pop mt_pop (pe_var hN hv hd hcd) rfl hl) ?_
  rintro σ H Q ⟨B, Hi0, pin, Hi, ρ, A, R, h⟩
  unfold evE at h
  cases q : ρ.at i with
  | no => rw [q] at h; exact h.elim
  | v d => rw [q] at h; exact h.elim
  | l ds =>
    rw [q] at h
    obtain ⟨d, hd, h2⟩ := ok1_some h
    obtain ⟨a', vs, h3, h4, h5, h6⟩ := Rel.mutL (ds' := ds.dropLast) ⟨A, R⟩ q
    obtain ⟨v, h7, h8⟩ := h5.get hd
    obtain ⟨A', R'⟩ := h6 _ h5.dropLast
    refine ⟨.ref a', h3, .inl ⟨rfl, _, .inl (.inl h4)⟩, a', vs, v, rfl, rfl, h4, by rw [h5.len]; exact h7, h2.ok R' h8⟩
  | t cs => rw [q] at h; exact h.elim
  | o c fs => rw [q] at h; exact h.elim
theorem snd_listOf (hg : Gl X "list") (hm : X.mg "list" = none) (hp : plainX a = true) (ha : PE X a (tE X cl io W Γ ia)) : PE X (.Call (.Name "list" p) [a] [] pos) (tL X cl io W Γ (.listOf ia)) := by
  refine PE.imp (pe_callTy call_list_of hg hm (by decide +kernel) (pa_cons ha pa_nil (star_cons hp)) (he := star_cons hp) (hpl := rfl)) ?_
  rintro σ H Q ⟨B, Hi0, pin, Hi, ρ, A, R, h⟩
  refine ⟨B, Hi0, pin, Hi, ρ, A, R, ?_⟩
  unfold evL at h
  refine h.bnd fun v1 Hi1 H1 ρ1 A1 d1 e1 R1 r1 h1 => ?_
  obtain ⟨ds, hd, h3⟩ := ok1_some h1
  obtain ⟨a', xs, rfl, hr, hs⟩ := items_some r1 hd
  refine ⟨a', xs, rfl, sq_ex R1.i hs, fun l hl => ?_⟩
  have R2 := R1.step (H' := upd H1 l (.lst xs)) (Ex.refl _) (fun a u e => Ex.new hl a u (R1.i a u e)) (fun a u e n => Ex.new hl a u e) (fun _ _ e => e)
  refine h3.ok R2 ⟨l, xs, rfl, upd_same, hr, Rel.hfree ⟨A1, R1⟩ hl, fresh_back R1.b hl, R1.notin hl⟩
/-! isinstance -/
theorem ty_of {K : PySem.W.Frag} {Hi H : Hp} {x : V} {d : D} {t : String} (e : Ex Hi H) (r : Rep K cl Hi x d) (h : tyOf d = some t) : TyX K H x (.type t) := by
  cases r with
  | non => cases h; exact .base .non
  | bl b => cases h; exact .base (.bl b)
  | int i => cases h; exact .base (.int i)
  | str z => cases h; exact .base (.str z)
  | tup h1 _ =>
    cases h
    rcases ex_t e h1 with (h2 | ⟨o, h2⟩) | ⟨o, its, n, h2, h3, _⟩
    · exact .base (.tup h2)
    · exact .fTuple h2
    · exact .kTuple h2 h3
  | lst h1 _ =>
    cases h
    exact .base (.lst (e _ _ h1))
  | ins _ _ => cases h
  | scr _ _ => cases h
theorem kit_all : (["NoneType", "bool", "int", "str", "tuple", "list"].all fun t => [Ty.int, .bool, .str, .tuple, .list].all fun u => decide (kitB t u.name = some (decide (t = u.name) || (decide (t = "bool") && decide (u = .int))))) = true := by decide +kernel
theorem kit_one {d : D} {t : String} {u : Ty} (h : tyOf d = some t) : kitB t u.name = some (isTy d u) := by
  have k := kit_all
  rw [List.all_eq_true] at k
  have hu : u ∈ [Ty.int, .bool, .str, .tuple, .list] := by cases u <;> decide
  have go : ∀ s, s ∈ ["NoneType", "bool", "int", "str", "tuple", "list"] → kitB s u.name = some (decide (s = u.name) || (decide (s = "bool") && decide (u = .int))) := fun s hs => of_decide_eq_true ((List.all_eq_true.mp (k s hs)) u hu)
  cases d with
  | non => cases h; rw [go "NoneType" (by decide)]; cases u <;> decide
  | bl b => cases h; rw [go "bool" (by decide)]; cases u <;> rfl
  | int b => cases h; rw [go "int" (by decide)]; cases u <;> rfl
  | str b => cases h; rw [go "str" (by decide)]; cases u <;> rfl
  | tup b => cases h; rw [go "tuple" (by decide)]; cases u <;> rfl
  | lst b => cases h; rw [go "list" (by decide)]; cases u <;> rfl
  | ins _ _ => cases h
  | scr _ => cases h
theorem kit_any {K : PySem.W.Frag} {d : D} {t : String} (h : tyOf d = some t) : ∀ ts : List Ty, PySem.W.kitAny K (.type t) (ts.map fun u => .type u.name) = some (ts.any fun u => isTy d u)
  | [] => rfl
  | u :: r => by
    have h1 := kit_ty (K := K) (kit_one (u := u) h)
    rw [List.map_cons, List.any_cons]
    refine kitAny_cons h1 (fun hb => ?_) fun hb => ?_
    · rw [hb, Bool.false_or]; exact kit_any h r
    · rw [hb, Bool.true_or]
theorem boot_ty (t : Ty) : bootBuiltins (Str.ofString t.name) = some (.type t.name) := by cases t <;> decide +kernel
theorem pe_ty {t : Ty} (hg : Gl X (Str.ofString t.name)) (hm : X.mg (Str.ofString t.name) = none) : PE X (.Name (Str.ofString t.name) p) (tC (.ty t.name)) :=
  pe_bltn hg hm (boot_ty t) rfl (by cases t <;> decide) (by cases t <;> decide)
theorem snd_isT1 {t : Ty} {p2 : Pos} (hg : Gl X "isinstance") (hm : X.mg "isinstance" = none) (hg2 : Gl X (Str.ofString t.name)) (hm2 : X.mg (Str.ofString t.name) = none) (hp : plainX a = true) (ha : PE X a (tE X cl io W Γ ia)) :
    PE X (.Call (.Name "isinstance" p) [a, .Name (Str.ofString t.name) p2] [] pos) (tE X cl io W Γ (.isT ia [t])) := by
  refine PE.imp (pe_callB call_isi hg hm (by decide +kernel) (pa_cons ha (pa_cons (pe_ty hg2 hm2) pa_nil) (star_cons hp)) (he := star_cons hp) (hpl := rfl)) ?_
  rintro σ H Q ⟨B, Hi0, pin, Hi, ρ, A, R, h⟩
  refine ⟨B, Hi0, pin, Hi, ρ, A, R, ?_⟩
  unfold evE at h
  refine h.bnd fun v1 Hi1 H1 ρ1 A1 d1 e1 R1 r1 h1 => ?_
  obtain ⟨d, hd, h3⟩ := ok1_some h1
  unfold isTDD isTyD at hd
  cases q : tyOf d1 with
  | none => rw [q] at hd; cases hd
  | some s =>
    rw [q] at hd
    cases hd
    refine ⟨v1, .ty t.name, .type s, .type t.name, isTy d1 t, rfl, .ty _, ty_of R1.i r1 q, kit_ty (kit_one q), ?_⟩
    have e : ([t].any fun u => isTy d1 u) = isTy d1 t := by rw [List.any_cons]; simp
    rw [← e]
    exact h3.ok R1 (.bl _)
inductive TyArgs (X : Cx) : List Ty → List Expr → Prop
  | nil : TyArgs X [] []
  | cons {t : Ty} {e : Expr} {ts : List Ty} {es : List Expr} (h : ∃ p2, e = .Name (Str.ofString t.name) p2 ∧ Gl X (Str.ofString t.name) ∧ X.mg (Str.ofString t.name) = none) (r : TyArgs X ts es) : TyArgs X (t :: ts) (e :: es)
theorem snd_tys : ∀ {ts : List Ty} {es : List Expr}, TyArgs X ts es →
    PA X es (fun _ H Q => Q (ts.map fun t => V.ty t.name) H)
  | _, _, .nil => pa_nil
  | _, _, .cons ⟨p2, he, h1, h2⟩ t => by
    subst he
    exact PA.imp (pa_cons (pe_ty h1 h2) (snd_tys t)) fun σ H Q h => h
theorem cls_tys : ∀ ts : List Ty, Paired ClsV (ts.map fun t => V.ty t.name) (ts.map fun t => Value.type t.name)
  | [] => .nil
  | t :: r => .cons (.ty _) (cls_tys r)
theorem snd_isTs {ts : List Ty} {es : List Expr} {k : Nat} {p2 : Pos} (hl : ts.length ≤ sizeLine) (hg : Gl X "isinstance") (hm : X.mg "isinstance" = none)
    (ht : TyArgs X ts es) (hp : plainX a = true) (ha : PE X a (tE X cl io W Γ ia)) :
    PE X (.Call (.Name "isinstance" p) [a, .Tuple es k p2] [] pos) (tE X cl io W Γ (.isT ia ts)) := by
  refine PE.imp (pe_callB call_isiT hg hm (by decide +kernel) (pa_cons ha (pa_cons (pe_tup (snd_tys ht)) pa_nil) (star_cons hp)) (he := star_cons hp) (hpl := rfl)) ?_
  rintro σ H Q ⟨B, Hi0, pin, Hi, ρ, A, R, h⟩
  refine ⟨B, Hi0, pin, Hi, ρ, A, R, ?_⟩
  unfold evE at h
  refine h.bnd fun v1 Hi1 H1 ρ1 A1 d1 e1 R1 r1 h1 => ?_
  obtain ⟨d, hd, h3⟩ := ok1_some h1
  unfold isTDD isTyD at hd
  cases q : tyOf d1 with
  | none => rw [q] at hd; cases hd
  | some s =>
    rw [q] at hd
    cases hd
    refine ⟨by rw [List.length_map]; exact hl, fun l hl' => ?_⟩
    obtain ⟨A2, R2⟩ := Rel.newO (o := .tup (ts.map fun t => V.ty t.name)) ⟨A1, R1⟩ hl'
    exact ⟨v1, l, _, .type s, _, _, rfl, upd_same, cls_tys ts, ty_of R2.i r1 q, kit_any q ts, h3.ok R2 (.bl _)⟩
end
end VI
set_option maxHeartbeats 2000000
/-! Texts: methods, cuts. -/
namespace VI
open PySem L2 Evl
section
variable {X : Cx} {cl : Cl} {io : List Nat} {W : WX} {Γ : Gam} {a b c : Expr} {ia ib ic : E} {pos : Pos}
/-- a method of a text with one argument -/
theorem strM {α β : Type} {P : Par} {Hi : Hp} {σ : L2.St} {ρ : Env} {R2 : Par → Hp → Hp → (Nat → List Addr) → L2.St → β → α → Prop} {Q : β → Hp → Prop} {Q1 : V → Hp → Prop} {f : D → D → Env → Option (Out α)}
    (h : FinG P io W Hi σ R2 Q (bnd (evE Γ ia ρ) fun x ρ => if isStr x = true then bnd (evE Γ ib ρ) fun y ρ => f x y ρ else none))
    (k : ∀ z Hi' H' ρ' A, Ex Hi Hi' → RelA P io Hi' H' σ ρ' A → FinG P io W Hi' σ R2 Q (bnd (evE Γ ib ρ') fun y ρ => f (.str z) y ρ) → Q1 (.str z) H') : FinG P io W Hi σ RV Q1 (evE Γ ia ρ) := by
  refine h.bnd fun v1 Hi1 H1 ρ1 A1 d1 e1 R1 r1 h1 => ?_
  cases d1 with
  | str z =>
    cases r1
    exact k z Hi1 H1 ρ1 A1 e1 R1 h1
  | _ => exact h1.elim
abbrev Few (X : Cx) (pos : Pos) (b : Expr) : Prop := ((backTo pos (starEach [b] X.env)).all (fun x => !x.1) && (backToKw pos (keywordEach [] X.env)).all (fun x => x.1.isSome) && decide (([b] : List Expr).length + ([] : List Keyword).length + (if ([] : List Keyword).isEmpty then 0 else 1) < 30)) = true
theorem snd_startsw {p2 : Pos} (hb0 : attributeBase a "startswith" X.env (eval a X.env) = eval a X.env) (hp : plainX b = true) (hl : (p2.endLine == pos.line) = true) (hfew : Few X pos b)
    (ha : PE X a (tE X cl io W Γ ia)) (hb : PE X b (tE X cl io W Γ ib)) : PE X (.Call (.Attribute a "startswith" p2) [b] [] pos) (tE X cl io W Γ (.startsw ia ib)) := by
  refine PE.imp (pe_bm PySem.F.plainAttrs_str PySem.F.slot_str_startswith PySem.F.type_str_startswith mt_startswith ha (pa_cons hb pa_nil (star_cons hp)) hb0 hfew hl (star_cons hp) rfl) ?_
  rintro σ H Q ⟨B, Hi0, pin, Hi, ρ, A, R, h⟩
  refine ⟨B, Hi0, pin, Hi, ρ, A, R, ?_⟩
  unfold evE at h
  refine strM h fun z Hi1 H1 ρ1 A1 e1 R1 h2 => ⟨rfl, B, Hi0, pin, Hi1, ρ1, A1, R1, ?_⟩
  refine h2.bnd fun v2 Hi2 H2 ρ2 A2 d2 e2 R2 r2 h3 => ?_
  obtain ⟨d, hd, h4⟩ := ok1_some h3
  cases r2 <;> try (cases hd; done)
  cases hd
  exact ⟨z, _, rfl, rfl, h4.ok R2 (.bl _)⟩
theorem snd_partn {p2 : Pos} (hb0 : attributeBase a "partition" X.env (eval a X.env) = eval a X.env) (hp : plainX b = true) (hl : (p2.endLine == pos.line) = true) (hfew : Few X pos b)
    (ha : PE X a (tE X cl io W Γ ia)) (hb : PE X b (tE X cl io W Γ ib)) : PE X (.Call (.Attribute a "partition" p2) [b] [] pos) (tE X cl io W Γ (.partn ia ib)) := by
  refine PE.imp (pe_bm PySem.F.plainAttrs_str PySem.F.slot_str_partition PySem.F.type_str_partition mt_partition ha (pa_cons hb pa_nil (star_cons hp)) hb0 hfew hl (star_cons hp) rfl) ?_
  rintro σ H Q ⟨B, Hi0, pin, Hi, ρ, A, R, h⟩
  refine ⟨B, Hi0, pin, Hi, ρ, A, R, ?_⟩
  unfold evE at h
  refine strM h fun z Hi1 H1 ρ1 A1 e1 R1 h2 => ⟨rfl, B, Hi0, pin, Hi1, ρ1, A1, R1, ?_⟩
  refine h2.bnd fun v2 Hi2 H2 ρ2 A2 d2 e2 R2 r2 h3 => ?_
  obtain ⟨d, hd, h4⟩ := ok1_some h3
  cases r2 <;> try (cases hd; done)
  rename_i y
  have hd' : (if y.length ≠ 0 ∧ z.length ≤ sizeLine then some (D.tup [.str (Txt.partition z y).1, .str (Txt.partition z y).2.1, .str (Txt.partition z y).2.2]) else none) = some d := hd
  by_cases hc : y.length ≠ 0 ∧ z.length ≤ sizeLine
  · rw [if_pos hc] at hd'
    cases hd'
    refine ⟨z, y, rfl, rfl, by simpa using hc.1, hc.2, fun p hp' => ?_⟩
    obtain ⟨A3, R3⟩ := Rel.newD (o := .tup [.str (Txt.partition z y).1, .str (Txt.partition z y).2.1, .str (Txt.partition z y).2.2]) ⟨A2, R2⟩ hp'
    exact h4.ok' (Ex.new (Rel.hfree ⟨A2, R2⟩ hp')) R3 (.tup (.inl (.inl upd_same)) (.cons (.str _) (.cons (.str _) (.cons (.str _) .nil))))
  · rw [if_neg hc] at hd'
    cases hd'
/-- a new list at a free place -/
theorem newL_rel {P : Par} {Hi H : Hp} {σ : L2.St} {ρ : Env} {A : Nat → List Addr} {p : Addr} {vs : List V} {ds : List D} (R : RelA P io Hi H σ ρ A) (hp : H p = none) (hr : Reps P.K P.cl Hi vs ds) :
    RelA P io Hi (upd H p (.lst vs)) σ ρ A ∧ RL P Hi (upd H p (.lst vs)) A σ (.ref p) ds := by
  refine ⟨R.step (Ex.refl _) (fun a u e => Ex.new hp a u (R.i a u e)) (fun a u e n => Ex.new hp a u e) (fun _ _ e => e), p, vs, rfl, upd_same, hr, Rel.hfree ⟨A, R⟩ hp, fresh_back R.b hp, R.notin hp⟩
theorem reps_strs {K : PySem.W.Frag} {cf : Nat → Addr} {Hi : Hp} : ∀ ys : List Str, Reps K cf Hi (ys.map V.str) (ys.map D.str)
  | [] => .nil
  | y :: r => .cons (.str y) (reps_strs r)
theorem snd_splt {p2 : Pos} (hb0 : attributeBase a "split" X.env (eval a X.env) = eval a X.env) (hp : plainX b = true) (hl : (p2.endLine == pos.line) = true) (hfew : Few X pos b)
    (ha : PE X a (tE X cl io W Γ ia)) (hb : PE X b (tE X cl io W Γ ib)) : PE X (.Call (.Attribute a "split" p2) [b] [] pos) (tL X cl io W Γ (.splt ia ib)) := by
  refine PE.imp (pe_bm PySem.F.plainAttrs_str PySem.F.slot_str_split PySem.F.type_str_split mt_split ha (pa_cons hb pa_nil (star_cons hp)) hb0 hfew hl (star_cons hp) rfl) ?_
  rintro σ H Q ⟨B, Hi0, pin, Hi, ρ, A, R, h⟩
  refine ⟨B, Hi0, pin, Hi, ρ, A, R, ?_⟩
  unfold evL at h
  refine strM h fun z Hi1 H1 ρ1 A1 e1 R1 h2 => ⟨rfl, B, Hi0, pin, Hi1, ρ1, A1, R1, ?_⟩
  refine h2.bnd fun v2 Hi2 H2 ρ2 A2 d2 e2 R2 r2 h3 => ?_
  obtain ⟨d, hd, h4⟩ := ok1_some h3
  cases r2 <;> try (cases hd; done)
  rename_i y
  have hd' : (if y.length ≠ 0 ∧ z.length + 2 ≤ sizeLine then some ((Txt.split z y).map D.str) else none) = some d := hd
  by_cases hc : y.length ≠ 0 ∧ z.length + 2 ≤ sizeLine
  · rw [if_pos hc] at hd'
    cases hd'
    refine ⟨z, y, rfl, rfl, by simpa using hc.1, hc.2, fun p hp' => ?_⟩
    obtain ⟨R3, r3⟩ := newL_rel R2 hp' (reps_strs (Txt.split z y))
    exact h4.ok R3 r3
  · rw [if_neg hc] at hd'
    cases hd'
theorem Reps.cut {K : PySem.W.Frag} {cf : Nat → Addr} {Hi : Hp} {vs : List V} {ds : List D} (r : Reps K cf Hi vs ds) (lo hi : Option Int) : Reps K cf Hi (cutV vs lo hi) (cutD ds lo hi) := by
  unfold cutV cutD
  rw [r.len]
  exact (r.drop _).take _
theorem cutD_all {ds : List D} {lo hi : Option Int} (h : HT.sIx ds.length 0 lo = 0 ∧ HT.sIx ds.length ds.length hi = ds.length) : cutD ds lo hi = ds := by
  unfold cutD
  rw [h.1, h.2]
  simp
theorem slD_of {P : Par} {Hi H : Hp} {σ : L2.St} {ρ : Env} {A : Nat → List Addr} {x : V} {dx d : D} {lo hi : Option Int} {Q : VK} (hK : P.K = X.K) (R : RelA P io Hi H σ ρ A) (r : Rep P.K P.cl Hi x dx) (h : slD dx lo hi = some d) (q : FinG P io W Hi σ RV Q (some (.ok d ρ))) :
    rSlS x lo hi H Q ∨ rSlA X.K x lo hi H Q := by
  cases r with
  | str z =>
    have h' : (if z.length ≤ sizeLine then some (D.str (cutS z lo hi)) else none) = some d := h
    by_cases hc : z.length ≤ sizeLine
    · rw [if_pos hc] at h'
      cases h'
      exact .inl ⟨z, rfl, hc, q.ok R (.str _)⟩
    · rw [if_neg hc] at h'; cases h'
  | @tup p xs ds h1 h2 =>
    cases h
    refine .inr ⟨p, xs, rfl, hK ▸ ex_t R.i h1, fun hw => ?_, fun hw t ht => ?_⟩
    · rw [h2.len] at hw
      rw [cutD_all hw] at q
      exact q.ok R (.tup h1 h2)
    · obtain ⟨A3, R3⟩ := Rel.newD (o := .tup (cutV xs lo hi)) ⟨A, R⟩ ht
      have e0 := Ex.new (o := .tup (cutV xs lo hi)) (Rel.hfree ⟨A, R⟩ ht)
      exact q.ok' e0 R3 (.tup (.inl (.inl upd_same)) ((h2.mono e0).cut lo hi))
  | _ => cases h
theorem slL_of {P : Par} {Hi H : Hp} {σ : L2.St} {ρ : Env} {A : Nat → List Addr} {x : V} {dx : D} {d : List D} {lo hi : Option Int} {Q : VK} (hK : P.K = X.K) (R : RelA P io Hi H σ ρ A) (r : Rep P.K P.cl Hi x dx) (h : slL dx lo hi = some d) (q : FinG P io W Hi σ RL Q (some (.ok d ρ))) :
    rSlL X.K x lo hi H Q := by
  cases r with
  | @lst p xs ds h1 h2 =>
    cases h
    refine ⟨p, xs, rfl, hK ▸ .inl (.inl (R.i _ _ h1)), fun t ht => ?_⟩
    obtain ⟨R3, r3⟩ := newL_rel R ht (h2.cut lo hi)
    exact q.ok R3 r3
  | _ => cases h
theorem sl_listT : SlR X (rSlL X.K) := sl_list
theorem snd_slF {p2 : Pos} (ha : PE X a (tE X cl io W Γ ia)) (hb : PE X b (tE X cl io W Γ ib)) : PE X (.Subscript a (.Slice (some b) none none p2) pos) (tE X cl io W Γ (.slF ia ib)) := by
  refine PE.imp (pe_slice (sl_str.or sl_tupA) ha (po_some hb) po_none) ?_
  rintro σ H Q ⟨B, Hi0, pin, Hi, ρ, A, R, h⟩
  refine ⟨B, Hi0, pin, Hi, ρ, A, R, ?_⟩
  unfold evE at h
  refine h.bnd fun v1 Hi1 H1 ρ1 A1 d1 e1 R1 r1 h1 => ⟨B, Hi0, pin, Hi1, ρ1, A1, R1, ?_⟩
  refine h1.bnd fun v2 Hi2 H2 ρ2 A2 d2 e2 R2 r2 h2 => ?_
  obtain ⟨d, hd, h4⟩ := ok1_some h2
  cases r2 <;> try (cases hd; done)
  rename_i i
  refine ⟨i, rfl, ?_⟩
  exact slD_of (P := ⟨X.K, cl, B, Hi0, pin⟩) rfl R2 (Rep.mono e2 _ _ r1) hd h4
theorem snd_slT {p2 : Pos} (ha : PE X a (tE X cl io W Γ ia)) (hb : PE X b (tE X cl io W Γ ib)) : PE X (.Subscript a (.Slice none (some b) none p2) pos) (tE X cl io W Γ (.slT ia ib)) := by
  refine PE.imp (pe_slice (sl_str.or sl_tupA) ha po_none (po_some hb)) ?_
  rintro σ H Q ⟨B, Hi0, pin, Hi, ρ, A, R, h⟩
  refine ⟨B, Hi0, pin, Hi, ρ, A, R, ?_⟩
  unfold evE at h
  refine h.bnd fun v1 Hi1 H1 ρ1 A1 d1 e1 R1 r1 h1 => ⟨B, Hi0, pin, Hi1, ρ1, A1, R1, ?_⟩
  refine h1.bnd fun v2 Hi2 H2 ρ2 A2 d2 e2 R2 r2 h2 => ?_
  obtain ⟨d, hd, h4⟩ := ok1_some h2
  cases r2 <;> try (cases hd; done)
  rename_i i
  refine ⟨i, rfl, ?_⟩
  exact slD_of (P := ⟨X.K, cl, B, Hi0, pin⟩) rfl R2 (Rep.mono e2 _ _ r1) hd h4
theorem snd_slFL {p2 : Pos} (ha : PE X a (tE X cl io W Γ ia)) (hb : PE X b (tE X cl io W Γ ib)) : PE X (.Subscript a (.Slice (some b) none none p2) pos) (tL X cl io W Γ (.slF ia ib)) := by
  refine PE.imp (pe_slice sl_listT ha (po_some hb) po_none) ?_
  rintro σ H Q ⟨B, Hi0, pin, Hi, ρ, A, R, h⟩
  refine ⟨B, Hi0, pin, Hi, ρ, A, R, ?_⟩
  unfold evL at h
  refine h.bnd fun v1 Hi1 H1 ρ1 A1 d1 e1 R1 r1 h1 => ⟨B, Hi0, pin, Hi1, ρ1, A1, R1, ?_⟩
  refine h1.bnd fun v2 Hi2 H2 ρ2 A2 d2 e2 R2 r2 h2 => ?_
  obtain ⟨d, hd, h4⟩ := ok1_some h2
  cases r2 <;> try (cases hd; done)
  rename_i i
  refine ⟨i, rfl, ?_⟩
  exact slL_of (P := ⟨X.K, cl, B, Hi0, pin⟩) rfl R2 (Rep.mono e2 _ _ r1) hd h4
theorem snd_slTL {p2 : Pos} (ha : PE X a (tE X cl io W Γ ia)) (hb : PE X b (tE X cl io W Γ ib)) : PE X (.Subscript a (.Slice none (some b) none p2) pos) (tL X cl io W Γ (.slT ia ib)) := by
  refine PE.imp (pe_slice sl_listT ha po_none (po_some hb)) ?_
  rintro σ H Q ⟨B, Hi0, pin, Hi, ρ, A, R, h⟩
  refine ⟨B, Hi0, pin, Hi, ρ, A, R, ?_⟩
  unfold evL at h
  refine h.bnd fun v1 Hi1 H1 ρ1 A1 d1 e1 R1 r1 h1 => ⟨B, Hi0, pin, Hi1, ρ1, A1, R1, ?_⟩
  refine h1.bnd fun v2 Hi2 H2 ρ2 A2 d2 e2 R2 r2 h2 => ?_
  obtain ⟨d, hd, h4⟩ := ok1_some h2
  cases r2 <;> try (cases hd; done)
  rename_i i
  refine ⟨i, rfl, ?_⟩
  exact slL_of (P := ⟨X.K, cl, B, Hi0, pin⟩) rfl R2 (Rep.mono e2 _ _ r1) hd h4
theorem snd_slB {p2 : Pos} (ha : PE X a (tE X cl io W Γ ia)) (hb : PE X b (tE X cl io W Γ ib)) (hc : PE X c (tE X cl io W Γ ic)) : PE X (.Subscript a (.Slice (some b) (some c) none p2) pos) (tE X cl io W Γ (.slB ia ib ic)) := by
  refine PE.imp (pe_slice (sl_str.or sl_tupA) ha (po_some hb) (po_some hc)) ?_
  rintro σ H Q ⟨B, Hi0, pin, Hi, ρ, A, R, h⟩
  refine ⟨B, Hi0, pin, Hi, ρ, A, R, ?_⟩
  unfold evE at h
  refine h.bnd fun v1 Hi1 H1 ρ1 A1 d1 e1 R1 r1 h1 => ⟨B, Hi0, pin, Hi1, ρ1, A1, R1, ?_⟩
  refine h1.bnd fun v2 Hi2 H2 ρ2 A2 d2 e2 R2 r2 h2 => ?_
  have h2' : FinG ⟨X.K, cl, B, Hi0, pin⟩ io W Hi2 σ RV Q (if isIntD d2 = true then bnd (evE Γ ic ρ2) fun z ρ => ok1 (slBD d1 d2 z) ρ else none) := h2
  cases r2 with
  | int i =>
    refine ⟨i, rfl, B, Hi0, pin, Hi2, ρ2, A2, R2, ?_⟩
    rw [if_pos (show isIntD (D.int i) = true from rfl)] at h2'
    refine h2'.bnd fun v3 Hi3 H3 ρ3 A3 d3 e3 R3 r3 h3 => ?_
    obtain ⟨d, hd, h4⟩ := ok1_some h3
    cases r3 <;> try (cases hd; done)
    rename_i j
    refine ⟨j, rfl, ?_⟩
    exact slD_of (P := ⟨X.K, cl, B, Hi0, pin⟩) rfl R3 (Rep.mono (e2.trans e3) _ _ r1) hd h4
  | _ => exact (by rw [if_neg (fun w => nomatch w)] at h2'; exact h2'.elim)
theorem snd_slBL {p2 : Pos} (ha : PE X a (tE X cl io W Γ ia)) (hb : PE X b (tE X cl io W Γ ib)) (hc : PE X c (tE X cl io W Γ ic)) : PE X (.Subscript a (.Slice (some b) (some c) none p2) pos) (tL X cl io W Γ (.slB ia ib ic)) := by
  refine PE.imp (pe_slice sl_list ha (po_some hb) (po_some hc)) ?_
  rintro σ H Q ⟨B, Hi0, pin, Hi, ρ, A, R, h⟩
  refine ⟨B, Hi0, pin, Hi, ρ, A, R, ?_⟩
  unfold evL at h
  refine h.bnd fun v1 Hi1 H1 ρ1 A1 d1 e1 R1 r1 h1 => ⟨B, Hi0, pin, Hi1, ρ1, A1, R1, ?_⟩
  refine h1.bnd fun v2 Hi2 H2 ρ2 A2 d2 e2 R2 r2 h2 => ?_
  have h2' : FinG ⟨X.K, cl, B, Hi0, pin⟩ io W Hi2 σ RL Q (if isIntD d2 = true then bnd (evE Γ ic ρ2) fun z ρ => ok1 (slBL d1 d2 z) ρ else none) := h2
  cases r2 with
  | int i =>
    refine ⟨i, rfl, B, Hi0, pin, Hi2, ρ2, A2, R2, ?_⟩
    rw [if_pos (show isIntD (D.int i) = true from rfl)] at h2'
    refine h2'.bnd fun v3 Hi3 H3 ρ3 A3 d3 e3 R3 r3 h3 => ?_
    obtain ⟨d, hd, h4⟩ := ok1_some h3
    cases r3 <;> try (cases hd; done)
    rename_i j
    refine ⟨j, rfl, ?_⟩
    exact slL_of (P := ⟨X.K, cl, B, Hi0, pin⟩) rfl R3 (Rep.mono (e2.trans e3) _ _ r1) hd h4
  | _ => exact (by rw [if_neg (fun w => nomatch w)] at h2'; exact h2'.elim)
/-! our own lists, left as they are -/
theorem isL_ex {s : Slot} (h : isL s = true) : ∃ ds, s = .l ds := by
  cases s with
  | l ds => exact ⟨ds, rfl⟩
  | _ => cases h
theorem snd_ixl {i : Nat} {x : Str} {p2 : Pos} (hi : X.N[i]? = some x) (hv : Vis X.env.scope x) (hd : (x == ("__debug__" : Str)) = false) (hcd : (x == ("__classdict__" : Str)) = false) (hs : PlainIx b) (hb : PE X b (tE X cl io W Γ ib)) : PE X (.Subscript (.Name x p2) b pos) (tE X cl io W Γ (.ixl i ib)) := by
  refine PE.imp (pe_ix ix_list (pe_var hi hv hd hcd) hb hs) ?_
  rintro σ H Q ⟨B, Hi0, pin, Hi, ρ, A, R, h⟩
  unfold evE at h
  by_cases ho : isL (ρ.at i) = true
  · rw [if_pos ho] at h
    obtain ⟨ds, q⟩ := isL_ex ho
    obtain ⟨a', vs, h1, h2, h3, h4, h5, h6⟩ := R.own q
    refine ⟨.ref a', sAt_some h2, B, Hi0, pin, Hi, ρ, A, R, ?_⟩
    refine h.bnd fun v1 Hi1 H1 ρ1 A1 z e1 R1 r1 k1 => ?_
    obtain ⟨d, hd2, k2⟩ := ok1_some k1
    unfold getIS at hd2
    cases q2 : ρ1.at i with
    | l ds1 =>
      rw [q2] at hd2
      obtain ⟨a2, vs1, t1, t2, t3, t4, _, _⟩ := R1.own q2
      rw [h2] at t2
      cases t2
      cases r1 with
      | int k =>
        obtain ⟨v, g1, g2⟩ := reps_at t4 hd2
        exact ⟨a', vs1, k, v, rfl, rfl, .inl (.inl t3), g1, k2.ok R1 g2⟩
      | _ => cases hd2
    | _ => rw [q2] at hd2; cases hd2
  · rw [if_neg ho] at h
    exact h.elim
theorem slOwn_of {i : Nat} {P : Par} {Hi H : Hp} {σ : L2.St} {ρ : Env} {A : Nat → List Addr} {a' : Addr} {d : List D} {lo hi : Option Int} {ds : List D} {Q : VK} (hK : P.K = X.K) (R : RelA P io Hi H σ ρ A) (hs : sAt σ i = some (.ref a')) (q : ρ.at i = .l ds) (h : slL (.lst ds) lo hi = some d)
    (k : FinG P io W Hi σ RL Q (some (.ok d ρ))) : rSlL X.K (.ref a') lo hi H Q := by
  obtain ⟨a2, vs1, t1, t2, t3, t4, _, _⟩ := R.own q
  rw [hs] at t2
  cases t2
  cases h
  refine ⟨a', vs1, rfl, hK ▸ .inl (.inl t3), fun t ht => ?_⟩
  obtain ⟨R3, r3⟩ := newL_rel R ht (t4.cut lo hi)
  exact k.ok R3 r3
theorem snd_slFl {i : Nat} {x : Str} {p2 p3 : Pos} (hi : X.N[i]? = some x) (hv : Vis X.env.scope x) (hd : (x == ("__debug__" : Str)) = false) (hcd : (x == ("__classdict__" : Str)) = false) (hb : PE X b (tE X cl io W Γ ib)) : PE X (.Subscript (.Name x p3) (.Slice (some b) none none p2) pos) (tL X cl io W Γ (.slFl i ib)) := by
  refine PE.imp (pe_slice sl_listT (pe_var hi hv hd hcd) (po_some hb) po_none) ?_
  rintro σ H Q ⟨B, Hi0, pin, Hi, ρ, A, R, h⟩
  unfold evL at h
  by_cases ho : isL (ρ.at i) = true
  · rw [if_pos ho] at h
    obtain ⟨ds, q⟩ := isL_ex ho
    obtain ⟨a', vs, h1, h2, h3, h4, h5, h6⟩ := R.own q
    refine ⟨.ref a', sAt_some h2, B, Hi0, pin, Hi, ρ, A, R, ?_⟩
    refine h.bnd fun v1 Hi1 H1 ρ1 A1 z e1 R1 r1 k1 => ?_
    obtain ⟨d, hd2, k2⟩ := ok1_some k1
    unfold slOwn at hd2
    cases q2 : ρ1.at i with
    | l ds1 =>
      rw [q2] at hd2
      cases r1 with
      | int k => exact ⟨k, rfl, slOwn_of (P := ⟨X.K, cl, B, Hi0, pin⟩) rfl R1 h2 q2 hd2 k2⟩
      | _ => cases hd2
    | _ => rw [q2] at hd2; cases hd2
  · rw [if_neg ho] at h
    exact h.elim
theorem snd_slTl {i : Nat} {x : Str} {p2 p3 : Pos} (hi : X.N[i]? = some x) (hv : Vis X.env.scope x) (hd : (x == ("__debug__" : Str)) = false) (hcd : (x == ("__classdict__" : Str)) = false) (hb : PE X b (tE X cl io W Γ ib)) : PE X (.Subscript (.Name x p3) (.Slice none (some b) none p2) pos) (tL X cl io W Γ (.slTl i ib)) := by
  refine PE.imp (pe_slice sl_listT (pe_var hi hv hd hcd) po_none (po_some hb)) ?_
  rintro σ H Q ⟨B, Hi0, pin, Hi, ρ, A, R, h⟩
  unfold evL at h
  by_cases ho : isL (ρ.at i) = true
  · rw [if_pos ho] at h
    obtain ⟨ds, q⟩ := isL_ex ho
    obtain ⟨a', vs, h1, h2, h3, h4, h5, h6⟩ := R.own q
    refine ⟨.ref a', sAt_some h2, B, Hi0, pin, Hi, ρ, A, R, ?_⟩
    refine h.bnd fun v1 Hi1 H1 ρ1 A1 z e1 R1 r1 k1 => ?_
    obtain ⟨d, hd2, k2⟩ := ok1_some k1
    unfold slOwn at hd2
    cases q2 : ρ1.at i with
    | l ds1 =>
      rw [q2] at hd2
      cases r1 with
      | int k => exact ⟨k, rfl, slOwn_of (P := ⟨X.K, cl, B, Hi0, pin⟩) rfl R1 h2 q2 hd2 k2⟩
      | _ => cases hd2
    | _ => rw [q2] at hd2; cases hd2
  · rw [if_neg ho] at h
    exact h.elim
theorem snd_slBl {i : Nat} {x : Str} {p2 p3 : Pos} (hi : X.N[i]? = some x) (hv : Vis X.env.scope x) (hd : (x == ("__debug__" : Str)) = false) (hcd : (x == ("__classdict__" : Str)) = false) (hb : PE X b (tE X cl io W Γ ib)) (hc : PE X c (tE X cl io W Γ ic)) : PE X (.Subscript (.Name x p3) (.Slice (some b) (some c) none p2) pos) (tL X cl io W Γ (.slBl i ib ic)) := by
  refine PE.imp (pe_slice sl_listT (pe_var hi hv hd hcd) (po_some hb) (po_some hc)) ?_
  rintro σ H Q ⟨B, Hi0, pin, Hi, ρ, A, R, h⟩
  unfold evL at h
  by_cases ho : isL (ρ.at i) = true
  · rw [if_pos ho] at h
    obtain ⟨ds, q⟩ := isL_ex ho
    obtain ⟨a', vs, h1, h2, h3, h4, h5, h6⟩ := R.own q
    refine ⟨.ref a', sAt_some h2, B, Hi0, pin, Hi, ρ, A, R, ?_⟩
    refine h.bnd fun v1 Hi1 H1 ρ1 A1 y e1 R1 r1 k1 => ?_
    have k1' : FinG ⟨X.K, cl, B, Hi0, pin⟩ io W Hi1 σ RL Q (if isIntD y = true then bnd (evE Γ ic ρ1) fun z ρ => ok1 (slOwn i (some y) (some z) ρ) ρ else none) := k1
    cases r1 with
    | int k =>
      rw [if_pos (show isIntD (D.int k) = true from rfl)] at k1'
      refine ⟨k, rfl, B, Hi0, pin, Hi1, ρ1, A1, R1, ?_⟩
      refine k1'.bnd fun v2 Hi2 H2 ρ2 A2 z e2 R2 r2 k3 => ?_
      obtain ⟨d, hd2, k2⟩ := ok1_some k3
      unfold slOwn at hd2
      cases q2 : ρ2.at i with
      | l ds1 =>
        rw [q2] at hd2
        cases r2 with
        | int k' => exact ⟨k', rfl, slOwn_of (P := ⟨X.K, cl, B, Hi0, pin⟩) rfl R2 h2 q2 hd2 k2⟩
        | _ => cases hd2
      | _ => rw [q2] at hd2; cases hd2
    | _ => exact (by rw [if_neg (fun w => nomatch w)] at k1'; exact k1'.elim)
  · rw [if_neg ho] at h
    exact h.elim
/-! f-texts -/
inductive FJ (X : Cx) (cl : Cl) (io : List Nat) (W : WX) (Γ : Gam) : A → List Expr → Prop
  | nil : FJ X cl io W Γ .nil []
  | txt {z : Str} {j : Nat} {p : Pos} {r : A} {es : List Expr} (t : FJ X cl io W Γ r es) : FJ X cl io W Γ (.cons (.cst (.str z)) r) (.Constant (.str z) j p :: es)
  | val {e : Expr} {ie : E} {p : Pos} {r : A} {es : List Expr} (h : PE X e (tE X cl io W Γ ie)) (t : FJ X cl io W Γ r es) : FJ X cl io W Γ (.cons ie r) (.FormattedValue e (-1) none p :: es)
def tsJ (X : Cx) (cl : Cl) (io : List Nat) (W : WX) (Γ : Gam) : A → List Expr → List TE
  | .cons _ r, .Constant (.str z) _ _ :: es => tC (.str z) :: tsJ X cl io W Γ r es
  | .cons ie r, _ :: es => tFmt (tE X cl io W Γ ie) :: tsJ X cl io W Γ r es
  | _, _ => []
theorem FJ.pj : ∀ {r : A} {es : List Expr}, FJ X cl io W Γ r es → PJ X es (tsJ X cl io W Γ r es)
  | _, _, .nil => .nil
  | _, _, .txt t => .cons pe_str t.pj
  | _, _, .val h t => .cons (pe_fmt h) t.pj
theorem tFmt_of {P : Par} {Hi : Hp} {σ : L2.St} {ie : E} {ρ : Env} {Q : VK} {Q1 : V → Hp → Prop} {f : Str → Env → Option (Out D)}
    (h : FinG P io W Hi σ RV Q (bnd (evE Γ ie ρ) fun d ρ => match fmtD d with | some y => f y ρ | none => none))
    (k : ∀ y Hi' H' ρ' A, Ex Hi Hi' → RelA P io Hi' H' σ ρ' A → FinG P io W Hi' σ RV Q (f y ρ') → Q1 (.str y) H') :
    FinG P io W Hi σ RV (fun x H1 => (∃ y : Str, x = .str y ∧ y.length ≤ sizeLine ∧ Q1 (.str y) H1) ∨ ∃ i : Int, x = .int i ∧ i.natAbs.log2 < 1920 ∧ Q1 (.str (toString i)) H1) (evE Γ ie ρ) := by
  refine h.bnd fun v1 Hi1 H1 ρ1 A1 d1 e1 R1 r1 h1 => ?_
  cases r1 with
  | str y =>
    by_cases hc : y.length ≤ sizeLine
    · have e : fmtD (.str y) = some y := if_pos hc
      rw [e] at h1
      exact .inl ⟨y, rfl, hc, k y Hi1 H1 ρ1 A1 e1 R1 h1⟩
    · have e : fmtD (.str y) = none := if_neg hc
      rw [e] at h1
      exact h1.elim
  | int i =>
    by_cases hc : i.natAbs.log2 < 1920
    · have e : fmtD (.int i) = some (toString i) := if_pos hc
      rw [e] at h1
      exact .inr ⟨i, rfl, hc, k _ Hi1 H1 ρ1 A1 e1 R1 h1⟩
    · have e : fmtD (.int i) = none := if_neg hc
      rw [e] at h1
      exact h1.elim
  | _ => exact h1.elim
theorem FJ.run : ∀ {r : A} {es : List Expr}, FJ X cl io W Γ r es → ∀ {acc : Str} {B Hi0 : Hp} {pin : List (Nat × Addr)} {Hi H : Hp} {σ : L2.St} {ρ : Env} {A : Nat → List Addr} {Q : VK}, RelA ⟨X.K, cl, B, Hi0, pin⟩ io Hi H σ ρ A →
    FinG ⟨X.K, cl, B, Hi0, pin⟩ io W Hi σ RV Q (evF Γ r acc ρ) → tJs (tsJ X cl io W Γ r es) acc σ H fun out H1 => Q (.str out) H1
  | _, _, .nil, acc, B, Hi0, pin, Hi, H, σ, ρ, A, Q, R, h => by
    rw [evF] at h
    exact h.ok R (.str _)
  | _, _, .txt (z := z) t, acc, B, Hi0, pin, Hi, H, σ, ρ, A, Q, R, h => by
    rw [evF, evE] at h
    have h' : FinG ⟨X.K, cl, B, Hi0, pin⟩ io W Hi σ RV Q (match fmtD (.str z) with | some y => if (acc ++ y).length ≤ sizeLine then evF Γ _ (acc ++ y) ρ else none | none => none) := h
    by_cases hz : z.length ≤ sizeLine
    · have e : fmtD (.str z) = some z := if_pos hz
      rw [e] at h'
      by_cases hc : (acc ++ z).length ≤ sizeLine
      · have h2 : FinG ⟨X.K, cl, B, Hi0, pin⟩ io W Hi σ RV Q (if (acc ++ z).length ≤ sizeLine then evF Γ _ (acc ++ z) ρ else none) := h'
        rw [if_pos hc] at h2
        exact ⟨z, rfl, hc, t.run R h2⟩
      · have h2 : FinG ⟨X.K, cl, B, Hi0, pin⟩ io W Hi σ RV Q (if (acc ++ z).length ≤ sizeLine then evF Γ _ (acc ++ z) ρ else none) := h'
        rw [if_neg hc] at h2
        exact h2.elim
    · have e : fmtD (.str z) = none := if_neg hz
      rw [e] at h'
      exact h'.elim
  | _, _, .val (ie := ie) (r := r) (es := es) hv t, acc, B, Hi0, pin, Hi, H, σ, ρ, A, Q, R, h => by
    rw [evF] at h
    refine ⟨B, Hi0, pin, Hi, ρ, A, R, ?_⟩
    refine tFmt_of (Q1 := fun x H1 => ∃ y : Str, x = .str y ∧ (acc ++ y).length ≤ sizeLine ∧ tJs (tsJ X cl io W Γ r es) (acc ++ y) σ H1 fun out H1 => Q (.str out) H1) (f := fun y ρ => if (acc ++ y).length ≤ sizeLine then evF Γ r (acc ++ y) ρ else none) h fun y Hi' H' ρ' A' e R' h' => ?_
    by_cases hc : (acc ++ y).length ≤ sizeLine
    · rw [if_pos hc] at h'
      exact ⟨y, rfl, hc, t.run R' h'⟩
    · rw [if_neg hc] at h'
      exact h'.elim
theorem snd_fst {e1 e2 : Expr} {es : List Expr} {r : A} (h : FJ X cl io W Γ r (e1 :: e2 :: es)) : PE X (.JoinedStr (e1 :: e2 :: es) pos) (tE X cl io W Γ (.fst r)) := by
  refine PE.imp (pe_joined h.pj) ?_
  rintro σ H Q ⟨B, Hi0, pin, Hi, ρ, A, R, h1⟩
  unfold evE at h1
  exact h.run R h1
theorem sndT_inn {ne : Bool} (hu : X.A.units + 65 < cLine) (ha : PE X a (tE X cl io W Γ ia)) (hb : PE X b (tE X cl io W Γ ib)) (hm : behindInMarks (if ne then .NotIn else .In) b = false) : PT X (.Compare a [if ne then .NotIn else .In] [b] pos) (tT X cl io W Γ (.inn ne ia ib)) := by
  have go : ∀ {r : R2}, (∀ (Hi H : Hp) (x y : V) (dx dy : D) (k : Bool) (Q : VK), Ex Hi H → Rep X.K cl Hi x dx → Rep X.K cl Hi y dy → innB dx dy = some k → Q (.bl (if ne then !k else k)) H → r x y H Q) →
      ∀ σ H Q, tT X cl io W Γ (.inn ne ia ib) σ H Q → tTest (tOp r (tE X cl io W Γ ia) (tE X cl io W Γ ib)) σ H Q := by
    rintro r hr σ H Q ⟨B, Hi0, pin, Hi, ρ, A, R, h⟩
    refine ⟨B, Hi0, pin, Hi, ρ, A, R, ?_⟩
    unfold evT evE at h
    refine FinG.bnd (R := RV) (R2 := RT) (Q := Q) (f := fun x ρ => bnd (bnd (evE Γ ib ρ) fun y ρ => ok1 (innD ne x y) ρ) fun x ρ => ok1 (truthy x) ρ) (by
      cases q : evE Γ ia ρ with
      | none => rw [q] at h; exact h
      | some o => rw [q] at h; cases o <;> exact h) fun v1 Hi1 H1 ρ1 A1 d1 e1 R1 r1 h1 => ?_
    refine ⟨B, Hi0, pin, Hi1, ρ1, A1, R1, ?_⟩
    refine FinG.bnd (R := RV) (R2 := RT) (Q := Q) (f := fun y ρ => bnd (ok1 (innD ne d1 y) ρ) fun x ρ => ok1 (truthy x) ρ) (by
      cases q : evE Γ ib ρ1 with
      | none => rw [q] at h1; exact h1
      | some o => rw [q] at h1; cases o <;> exact h1) fun v2 Hi2 H2 ρ2 A2 d2 e2 R2 r2 h2 => ?_
    cases q1 : innB d1 d2 with
    | none => unfold innD at h2; rw [q1] at h2; exact h2.elim
    | some k =>
      unfold innD at h2
      rw [q1] at h2
      exact hr Hi2 H2 v1 v2 d1 d2 k _ R2.i (Rep.mono e2 _ _ r1) r2 q1 ⟨_, rfl, FinG.ok h2 R2 rfl⟩
  cases ne with
  | false =>
    refine PT.imp (pt_cmpR (op_in_str.or ((op_inD hu).or op_in_seq)) ha hb hm) (go fun Hi H x y dx dy k Q e rx ry qk q => ?_)
    rcases innB_some qk with ⟨i, j, rfl, rfl, rfl⟩ | ⟨ds, pp, qs, rfl, h1, h2, h3, h4, rfl⟩ | ⟨ds, rfl, h1, h2, rfl⟩
    · cases rx; cases ry
      exact .inl ⟨_, _, rfl, rfl, q⟩
    · exact .inr (.inl ⟨pp, qs, rep_dp _ _ _ (Rep.mono e _ _ rx) h1, rep_dps (Rep.mono e _ _ ry) h2, h3, h4, q⟩)
    · cases ry with
      | tup g1 g2 =>
        obtain ⟨g3, g4⟩ := inScal_rep rx h1 g2 h2
        refine .inr (.inr ⟨_, _, rfl, .inr (ex_t e g1), scal_rep rx h1, g4, ?_⟩)
        rw [g3]
        exact q
  | true =>
    refine PT.imp (pt_cmpR (op_notin_str.or ((op_notInD hu).or op_notIn_seq)) ha hb hm) (go fun Hi H x y dx dy k Q e rx ry qk q => ?_)
    rcases innB_some qk with ⟨i, j, rfl, rfl, rfl⟩ | ⟨ds, pp, qs, rfl, h1, h2, h3, h4, rfl⟩ | ⟨ds, rfl, h1, h2, rfl⟩
    · cases rx; cases ry
      exact .inl ⟨_, _, rfl, rfl, q⟩
    · exact .inr (.inl ⟨pp, qs, rep_dp _ _ _ (Rep.mono e _ _ rx) h1, rep_dps (Rep.mono e _ _ ry) h2, h3, h4, q⟩)
    · cases ry with
      | tup g1 g2 =>
        obtain ⟨g3, g4⟩ := inScal_rep rx h1 g2 h2
        refine .inr (.inr ⟨_, _, rfl, .inr (ex_t e g1), scal_rep rx h1, g4, ?_⟩)
        rw [g3]
        exact q
end
end VI
set_option maxHeartbeats 2000000
/-! Soundness, third part: calls of defs. -/
namespace VI
open PySem L2 Evl
/-! ### the arguments' places -/
def posIo : List AV → Nat → Option Nat
  | [], _ => none
  | .v _ :: r, j => (posIo r j).map (· + 1)
  | .io i :: r, j => if i = j then some 0 else (posIo r j).map (· + 1)
theorem posIo_some : ∀ {avs : List AV} {j k : Nat}, posIo avs j = some k → avs[k]? = some (.io j)
  | [], _, _, h => by cases h
  | .v _ :: r, j, k, h => by
    unfold posIo at h
    cases q : posIo r j with
    | none => rw [q] at h; cases h
    | some m => rw [q] at h; cases h; simpa using posIo_some q
  | .io i :: r, j, k, h => by
    unfold posIo at h
    by_cases e : i = j
    · rw [if_pos e] at h; cases h; rw [e]; rfl
    · rw [if_neg e] at h
      cases q : posIo r j with
      | none => rw [q] at h; cases h
      | some m => rw [q] at h; cases h; simpa using posIo_some q
theorem posIo_mem : ∀ {avs : List AV} {j : Nat}, j ∈ iosOf avs → ∃ k, posIo avs j = some k
  | [], _, h => by cases h
  | .v _ :: r, j, h => by
    obtain ⟨k, e⟩ := posIo_mem (avs := r) (show j ∈ iosOf r from h)
    exact ⟨k + 1, by unfold posIo; rw [e]; rfl⟩
  | .io i :: r, j, h => by
    unfold posIo
    by_cases e : i = j
    · exact ⟨0, if_pos e⟩
    · rw [if_neg e]
      have h' : j ∈ i :: iosOf r := h
      rcases List.mem_cons.mp h' with q | q
      · exact absurd q.symm e
      · obtain ⟨k, e2⟩ := posIo_mem q
        exact ⟨k + 1, by rw [e2]; rfl⟩
theorem mem_ios : ∀ {avs : List AV} {j k : Nat}, avs[k]? = some (.io j) → j ∈ iosOf avs
  | [], _, _, h => by simp at h
  | .v _ :: r, j, 0, h => by simp at h
  | .v _ :: r, j, k + 1, h => mem_ios (avs := r) (k := k) (by simpa using h)
  | .io i :: r, j, 0, h => by
    simp at h
    subst h
    exact List.mem_cons_self
  | .io i :: r, j, k + 1, h => List.mem_cons_of_mem _ (mem_ios (avs := r) (k := k) (by simpa using h))
theorem ios_inj : ∀ {avs : List AV} {j k m : Nat}, (iosOf avs).Nodup → avs[k]? = some (.io j) → avs[m]? = some (.io j) → k = m
  | [], _, _, _, _, h, _ => by simp at h
  | .v _ :: r, j, 0, _, _, h, _ => by simp at h
  | .v _ :: r, j, _ + 1, 0, _, _, h => by simp at h
  | .v _ :: r, j, k + 1, m + 1, n, h1, h2 => congrArg (· + 1) (ios_inj (avs := r) n (by simpa using h1) (by simpa using h2))
  | .io i :: r, j, 0, 0, _, _, _ => rfl
  | .io i :: r, j, 0, m + 1, n, h1, h2 => by
    simp at h1
    subst h1
    exact absurd (mem_ios (avs := r) (k := m) (by simpa using h2)) (List.nodup_cons.mp n).1
  | .io i :: r, j, k + 1, 0, n, h1, h2 => by
    simp at h2
    subst h2
    exact absurd (mem_ios (avs := r) (k := k) (by simpa using h1)) (List.nodup_cons.mp n).1
  | .io i :: r, j, k + 1, m + 1, n, h1, h2 => congrArg (· + 1) (ios_inj (avs := r) (List.nodup_cons.mp n).2 (by simpa using h1) (by simpa using h2))
theorem slotsOf_len {ρ : Env} : ∀ avs : List AV, (slotsOf ρ avs).length = avs.length
  | [] => rfl
  | .v _ :: r => congrArg (· + 1) (slotsOf_len r)
  | .io _ :: r => congrArg (· + 1) (slotsOf_len r)
theorem at_nil (k : Nat) : Env.at [] k = .no := by unfold Env.at; rw [List.getD_eq_getElem?_getD]; rfl
theorem at_zero (s : Slot) (r : Env) : Env.at (s :: r) 0 = s := rfl
theorem at_succ (s : Slot) (r : Env) (k : Nat) : Env.at (s :: r) (k + 1) = Env.at r k := by unfold Env.at; rw [List.getD_cons_succ]
theorem slotsOf_at {ρ : Env} : ∀ (avs : List AV) (k : Nat), Env.at (slotsOf ρ avs) k = match avs[k]? with | some (.v d) => .v d | some (.io i) => ρ.at i | none => .no
  | [], k => at_nil k
  | .v _ :: r, 0 => rfl
  | .io _ :: r, 0 => rfl
  | .v _ :: r, k + 1 => by
    show Env.at (_ :: slotsOf ρ r) (k + 1) = _
    rw [at_succ, slotsOf_at r k, List.getElem?_cons_succ]
  | .io _ :: r, k + 1 => by
    show Env.at (_ :: slotsOf ρ r) (k + 1) = _
    rw [at_succ, slotsOf_at r k, List.getElem?_cons_succ]
theorem putBack_len : ∀ (avs : List AV) (outs : List Slot) (ρ : Env), (putBack ρ avs outs).length = ρ.length
  | [], _, _ => by unfold putBack; rfl
  | .v _ :: r, [], _ => by unfold putBack; rfl
  | .io _ :: r, [], _ => by unfold putBack; rfl
  | .v _ :: r, s :: o, ρ => by unfold putBack; exact putBack_len r o ρ
  | .io i :: r, s :: o, ρ => by unfold putBack; rw [putBack_len r o, List.length_set]
theorem putBack_at : ∀ (avs : List AV) (outs : List Slot) (ρ : Env) (j : Nat), avs.length = outs.length → (iosOf avs).Nodup → (∀ i ∈ iosOf avs, i < ρ.length) →
    (putBack ρ avs outs).at j = match posIo avs j with | some k => Env.at outs k | none => ρ.at j
  | [], [], ρ, j, _, _, _ => by unfold putBack; rfl
  | [], _ :: _, _, _, h, _, _ => by cases h
  | _ :: _, [], _, _, h, _, _ => by cases h
  | .v _ :: r, s :: o, ρ, j, hl, hn, hb => by
    have hl' : r.length = o.length := by simpa using hl
    unfold putBack posIo
    rw [putBack_at r o ρ j hl' hn hb]
    cases posIo r j with
    | none => rfl
    | some k => show _ = Env.at (s :: o) (k + 1); rw [at_succ]
  | .io i :: r, s :: o, ρ, j, hl, hn, hb => by
    have hl' : r.length = o.length := by simpa using hl
    have hn' := List.nodup_cons.mp (show (i :: iosOf r).Nodup from hn)
    unfold putBack posIo
    rw [putBack_at r o _ j hl' hn'.2 fun k hk => by rw [List.length_set]; exact hb k (List.mem_cons_of_mem _ hk)]
    have hi : i < ρ.length := hb i List.mem_cons_self
    by_cases e : i = j
    · rw [if_pos e]
      cases q : posIo r j with
      | none => show Env.at (ρ.set i s) j = s; rw [at_set hi, if_pos e.symm]
      | some k => exact absurd (mem_ios (posIo_some q)) (by rw [← e]; exact hn'.1)
    · rw [if_neg e]
      cases q : posIo r j with
      | none => show Env.at (ρ.set i s) j = ρ.at j; rw [at_set hi, if_neg (Ne.symm e)]
      | some k => show _ = Env.at (s :: o) (k + 1); rw [at_succ]
theorem RepA.at {P : Par} {Hi : Hp} {σ : L2.St} : ∀ {vs : List V} {avs : List AV}, RepA P Hi σ vs avs → ∀ (k : Nat), match avs[k]? with
    | some (.v d) => ∃ v, vs[k]? = some v ∧ Rep P.K P.cl Hi v d
    | some (.io i) => ∃ v, vs[k]? = some v ∧ sAt σ i = some v
    | none => vs[k]? = none
  | _, _, .nil, k => by simp
  | _, _, .v r t, 0 => ⟨_, rfl, r⟩
  | _, _, .io r t, 0 => ⟨_, rfl, r⟩
  | _, _, .v r t, k + 1 => by
    have := t.at k
    rw [List.getElem?_cons_succ, List.getElem?_cons_succ]
    exact this
  | _, _, .io r t, k + 1 => by
    have := t.at k
    rw [List.getElem?_cons_succ, List.getElem?_cons_succ]
    exact this
/-! ### into the call -/
def cellsOf (A : Nat → List Addr) (avs : List AV) : List Addr := (iosOf avs).flatMap A
def Bc (H : Hp) (A : Nat → List Addr) (avs : List AV) : Hp := fun p => if p ∈ cellsOf A avs then none else H p
def Ac (A : Nat → List Addr) (avs : List AV) : Nat → List Addr := fun k => match avs[k]? with
  | some (.io i) => A i
  | _ => []
def pinc (A : Nat → List Addr) (avs : List AV) : List (Nat × Addr) := (List.range avs.length).flatMap fun k => ((Ac A avs k).head?.toList).map fun a => (k, a)
theorem mem_cells {A : Nat → List Addr} {avs : List AV} {a : Addr} : a ∈ cellsOf A avs ↔ ∃ i, i ∈ iosOf avs ∧ a ∈ A i := by
  unfold cellsOf
  rw [List.mem_flatMap]
theorem sAt_map (vs : List V) (k : Nat) : sAt (vs.map some) k = vs[k]? := by
  unfold sAt
  rw [List.getElem?_map]
  cases vs[k]? <;> rfl
section
variable {P : Par} {io io' : List Nat} {Hi Hi' H H' : Hp} {σ : L2.St} {ρ : Env} {A : Nat → List Addr} {vs : List V} {avs : List AV}
theorem call_in (R : RelA P io Hi H σ ρ A) (r : RepA P Hi σ vs avs) (nd : (iosOf avs).Nodup) (hio : ∀ k, isOwn (Env.at (slotsOf ρ avs) k) = true → k ∈ io') :
    RelA ⟨P.K, ⟨P.cl.fn, P.cl.sp, none⟩, Bc H A avs, Hi, pinc A avs⟩ io' Hi H (vs.map some) (slotsOf ρ avs) (Ac A avs) where
  b := fun p o e => by
    unfold Bc at e
    by_cases q : p ∈ cellsOf A avs
    · simp only [q, if_true] at e; cases e
    · simp only [q, if_false] at e; exact e
  i := R.i
  i0 := Ex.refl _
  fr := fun _ _ h => h
  len := by rw [List.length_map, slotsOf_len, r.len]
  sl := fun k => by
    have h := r.at k
    rw [sAt_map, slotsOf_at]
    unfold Ac
    cases q : avs[k]? with
    | none => rfl
    | some av =>
      rw [q] at h
      cases av with
      | v d =>
        obtain ⟨v, h1, h2⟩ := h
        exact ⟨rfl, v, h1, h2⟩
      | io i =>
        obtain ⟨v, h1, h2⟩ := h
        rw [h1, ← h2]
        have h3 := R.sl i
        show SlotOk _ Hi H (sAt σ i) (ρ.at i) (A i)
        exact h3.par rfl rfl
  ow := fun k a ha => by
    unfold Ac at ha
    cases q : avs[k]? with
    | none => rw [q] at ha; cases ha
    | some av =>
      rw [q] at ha
      cases av with
      | v d => cases ha
      | io i =>
        refine ⟨(R.ow i a ha).1, ?_⟩
        show Bc H A avs a = none
        unfold Bc
        rw [if_pos (mem_cells.mpr ⟨i, mem_ios q, ha⟩)]
  nd := fun k => by
    unfold Ac
    cases q : avs[k]? with
    | none => exact List.nodup_nil
    | some av =>
      cases av with
      | v d => exact List.nodup_nil
      | io i => exact R.nd i
  dj := fun k m hkm a ha => by
    unfold Ac at ha ⊢
    cases q : avs[k]? with
    | none => rw [q] at ha; cases ha
    | some av =>
      rw [q] at ha
      cases av with
      | v d => cases ha
      | io i =>
        cases q2 : avs[m]? with
        | none => exact List.not_mem_nil
        | some av2 =>
          cases av2 with
          | v d => exact List.not_mem_nil
          | io j =>
            refine R.dj i j (fun e => hkm ?_) a ha
            rw [← e] at q2
            exact ios_inj nd q q2
  xo := fun _ h => nomatch h
  pn := fun p hp => by
    obtain ⟨k, hk, h1⟩ := List.mem_flatMap.mp (show p ∈ pinc A avs from hp)
    obtain ⟨a, ha, rfl⟩ := List.mem_map.mp h1
    unfold Ac at ha
    cases q : avs[k]? with
    | none => rw [q] at ha; cases ha
    | some av =>
      rw [q] at ha
      cases av with
      | v d => cases ha
      | io i =>
        replace ha : a ∈ (A i).head?.toList := ha
        have h := r.at k
        rw [q] at h
        obtain ⟨v, h2, h3⟩ := h
        have h4 := R.sl i
        have own : isOwn (ρ.at i) = true := by
          cases q2 : isOwn (ρ.at i) with
          | true => rfl
          | false => rw [h4.nown q2] at ha; cases ha
        obtain ⟨a', as, t1, t2⟩ := h4.root own
        rw [t1] at ha
        have ea : a = a' := List.mem_singleton.mp ha
        subst ea
        refine ⟨?_, hio k ?_⟩
        · show sAt (vs.map some) k = _
          rw [sAt_map, h2, ← h3, t2]
        · rw [slotsOf_at, q]
          exact own
/-- what holds of it: every list of our own is pinned -/
theorem pin_all {k : Nat} {a : Addr} {as : List Addr} (h : Ac A avs k = a :: as) : (k, a) ∈ pinc A avs := by
  unfold pinc
  have hk : k < avs.length := by
    unfold Ac at h
    cases q : avs[k]? with
    | none => rw [q] at h; cases h
    | some av => exact (List.getElem?_eq_some_iff.mp q).1
  refine List.mem_flatMap.mpr ⟨k, List.mem_range.mpr hk, List.mem_map.mpr ⟨a, ?_, rfl⟩⟩
  rw [h]
  exact List.mem_singleton.mpr rfl
/-! ### and back -/
def A2 (A Ak : Nat → List Addr) (avs : List AV) : Nat → List Addr := fun j => match posIo avs j with
  | some k => Ak k
  | none => A j
theorem call_out {outs : List Slot} {τ : L2.St} {θ : Env} {Ak : Nat → List Addr} (R : RelA P io Hi H σ ρ A) (r : RepA P Hi σ vs avs) (nd : (iosOf avs).Nodup) (own : ∀ i ∈ iosOf avs, isOwn (ρ.at i) = true) (e : Ex Hi Hi')
    (Rc : RelA ⟨P.K, ⟨P.cl.fn, P.cl.sp, none⟩, Bc H A avs, Hi, pinc A avs⟩ io' Hi' H' τ θ Ak) (hl : outs.length = avs.length) (hτ : ∀ k, k < avs.length → sAt τ k = vs[k]?) (hθ : ∀ k, k < avs.length → θ.at k = Env.at outs k) :
    RelA P io Hi' H' σ (putBack ρ avs outs) (A2 A Ak avs) ∧ (∀ a, Bc H A avs a = none → P.B a = none) ∧ ∀ n a, (∀ k, k < avs.length → a ∉ Ak k) → a ∈ Ak n → ∀ j, a ∉ A2 A Ak avs j := by
  have notCell : ∀ p, P.B p ≠ none → p ∉ cellsOf A avs := fun p h hm => by
    obtain ⟨i, h1, h2⟩ := mem_cells.mp hm
    exact h (R.ow i p h2).2
  have bB : ∀ p o, P.B p = some o → Bc H A avs p = some o := fun p o h => by
    unfold Bc
    rw [if_neg (notCell p (by rw [h]; exact fun z => nomatch z))]
    exact R.b p o h
  have bnd : ∀ i ∈ iosOf avs, i < ρ.length := fun i hi => at_lt fun z => by
    have h := own i hi
    rw [z] at h
    cases h
  have pAt : ∀ j, (putBack ρ avs outs).at j = match posIo avs j with | some k => Env.at outs k | none => ρ.at j := fun j => putBack_at avs outs ρ j hl.symm nd bnd
  -- the part of a place that came back
  have back : ∀ {j k : Nat}, posIo avs j = some k → SlotOk P Hi' H' (sAt σ j) (Env.at outs k) (Ak k) ∧ k < avs.length := fun {j k} q => by
    have h1 := posIo_some q
    have hk : k < avs.length := (List.getElem?_eq_some_iff.mp h1).1
    have h2 := r.at k
    rw [h1] at h2
    obtain ⟨v, h3, h4⟩ := h2
    have h5 := Rc.sl k
    rw [hτ k hk, hθ k hk, h3, ← h4] at h5
    exact ⟨h5.par rfl rfl, hk⟩
  have others : ∀ {j : Nat} {a : Addr} {o : HO}, posIo avs j = none → a ∈ A j → H a = some o → Bc H A avs a = some o := fun {j a o} q ha ho => by
    unfold Bc
    rw [if_neg]
    · exact ho
    · intro hm
      obtain ⟨i, h1, h2⟩ := mem_cells.mp hm
      by_cases eij : i = j
      · subst eij
        obtain ⟨k, hk⟩ := posIo_mem h1
        rw [q] at hk
        cases hk
      · exact R.dj i j eij a h2 ha
  have bNone : ∀ a, Bc H A avs a = none → P.B a = none := fun a h => by
    cases q : P.B a with
    | none => rfl
    | some o => rw [bB a o q] at h; cases h
  -- what is not handed over stays apart
  have apart : ∀ {j k : Nat} {a : Addr}, posIo avs j = none → a ∈ A j → a ∈ Ak k → False := fun {j k a} q ha hk => by
    obtain ⟨o, ho⟩ := (R.sl j).isThere ha
    have h1 := others q ha ho
    have h2 : Bc H A avs a = none := (Rc.ow k a hk).2
    rw [h1] at h2
    cases h2
  have pinj : ∀ {i j k : Nat}, posIo avs i = some k → posIo avs j = some k → i = j := fun {i j k} h1 h2 => by
    have e1 := posIo_some h1
    have e2 := posIo_some h2
    rw [e1] at e2
    injection e2 with e2; injection e2
  refine ⟨⟨fun p o h => Rc.b p o (bB p o h), Rc.i, fun p o h => e p o (R.i0 p o h), fun p h1 h2 => ?_, by rw [putBack_len]; exact R.len, fun j => ?_, fun j a ha => ?_, fun j => ?_, fun i j hij a ha hb => ?_, R.pn, R.xo⟩, bNone, fun n a hk hn j hj => ?_⟩
  · cases q : P.B p with
    | none => exact absurd q h1
    | some o => exact R.fr p h1 (Rc.fr p (by show Bc H A avs p ≠ none; rw [bB p o q]; exact fun z => nomatch z) h2)
  · rw [pAt]
    unfold A2
    cases q : posIo avs j with
    | some k => exact (back q).1
    | none => exact (R.sl j).mono e fun a ha o ho => Rc.b a o (others q ha ho)
  · unfold A2 at ha
    cases q : posIo avs j with
    | some k =>
      rw [q] at ha
      exact ⟨(Rc.ow k a ha).1, bNone a (Rc.ow k a ha).2⟩
    | none =>
      rw [q] at ha
      obtain ⟨o, ho⟩ := (R.sl j).isThere ha
      have h1 := others q ha ho
      refine ⟨?_, (R.ow j a ha).2⟩
      cases q2 : Hi' a with
      | none => rfl
      | some u => exact absurd (R.ow j a ha).1 (Rc.fr a (by show Bc H A avs a ≠ none; rw [h1]; exact fun z => nomatch z) (by rw [q2]; exact fun z => nomatch z))
  · unfold A2
    cases q : posIo avs j with
    | some k => exact Rc.nd k
    | none => exact R.nd j
  · unfold A2 at ha hb
    cases q1 : posIo avs i with
    | some k =>
      rw [q1] at ha
      cases q2 : posIo avs j with
      | some m =>
        rw [q2] at hb
        exact Rc.dj k m (fun z => hij (pinj q1 (by rw [z]; exact q2))) a ha hb
      | none => rw [q2] at hb; exact apart q2 hb ha
    | none =>
      rw [q1] at ha
      cases q2 : posIo avs j with
      | some m => rw [q2] at hb; exact apart q1 ha hb
      | none => rw [q2] at hb; exact R.dj i j hij a ha hb
  · unfold A2 at hj
    cases q : posIo avs j with
    | some k =>
      rw [q] at hj
      exact hk k (back q).2 hj
    | none =>
      rw [q] at hj
      exact apart q hj hn
end
/-! ### the promise of a def -/
def FinF (P : Par) (io : List Nat) (Hi : Hp) (vs : List V) (Q : VK) (E : XK) : Option FOut → Prop
  | none => False
  | some (.ret r outs) => ∀ v Hi' H' A, Ex Hi Hi' → RelA P io Hi' H' (vs.map some ++ [some v]) (outs ++ [r]) A → Q v H'
  | some (.ex c w outs) => ∀ dx fs Hi' H' A, Ex Hi Hi' → RelA P io Hi' H' (vs.map some) outs A → Hi' dx = some (.xd fs) → RepF P.K P.cl Hi' fs w → E (.ref (P.cl.fn c)) (some dx) H'
def spF (K : PySem.W.Frag) (cl : Nat → Addr) (sp : Str → Value) (io : List Nat) (np : Nat) (g : List Slot → Option FOut) : Sp := fun vs H Q E =>
  ∃ B Hi pin avs A, RelA ⟨K, ⟨cl, sp, none⟩, B, Hi, pin⟩ io Hi H (vs.map some) avs A ∧ vs.length = np ∧ (∀ k a as, A k = a :: as → (k, a) ∈ pin) ∧ FinF ⟨K, ⟨cl, sp, none⟩, B, Hi, pin⟩ io Hi vs Q E (g avs)
/-- what a def's meaning g bears -/
structure GamOk (io : List Nat) (np : Nat) (g : List Slot → Option FOut) : Prop where
  len : ∀ avs, g avs ≠ none → avs.length = np
  own : ∀ avs, g avs ≠ none → ∀ k, isOwn (Env.at avs k) = true → k ∈ io
  outs : ∀ avs r outs, g avs = some (.ret r outs) → outs.length = np
  outsX : ∀ avs c w outs, g avs = some (.ex c w outs) → outs.length = np
theorem at_app_lt {xs ys : List Slot} {k : Nat} (h : k < xs.length) : Env.at (xs ++ ys) k = Env.at xs k := by
  unfold Env.at
  rw [List.getD_eq_getElem?_getD, List.getD_eq_getElem?_getD, List.getElem?_append_left h]
theorem at_app_last {xs : List Slot} {s : Slot} : Env.at (xs ++ [s]) xs.length = s := by
  unfold Env.at
  rw [List.getD_eq_getElem?_getD, List.getElem?_append_right (Nat.le_refl _), Nat.sub_self]
  rfl
theorem sAt_app_lt {xs : List V} {o : Option V} {k : Nat} (h : k < xs.length) : sAt (xs.map some ++ [o]) k = xs[k]? := by
  unfold sAt
  rw [List.getElem?_append_left (by rw [List.length_map]; exact h), List.getElem?_map]
  cases xs[k]? <;> rfl
theorem sAt_app_last {xs : List V} {o : Option V} : sAt (xs.map some ++ [o]) xs.length = o := by
  unfold sAt
  rw [List.getElem?_append_right (by rw [List.length_map]; exact Nat.le_refl _), List.length_map, Nat.sub_self]
  cases o <;> rfl
section
variable {K : PySem.W.Frag} {cl : Cl} {B Hi0 : Hp} {pin : List (Nat × Addr)} {io io' : List Nat} {np : Nat} {g : List Slot → Option FOut} {W : WX} {Hi H : Hp} {σ : L2.St} {ρ : Env} {A : Nat → List Addr} {vs : List V} {avs : List AV}
theorem iosOk_of (h : iosOk ρ avs = true) : (iosOf avs).Nodup ∧ ∀ i ∈ iosOf avs, isOwn (ρ.at i) = true := by
  unfold iosOk at h
  rw [Bool.and_eq_true] at h
  exact ⟨of_decide_eq_true h.1, fun i hi => List.all_eq_true.mp h.2 i hi⟩
theorem call_sp (G : GamOk io' np g) (R : RelA ⟨K, cl, B, Hi0, pin⟩ io Hi H σ ρ A) (r : RepA ⟨K, cl, B, Hi0, pin⟩ Hi σ vs avs) {Q : VK} (h : FinG ⟨K, cl, B, Hi0, pin⟩ io W Hi σ RV Q (callE g avs ρ)) :
    spF K cl.fn cl.sp io' np g vs H Q (WE W σ) := by
  unfold callE at h
  by_cases hc : iosOk ρ avs = true
  · rw [if_pos hc] at h
    obtain ⟨nd, own⟩ := iosOk_of hc
    cases q : g (slotsOf ρ avs) with
    | none => rw [q] at h; exact h.elim
    | some o =>
      have hne : g (slotsOf ρ avs) ≠ none := by rw [q]; exact fun z => nomatch z
      have hlen : vs.length = np := by rw [r.len, ← slotsOf_len (ρ := ρ), G.len _ hne]
      have hal : avs.length = np := by rw [← r.len, hlen]
      have Ri := call_in (io' := io') R r nd (G.own _ hne)
      refine ⟨_, _, _, _, _, Ri, hlen, fun k a as ha => pin_all ha, ?_⟩
      rw [q] at h ⊢
      cases o with
      | ret s outs =>
        have ho := G.outs _ _ _ q
        intro v Hi' H' Ak e Rc
        have hlast := Rc.sl outs.length
        rw [at_app_last] at hlast
        by_cases ho2 : isOwn s = true
        · have h0 : FinG ⟨K, cl, B, Hi0, pin⟩ io W Hi σ RV Q (some (.ok (frzS s) (putBack ρ avs outs))) := by cases s <;> first | exact h | (cases ho2; done)
          obtain ⟨v', hv', e', Rc', rep⟩ := Rc.frzG (i := outs.length) (by rw [at_app_last]; exact ho2)
          rw [ho, ← hlen, sAt_app_last] at hv'
          cases hv'
          obtain ⟨R2, _, _⟩ := call_out R r nd own (e.trans e') Rc' (ho.trans hal.symm) (fun k hk => sAt_app_lt (by rw [r.len]; exact hk)) (fun k hk => by
            rw [at_set (by rw [List.length_append]; show outs.length < outs.length + 1; omega), if_neg (by omega), at_app_lt (by rw [ho, ← hal]; exact hk)])
          rw [at_app_last] at rep
          exact h0 v _ H' _ (e.trans e') R2 rep
        · cases s with
          | no => exact h.elim
          | v d =>
            obtain ⟨R2, _, _⟩ := call_out R r nd own e Rc (ho.trans hal.symm) (fun k hk => sAt_app_lt (by rw [r.len]; exact hk)) (fun k hk => at_app_lt (by rw [ho, ← hal]; exact hk))
            refine h v Hi' H' _ e R2 ?_
            rw [ho, ← hlen, sAt_app_last] at hlast
            obtain ⟨_, v', h2, h3⟩ := hlast
            cases h2
            exact h3
          | _ => exact absurd rfl ho2
      | ex c w outs =>
        have ho := G.outsX _ _ _ _ q
        intro dx fs Hi' H' Ak e Rc hdx hfs
        obtain ⟨R2, _, _⟩ := call_out R r nd own e Rc (ho.trans hal.symm) (fun k hk => sAt_map vs k) (fun k hk => rfl)
        exact h dx fs Hi' H' _ e R2 hdx hfs
  · rw [if_neg hc] at h
    exact h.elim
theorem callL_sp (G : GamOk io' np g) (R : RelA ⟨K, cl, B, Hi0, pin⟩ io Hi H σ ρ A) (r : RepA ⟨K, cl, B, Hi0, pin⟩ Hi σ vs avs) {Q : VK} (h : FinG ⟨K, cl, B, Hi0, pin⟩ io W Hi σ RL Q (callLE g avs ρ)) :
    spF K cl.fn cl.sp io' np g vs H Q (WE W σ) := by
  unfold callLE at h
  by_cases hc : iosOk ρ avs = true
  · rw [if_pos hc] at h
    obtain ⟨nd, own⟩ := iosOk_of hc
    cases q : g (slotsOf ρ avs) with
    | none => rw [q] at h; exact h.elim
    | some o =>
      have hne : g (slotsOf ρ avs) ≠ none := by rw [q]; exact fun z => nomatch z
      have hlen : vs.length = np := by rw [r.len, ← slotsOf_len (ρ := ρ), G.len _ hne]
      have hal : avs.length = np := by rw [← r.len, hlen]
      have Ri := call_in (io' := io') R r nd (G.own _ hne)
      refine ⟨_, _, _, _, _, Ri, hlen, fun k a as ha => pin_all ha, ?_⟩
      rw [q] at h ⊢
      cases o with
      | ret s outs =>
        have ho := G.outs _ _ _ q
        cases s with
        | no => exact h.elim
        | v d => exact h.elim
        | t d => exact h.elim
        | o c d => exact h.elim
        | l ds =>
          intro v Hi' H' Ak e Rc
          obtain ⟨R2, bN, fr⟩ := call_out R r nd own e Rc (ho.trans hal.symm) (fun k hk => sAt_app_lt (by rw [r.len]; exact hk)) (fun k hk => at_app_lt (by rw [ho, ← hal]; exact hk))
          refine h v Hi' H' _ e R2 ?_
          have h1 := Rc.sl outs.length
          rw [at_app_last, ho, ← hlen, sAt_app_last] at h1
          obtain ⟨a, vs', h2, h3, h4, h5⟩ := h1
          cases h3
          have hm : a ∈ Ak vs.length := by rw [h2]; exact List.mem_singleton.mpr rfl
          have hw := Rc.ow vs.length a hm
          exact ⟨a, vs', rfl, h4, h5, hw.1, bN a hw.2, fr vs.length a (fun k hk => Rc.dj vs.length k (by rw [r.len]; omega) a hm) hm⟩
      | ex c w outs =>
        have ho := G.outsX _ _ _ _ q
        intro dx fs Hi' H' Ak e Rc hdx hfs
        obtain ⟨R2, _, _⟩ := call_out R r nd own e Rc (ho.trans hal.symm) (fun k hk => sAt_map vs k) (fun k hk => rfl)
        exact h dx fs Hi' H' _ e R2 hdx hfs
  · rw [if_neg hc] at h
    exact h.elim
end
/-! ### the rules -/
section
variable {X : Cx} {cl : Cl} {io io' : List Nat} {np k f : Nat} {W : WX} {Γ : Gam} {a : Expr} {es : List Expr} {ia : A} {pos p : Pos} {x : Str} {fa : Addr} {fd : FuncData} {ps : List Str}
structure FnHas (X : Cx) (cl : Cl) (x : Str) (io' : List Nat) (np : Nat) (g : List Slot → Option FOut) : Prop where
  has : ∃ (k : Nat) (fa : Addr) (fd : FuncData) (ps : List Str), FnOk X.prog X.w X.K X.mg X.base (L2.CX X.prog X.w) k fa fd ps (spF X.K cl.fn cl.sp io' np g) ∧ Room k X.A ∧ X.mg x = some (.ref fa) ∧ PySem.W.keepIn X.K (.ref fa) = true ∧ Binds X.K fd ps []
  g : GamOk io' np g
theorem snd_call (F : FnHas X cl x io' np (Γ f)) (tk : Takes X W) (hg : Gl X x) (hd : (x == ("__debug__" : Str)) = false) (hp : (a :: es).all plainX = true) (ha : PA X (a :: es) (tA X cl io W Γ ia)) :
    PE X (.Call (.Name x p) (a :: es) [] pos) (tE X cl io W Γ (.call f ia)) := by
  obtain ⟨⟨k, fa, fd, ps, F1, hr, hm, hk, hb⟩, G⟩ := F
  rw [List.all_cons, Bool.and_eq_true] at hp
  refine PE.imp (pe_callS F1 hr hg hm hk hb (fun σ => passAt tk σ) ha hd (star_cons hp.1) (star_any hp.2)) ?_
  rintro σ H Q ⟨B, Hi0, pin, Hi, ρ, A, R, h⟩
  refine ⟨B, Hi0, pin, Hi, ρ, A, R, ?_⟩
  rw [show evE Γ (.call f ia) ρ = bnd (evA Γ ia ρ) fun avs ρ => callE (Γ f) avs ρ by rw [evE]] at h
  exact h.bnd fun vs Hi1 H1 ρ1 A1 avs e1 R1 r1 h1 => call_sp G R1 r1 h1
theorem snd_callL (F : FnHas X cl x io' np (Γ f)) (tk : Takes X W) (hg : Gl X x) (hd : (x == ("__debug__" : Str)) = false) (hp : (a :: es).all plainX = true) (ha : PA X (a :: es) (tA X cl io W Γ ia)) :
    PE X (.Call (.Name x p) (a :: es) [] pos) (tL X cl io W Γ (.callL f ia)) := by
  obtain ⟨⟨k, fa, fd, ps, F1, hr, hm, hk, hb⟩, G⟩ := F
  rw [List.all_cons, Bool.and_eq_true] at hp
  refine PE.imp (pe_callS F1 hr hg hm hk hb (fun σ => passAt tk σ) ha hd (star_cons hp.1) (star_any hp.2)) ?_
  rintro σ H Q ⟨B, Hi0, pin, Hi, ρ, A, R, h⟩
  refine ⟨B, Hi0, pin, Hi, ρ, A, R, ?_⟩
  rw [show evL Γ (.callL f ia) ρ = bnd (evA Γ ia ρ) fun avs ρ => callLE (Γ f) avs ρ by rw [evL]] at h
  exact h.bnd fun vs Hi1 H1 ρ1 A1 avs e1 R1 r1 h1 => callL_sp G R1 r1 h1
end
end VI
set_option maxHeartbeats 2000000
/-! Soundness: what is walked; comprehensions. -/
namespace VI
open PySem L2 Evl RT RZ
/-- an iterator that gives the data ds, one after the other -/
structure DWk (K : PySem.W.Frag) (cf : Nat → Addr) (Hi : Hp) (J : It) (ds : List D) : Prop where
  w : Walk J ds.length (fun H => Ex Hi H) fun i H x H' => (H' = H ∧ ∃ d, ds[i]? = some d ∧ Rep K cf Hi x d) ∨
    ∃ T x1 y1 d1 d2, x = .ref T ∧ H T = none ∧ H' = upd H T (.tup [x1, y1]) ∧ ds[i]? = some (.tup [d1, d2]) ∧ Rep K cf Hi x1 d1 ∧ Rep K cf Hi y1 d2
def RI : Par → Hp → Hp → (Nat → List Addr) → L2.St → It → List D → Prop := fun P Hi _ _ _ J ds => DWk P.K P.cl.fn Hi J ds
theorem PI.imp {X : Cx} {tg e : Expr} {t t' : TI} (h : PI X tg e t) (k : ∀ σ H Q, t' σ H Q → t σ H Q) : PI X tg e t' := ⟨fun pins s σ H R I q => h.run pins s σ H R I (k σ H R q)⟩
section
variable {K : PySem.W.Frag} {cf : Nat → Addr} {Hi : Hp} {a b : Addr} {xs ys : List V} {ds es : List D}
theorem dw_list (h : SqL K Hi a xs) (r : Reps K cf Hi xs ds) : DWk K cf Hi (Itl K a) ds := ⟨by
  rw [← r.len]
  refine (walk_list (K := K) (a := a) (xs := xs)).mono (fun H e => ex_l e h) fun i H x H' hi e y => ?_
  obtain ⟨d, h1, h2⟩ := r.get' y.2
  exact .inl ⟨y.1, d, h1, h2⟩⟩
theorem dw_tup (h : SqT K Hi a xs) (r : Reps K cf Hi xs ds) : DWk K cf Hi (Itt K a) ds := ⟨by
  rw [← r.len]
  refine (walk_tup (K := K) (a := a) (xs := xs)).mono (fun H e => ex_t e h) fun i H x H' hi e y => ?_
  obtain ⟨d, h1, h2⟩ := r.get' y.2
  exact .inl ⟨y.1, d, h1, h2⟩⟩
theorem dw_str (z : Str) : DWk K cf Hi (Its z) (z.cps.toList.map fun c => D.str ⟨#[c]⟩) := ⟨by
  rw [List.length_map, Array.length_toList]
  refine (walk_str (z := z)).mono (fun H e => trivial) fun i H x H' hi e y => ?_
  obtain ⟨h1, c, h2, h3⟩ := y
  subst h3
  refine .inl ⟨h1, .str ⟨#[c]⟩, ?_, .str _⟩
  rw [List.getElem?_map, Array.getElem?_toList, h2]
  rfl⟩
theorem dw_range (lo : Int) (n : Nat) : DWk K cf Hi (Itr lo n) (rngD lo 1 n) := ⟨by
  have hl : (rngD lo 1 n).length = n := by unfold rngD; rw [List.length_map, List.length_range]
  rw [hl]
  refine (walk_range (lo := lo) (n := n)).mono (fun H e => trivial) fun i H x H' hi e y => ?_
  obtain ⟨h1, h2⟩ := y
  subst h2
  refine .inl ⟨h1, .int (lo + i), ?_, .int _⟩
  unfold rngD
  rw [List.getElem?_map, List.getElem?_range hi]
  simp⟩
theorem dw_rangeC (lo c : Int) (n : Nat) : DWk K cf Hi (Itc lo c n) (rngD lo c n) := ⟨by
  have hl : (rngD lo c n).length = n := by unfold rngD; rw [List.length_map, List.length_range]
  rw [hl]
  refine (walk_rangeC (lo := lo) (n := n)).mono (fun H e => trivial) fun i H x H' hi e y => ?_
  obtain ⟨h1, h2⟩ := y
  subst h2
  refine .inl ⟨h1, .int (lo + (i : Nat) * c), ?_, .int _⟩
  unfold rngD
  rw [List.getElem?_map, List.getElem?_range hi]
  simp⟩
theorem revGet {ds : List D} {i : Nat} {d : D} (h : ds[ds.length - 1 - i]? = some d) (hi : i < ds.length) : ds.reverse[i]? = some d := by
  rw [List.getElem?_reverse hi]
  exact h
theorem dw_revL (h : SqL K Hi a xs) (r : Reps K cf Hi xs ds) : DWk K cf Hi (Itv K a xs.length) ds.reverse := ⟨by
  rw [List.length_reverse, ← r.len]
  refine (walk_rev (K := K) (a := a) (xs := xs)).mono (fun H e => ex_l e h) fun i H x H' hi e y => ?_
  obtain ⟨h1, h2⟩ := y
  obtain ⟨d, h3, h4⟩ := r.get' h2
  refine .inl ⟨h1, d, revGet ?_ (by rw [← r.len]; exact hi), h4⟩
  rw [← r.len]
  exact h3⟩
theorem dw_revT (h : SqT K Hi a xs) (r : Reps K cf Hi xs ds) : DWk K cf Hi (ItvT K a xs.length) ds.reverse := ⟨by
  rw [List.length_reverse, ← r.len]
  refine ⟨fun i H hi e => ⟨hi, xs, xs[xs.length - 1 - i]'(by omega), ex_t e h, by simp [show xs.length - 1 - i < xs.length by omega]⟩, fun H e => Nat.le_refl _, fun i H x H' hi e y => ?_⟩
  obtain ⟨h1, h2⟩ := y
  obtain ⟨d, h3, h4⟩ := r.get' (h2 xs (ex_t e h))
  refine .inl ⟨h1, d, revGet ?_ (by rw [← r.len]; exact hi), h4⟩
  rw [← r.len]
  exact h3⟩
theorem zip2_get : ∀ {ds es : List D} {i : Nat} {d e : D}, ds[i]? = some d → es[i]? = some e → (zip2 ds es)[i]? = some (.tup [d, e])
  | [], _, _, _, _, h, _ => by simp at h
  | _ :: _, [], _, _, _, _, h => by simp at h
  | a :: x, b :: y, 0, d, e, h1, h2 => by
    simp at h1 h2
    subst h1 h2
    rfl
  | a :: x, b :: y, i + 1, d, e, h1, h2 => by
    unfold zip2
    rw [List.getElem?_cons_succ]
    exact zip2_get (by simpa using h1) (by simpa using h2)
theorem zip2_len : ∀ (ds es : List D), (zip2 ds es).length = min ds.length es.length
  | [], _ => by unfold zip2; simp
  | _ :: _, [] => by unfold zip2; simp
  | a :: x, b :: y => by
    unfold zip2
    rw [List.length_cons, zip2_len x y, List.length_cons, List.length_cons]
    omega
theorem dw_zipL (h : SqL K Hi a xs) (h' : SqL K Hi b ys) (r : Reps K cf Hi xs ds) (r' : Reps K cf Hi ys es) : DWk K cf Hi (Itz K a b) (zip2 ds es) := ⟨by
  rw [zip2_len, ← r.len, ← r'.len]
  refine (walk_zip (K := K) (a := a) (b := b) (xs := xs) (ys := ys) rfl).mono (fun H e => ⟨ex_l e h, ex_l e h'⟩) fun i H x H' hi e y => ?_
  obtain ⟨T, x1, y1, h1, h2, h3, h4, h5⟩ := y
  obtain ⟨d1, h6, h7⟩ := r.get' h4
  obtain ⟨d2, h8, h9⟩ := r'.get' h5
  exact .inr ⟨T, x1, y1, d1, d2, h1, h2, h3, zip2_get h6 h8, h7, h9⟩⟩
theorem dw_zipT (h : SqT K Hi a xs) (h' : SqT K Hi b ys) (r : Reps K cf Hi xs ds) (r' : Reps K cf Hi ys es) : DWk K cf Hi (ItzT K a b) (zip2 ds es) := ⟨by
  rw [zip2_len, ← r.len, ← r'.len]
  refine ⟨fun i H hi e => ?_, fun H e => ⟨xs, ys, ex_t e h, ex_t e h', by omega⟩, fun i H x H' hi e y => ?_⟩
  · have h1 : i < xs.length := by omega
    have h2 : i < ys.length := by omega
    exact ⟨xs, ys, xs[i], ys[i], ex_t e h, ex_t e h', by simp [h1], by simp [h2]⟩
  · obtain ⟨T, x1, y1, h1, h2, h3, h4, h5⟩ := y
    obtain ⟨d1, h6, h7⟩ := r.get' (h4 xs (ex_t e h))
    obtain ⟨d2, h8, h9⟩ := r'.get' (h5 ys (ex_t e h'))
    exact .inr ⟨T, x1, y1, d1, d2, h1, h2, h3, zip2_get h6 h8, h7, h9⟩⟩
theorem dw_enum (h : SqL K Hi a xs) (r : Reps K cf Hi xs ds) : DWk K cf Hi (Ite K a) (zip2 (rngD 0 1 ds.length) ds) := ⟨by
  have hl : (rngD 0 1 ds.length).length = ds.length := by unfold rngD; rw [List.length_map, List.length_range]
  rw [zip2_len, hl, Nat.min_self, ← r.len]
  refine (walk_enum (K := K) (a := a) (xs := xs)).mono (fun H e => ex_l e h) fun i H x H' hi e y => ?_
  obtain ⟨T, x1, y1, h1, h2, h3, h4, h5⟩ := y
  cases h4
  obtain ⟨d2, h8, h9⟩ := r.get' h5
  refine .inr ⟨T, _, y1, .int (i : Nat), d2, h1, h2, h3, zip2_get ?_ h8, .int _, h9⟩
  unfold rngD
  rw [List.getElem?_map, List.getElem?_range hi]
  simp⟩
end
section
variable {X : Cx} {cl : Cl} {io : List Nat} {W : WX} {Γ : Gam} {a b c tg : Expr} {ia ib ic : E} {pos p : Pos}
abbrev tI (X : Cx) (cl : Cl) (io : List Nat) (W : WX) (Γ : Gam) (it : I) : TI := tG X.K cl io W RI (evI Γ it)
/-- a list, a tuple, a text is walked -/
def iSeq (K : PySem.W.Frag) (tl : TE) : TI := fun σ H R => tl σ H fun x H1 => (∃ a, x = .ref a ∧ (((∃ xs, SqL K H1 a xs) ∧ R (Itl K a) H1) ∨ ((∃ xs, SqT K H1 a xs) ∧ R (Itt K a) H1))) ∨ ∃ z, x = .str z ∧ R (Its z) H1
theorem pi_seq {l : Expr} {tl : TE} (hl : PE X l tl) : PI X tg l (iSeq X.K tl) := by
  refine ⟨fun pins s σ H R I h => ?_⟩
  refine thn (hl.run pins s σ H _ I h) fun v s1 ⟨x, H1, I1, r1, q1⟩ => ?_
  have fp : ∀ b ∈ [s1.heap.objs.size], FpOk X pins H1 b := fun b hb => by
    have e : b = s1.heap.objs.size := by simpa using hb
    subst e
    exact I1.fpOk (Nat.le_refl _) (I1.hok.fresh (Nat.le_refl _))
  rcases q1 with ⟨a, e, q⟩ | ⟨z, e, q⟩
  · subst e
    cases r1
    rcases q with ⟨⟨xs, hq⟩, q⟩ | ⟨⟨xs, hq⟩, q⟩
    · obtain ⟨its, rv, p, hz⟩ := I1.list hq
      refine wpAny_pyIter_list p.isList ?_
      exact ⟨s1.heap.objs.size, [s1.heap.objs.size], _, _, H1, rfl, I1.kept (t' := s1.toks) fun b o e => Heap.get?_push_of_some _ e, turn_list a _, ⟨_, Heap.get?_push_size _ rfl, rfl, rfl⟩, fp, q⟩
    · obtain ⟨its, rv, p, hz⟩ := I1.tuple hq
      refine wpAny_pyIter_tuple (show s1.heap.IsTuple a its.toArray from p) ?_
      exact ⟨s1.heap.objs.size, [s1.heap.objs.size], _, _, H1, rfl, I1.kept (t' := s1.toks) fun b o e => Heap.get?_push_of_some _ e, turn_tuple a _, ⟨_, Heap.get?_push_size _ rfl, rfl, rfl⟩, fp, q⟩
  · subst e
    obtain ⟨t, rfl⟩ := r1
    cases ha : z.cps.all (· < 128)
    · exact wpAny_pyIter_wide ha (pi_one (tk := s1.toks) I1 _ (turn_str _ z t "str_iterator" (.inr rfl)) ⟨_, Heap.get?_push_size _ rfl, rfl, rfl⟩ q)
    · exact wpAny_pyIter_ascii ha (pi_one (tk := s1.toks) I1 _ (turn_str _ z t "str_ascii_iterator" (.inl rfl)) ⟨_, Heap.get?_push_size _ rfl, rfl, rfl⟩ q)
theorem sndI_seq (ha : PE X a (tE X cl io W Γ ia)) : PI X tg a (tI X cl io W Γ (.seq ia)) := by
  refine PI.imp (pi_seq ha) ?_
  rintro σ H Q ⟨B, Hi0, pin, Hi, ρ, A, R, h⟩
  refine ⟨B, Hi0, pin, Hi, ρ, A, R, ?_⟩
  unfold evI at h
  refine h.bnd fun v1 Hi1 H1 ρ1 A1 d1 e1 R1 r1 h1 => ?_
  obtain ⟨ds, hd, h2⟩ := ok1_some h1
  cases r1 with
  | tup h3 h4 => cases hd; exact .inl ⟨_, rfl, .inr ⟨⟨_, ex_t R1.i h3⟩, h2.ok R1 (dw_tup h3 h4)⟩⟩
  | lst h3 h4 => cases hd; exact .inl ⟨_, rfl, .inl ⟨⟨_, .inl (.inl (R1.i _ _ h3))⟩, h2.ok R1 (dw_list (.inl (.inl h3)) h4)⟩⟩
  | scr h3 h4 => cases hd; exact .inl ⟨_, rfl, .inl ⟨⟨_, ex_l R1.i h3⟩, h2.ok R1 (dw_list h3 h4)⟩⟩
  | str z => cases hd; exact .inr ⟨z, rfl, h2.ok R1 (dw_str z)⟩
  | _ => cases hd
theorem okR_of {i : Int} (h : okR i = true) : -(2 ^ 62) ≤ i ∧ i < 2 ^ 62 := of_decide_eq_true h
theorem sndI_rng1 (hg : Gl X "range") (hm : X.mg "range" = none) (hp : plainX a = true) (ha : PE X a (tE X cl io W Γ ia)) : PI X tg (.Call (.Name "range" p) [a] [] pos) (tI X cl io W Γ (.rng1 ia)) := by
  refine PI.imp (pi_range1 hg hm (pa_cons ha pa_nil (star_cons hp)) (by rw [star_cons hp]; rfl)) ?_
  rintro σ H Q ⟨B, Hi0, pin, Hi, ρ, A, R, h⟩
  refine ⟨B, Hi0, pin, Hi, ρ, A, R, ?_⟩
  unfold evI at h
  refine h.bnd fun v1 Hi1 H1 ρ1 A1 d1 e1 R1 r1 h1 => ?_
  obtain ⟨ds, hd, h2⟩ := ok1_some h1
  cases r1 <;> try (cases hd; done)
  rename_i j
  have hd' : (if okR j = true then some (rngD 0 1 j.toNat) else none) = some ds := hd
  by_cases hc : okR j = true
  · rw [if_pos hc] at hd'
    cases hd'
    exact ⟨j, rfl, (okR_of hc).1, (okR_of hc).2, h2.ok R1 (dw_range 0 _)⟩
  · rw [if_neg hc] at hd'
    cases hd'
theorem sndI_rng2 (hg : Gl X "range") (hm : X.mg "range" = none) (hp : plainX a = true) (hp' : plainX b = true) (ha : PE X a (tE X cl io W Γ ia)) (hb : PE X b (tE X cl io W Γ ib)) : PI X tg (.Call (.Name "range" p) [a, b] [] pos) (tI X cl io W Γ (.rng2 ia ib)) := by
  refine PI.imp (pi_range2 hg hm (pa_cons ha (pa_cons hb pa_nil (star_cons hp')) (star_cons hp)) (by rw [star_cons hp, star_cons hp']; rfl) (by rw [star_cons hp']; rfl)) ?_
  rintro σ H Q ⟨B, Hi0, pin, Hi, ρ, A, R, h⟩
  refine ⟨B, Hi0, pin, Hi, ρ, A, R, ?_⟩
  unfold evI at h
  refine h.bnd fun v1 Hi1 H1 ρ1 A1 d1 e1 R1 r1 h1 => ⟨B, Hi0, pin, Hi1, ρ1, A1, R1, ?_⟩
  refine h1.bnd fun v2 Hi2 H2 ρ2 A2 d2 e2 R2 r2 h2 => ?_
  obtain ⟨ds, hd, h3⟩ := ok1_some h2
  cases r1 <;> cases r2 <;> try (cases hd; done)
  rename_i i j
  have hd' : (if okR i = true ∧ okR j = true then some (rngD i 1 (j - i).toNat) else none) = some ds := hd
  by_cases hc : okR i = true ∧ okR j = true
  · rw [if_pos hc] at hd'
    cases hd'
    exact ⟨i, j, rfl, ⟨(okR_of hc.1).1, (okR_of hc.1).2, (okR_of hc.2).1, (okR_of hc.2).2⟩, h3.ok R2 (dw_range _ _)⟩
  · rw [if_neg hc] at hd'
    cases hd'
theorem sndI_rng3 (hg : Gl X "range") (hm : X.mg "range" = none) (hp : plainX a = true) (hp' : plainX b = true) (hp2 : plainX c = true) (ha : PE X a (tE X cl io W Γ ia)) (hb : PE X b (tE X cl io W Γ ib)) (hc : PE X c (tE X cl io W Γ ic)) :
    PI X tg (.Call (.Name "range" p) [a, b, c] [] pos) (tI X cl io W Γ (.rng3 ia ib ic)) := by
  refine PI.imp (pi_range3 hg hm (pa_cons ha (pa_cons hb (pa_cons hc pa_nil (star_cons hp2)) (star_cons hp')) (star_cons hp)) (star_cons hp) (star_any (by rw [List.all_cons, List.all_cons, hp', hp2]; rfl))) ?_
  rintro σ H Q ⟨B, Hi0, pin, Hi, ρ, A, R, h⟩
  refine ⟨B, Hi0, pin, Hi, ρ, A, R, ?_⟩
  unfold evI at h
  refine h.bnd fun v1 Hi1 H1 ρ1 A1 d1 e1 R1 r1 h1 => ⟨B, Hi0, pin, Hi1, ρ1, A1, R1, ?_⟩
  refine h1.bnd fun v2 Hi2 H2 ρ2 A2 d2 e2 R2 r2 h2 => ⟨B, Hi0, pin, Hi2, ρ2, A2, R2, ?_⟩
  refine h2.bnd fun v3 Hi3 H3 ρ3 A3 d3 e3 R3 r3 h3 => ?_
  obtain ⟨ds, hd, h4⟩ := ok1_some h3
  cases r1 <;> cases r2 <;> cases r3 <;> try (cases hd; done)
  rename_i i j k
  have hd' : (if okR i = true ∧ okR j = true ∧ k = -1 then some (rngD i (-1) (i - j).toNat) else none) = some ds := hd
  by_cases hc : okR i = true ∧ okR j = true ∧ k = -1
  · rw [if_pos hc] at hd'
    cases hd'
    obtain ⟨h5, h6, rfl⟩ := hc
    exact ⟨i, j, -1, _, rfl, RgC.neg (okR_of h5).1 (okR_of h5).2 (okR_of h6).1 (okR_of h6).2, h4.ok R3 (dw_rangeC _ _ _)⟩
  · rw [if_neg hc] at hd'
    cases hd'
theorem sndI_zip {elts : List Expr} {kk : Nat} {tpos : Pos} (hg : Gl X "zip") (hm : X.mg "zip" = none) (hp : plainX a = true) (hp' : plainX b = true) (ha : PE X a (tE X cl io W Γ ia)) (hb : PE X b (tE X cl io W Γ ib)) :
    PI X (.Tuple elts kk tpos) (.Call (.Name "zip" p) [a, b] [] pos) (tI X cl io W Γ (.zip ia ib)) := by
  refine PI.imp (pi_zipA hg hm (pa_cons ha (pa_cons hb pa_nil (star_cons hp')) (star_cons hp)) (star_cons hp) (star_any (by rw [List.all_cons, hp']; rfl))) ?_
  rintro σ H Q ⟨B, Hi0, pin, Hi, ρ, A, R, h⟩
  refine ⟨B, Hi0, pin, Hi, ρ, A, R, ?_⟩
  unfold evI at h
  refine h.bnd fun v1 Hi1 H1 ρ1 A1 d1 e1 R1 r1 h1 => ⟨B, Hi0, pin, Hi1, ρ1, A1, R1, ?_⟩
  refine h1.bnd fun v2 Hi2 H2 ρ2 A2 d2 e2 R2 r2 h2 => ?_
  obtain ⟨ds, hd, h3⟩ := ok1_some h2
  cases r1 <;> cases r2 <;> try (cases hd; done)
  · rename_i h4 h5 a' xs es h6 h7
    cases hd
    exact ⟨_, _, _, _, rfl, .inr ⟨ex_t (e2.trans R2.i) h4, ex_t R2.i h6, h3.ok R2 (dw_zipT (ex_t e2 h4) h6 (h5.mono e2) h7)⟩⟩
  · rename_i h4 h5 a' xs es h6 h7
    cases hd
    exact ⟨_, _, _, _, rfl, .inl ⟨.inl (.inl ((e2.trans R2.i) _ _ h4)), .inl (.inl (R2.i _ _ h6)), h3.ok R2 (dw_zipL (.inl (.inl (e2 _ _ h4))) (.inl (.inl h6)) (h5.mono e2) h7)⟩⟩
theorem sndI_enm {elts : List Expr} {kk : Nat} {tpos : Pos} (hg : Gl X "enumerate") (hm : X.mg "enumerate" = none) (hp : plainX a = true) (ha : PE X a (tE X cl io W Γ ia)) :
    PI X (.Tuple elts kk tpos) (.Call (.Name "enumerate" p) [a] [] pos) (tI X cl io W Γ (.enm ia)) := by
  refine PI.imp (pi_enum hg hm (pa_cons ha pa_nil (star_cons hp)) (by rw [star_cons hp]; rfl)) ?_
  rintro σ H Q ⟨B, Hi0, pin, Hi, ρ, A, R, h⟩
  refine ⟨B, Hi0, pin, Hi, ρ, A, R, ?_⟩
  unfold evI at h
  refine h.bnd fun v1 Hi1 H1 ρ1 A1 d1 e1 R1 r1 h1 => ?_
  obtain ⟨ds, hd, h2⟩ := ok1_some h1
  cases r1 with
  | lst h3 h4 => cases hd; exact ⟨_, _, rfl, .inl (.inl (R1.i _ _ h3)), h2.ok R1 (dw_enum (.inl (.inl h3)) h4)⟩
  | _ => cases hd
theorem sndI_rev (hg : Gl X "reversed") (hm : X.mg "reversed" = none) (hp : plainX a = true) (ha : PE X a (tE X cl io W Γ ia)) : PI X tg (.Call (.Name "reversed" p) [a] [] pos) (tI X cl io W Γ (.rev ia)) := by
  refine PI.imp (pi_revA hg hm ha (star_cons hp)) ?_
  rintro σ H Q ⟨B, Hi0, pin, Hi, ρ, A, R, h⟩
  refine ⟨B, Hi0, pin, Hi, ρ, A, R, ?_⟩
  unfold evI at h
  refine h.bnd fun v1 Hi1 H1 ρ1 A1 d1 e1 R1 r1 h1 => ?_
  obtain ⟨ds, hd, h2⟩ := ok1_some h1
  cases r1 with
  | lst h3 h4 => cases hd; exact ⟨_, _, rfl, .inl ⟨.inl (.inl (R1.i _ _ h3)), h2.ok R1 (dw_revL (.inl (.inl h3)) h4)⟩⟩
  | scr h3 h4 => cases hd; exact ⟨_, _, rfl, .inl ⟨ex_l R1.i h3, h2.ok R1 (dw_revL h3 h4)⟩⟩
  | tup h3 h4 => cases hd; exact ⟨_, _, rfl, .inr ⟨ex_t R1.i h3, h2.ok R1 (dw_revT h3 h4)⟩⟩
  | _ => cases hd
end
end VI
set_option maxHeartbeats 2000000
/-! Soundness: what a turn binds; comprehensions. -/
namespace VI
open PySem L2 Evl RT RZ
/-! ### targets -/
def setAllV (σ : L2.St) : List Nat → List V → L2.St
  | i :: is, v :: vs => setAllV (σ.set i (some v)) is vs
  | _, _ => σ
inductive Targets (X : Cx) (io : List Nat) : List Nat → List Expr → Prop
  | nil : Targets X io [] []
  | cons {i : Nat} {x : Str} {p : Pos} {is : List Nat} {es : List Expr} (hi : X.N[i]? = some x) (hx : Loc X.env.scope x) (hf : X.fn x = true ∨ X.env.scope.names.lookup x = some .local) (hn : i ∉ io) (r : Targets X io is es) : Targets X io (i :: is) (.Name x p :: es)
theorem Targets.len {X : Cx} {io : List Nat} : ∀ {is : List Nat} {es : List Expr}, Targets X io is es → is.length = es.length
  | _, _, .nil => rfl
  | _, _, .cons _ _ _ _ r => by rw [List.length_cons, List.length_cons, r.len]
theorem Targets.out {X : Cx} {io : List Nat} : ∀ {is : List Nat} {es : List Expr}, Targets X io is es → ∀ i ∈ is, i ∉ io
  | _, _, .nil, _, h => by cases h
  | _, _, .cons _ _ _ hn r, j, h => by
    rcases List.mem_cons.mp h with e | h
    · rw [e]; exact hn
    · exact r.out j h
theorem pgs_all {X : Cx} {io : List Nat} (hN : X.N.Nodup) : ∀ {is : List Nat} {es : List Expr}, Targets X io is es → PGs X es (fun vs σ H Q => vs.length = is.length ∧ Q (setAllV σ is vs) H)
  | _, _, .nil => ⟨fun pins s σ H vs us Q I r h => pgs_nil.run pins s σ H vs us Q I r ⟨List.eq_nil_of_length_eq_zero h.1, by
      have e : vs = [] := List.eq_nil_of_length_eq_zero h.1
      subst e
      exact h.2⟩⟩
  | _, _, .cons hi hx hf hn r => ⟨fun pins s σ H vs us Q I rv h => (pgs_cons (pg_name hN hi hx hf) (pgs_all hN r)).run pins s σ H vs us Q I rv (by
      obtain ⟨h1, h2⟩ := h
      cases vs with
      | nil => cases h1
      | cons v vr =>
        refine ⟨v, vr, rfl, ?_⟩
        exact ⟨by simpa using h1, h2⟩)⟩
theorem assignEach_names {X : Cx} {io : List Nat} {env : PySem.Env} : ∀ {is : List Nat} {es : List Expr}, Targets X io is es → (assignEach es env).length = es.length ∧ (assignEach es env).findIdx? (·.1) = none
  | _, _, .nil => ⟨rfl, rfl⟩
  | _, _, .cons (x := x) (p := p) (es := es) hi hx hf hn r => by
    obtain ⟨h1, h2⟩ := assignEach_names (env := env) r
    have e : assignEach (.Name x p :: es) env = (false, assign (.Name x p) env) :: assignEach es env := rfl
    rw [e]
    refine ⟨by rw [List.length_cons, List.length_cons, h1], ?_⟩
    rw [List.findIdx?_cons]
    simp [h2]
theorem setAll_len : ∀ (is : List Nat) (ds : List D) (ρ : Env), (setAll ρ is ds).length = ρ.length
  | [], _, _ => by unfold setAll; rfl
  | _ :: _, [], _ => by unfold setAll; rfl
  | i :: is, d :: ds, ρ => by unfold setAll; rw [setAll_len is ds, List.length_set]
theorem setAll_of {P : Par} {io : List Nat} {Hi H : Hp} : ∀ {is : List Nat} {ds : List D} {vs : List V} {σ : L2.St} {ρ : Env} {A : Nat → List Addr}, (∀ i ∈ is, i ∉ io) → (∀ i ∈ is, i < ρ.length) → RelA P io Hi H σ ρ A → Reps P.K P.cl Hi vs ds → ds.length = is.length → ∃ A', RelA P io Hi H (setAllV σ is vs) (setAll ρ is ds) A'
  | [], [], _, σ, ρ, A, _, _, R, .nil, _ => ⟨A, R⟩
  | i :: is, d :: ds, _, σ, ρ, A, hn, hb, R, .cons (v := v) (vs := vs) r t, hl => by
    unfold setAllV setAll
    exact setAll_of (fun j hj => hn j (List.mem_cons_of_mem _ hj)) (fun j hj => by rw [List.length_set]; exact hb j (List.mem_cons_of_mem _ hj)) (R.setV (hb i List.mem_cons_self) (hn i List.mem_cons_self) r) t (by simpa using hl)
theorem wipe_set (σ : L2.St) {i : Nat} {x : Option V} : ∀ {vs : List Nat}, i ∈ vs → wipe (σ.set i x) vs = wipe σ vs := by
  intro vs h
  apply List.ext_getElem?
  intro j
  have at_ : ∀ (τ : L2.St) (vs : List Nat) (j : Nat), (wipe τ vs)[j]? = if j ∈ vs then (if j < τ.length then some none else none) else τ[j]? := by
    intro τ vs
    induction vs with
    | nil => intro j; rw [if_neg List.not_mem_nil]; rfl
    | cons v vs ih =>
      intro j
      show ((wipe τ vs).set v none)[j]? = _
      by_cases e : v = j
      · subst e
        rw [if_pos List.mem_cons_self]
        by_cases hv : v < τ.length
        · rw [if_pos hv, List.getElem?_set_self (by rw [wipe_length]; exact hv)]
        · rw [if_neg hv, List.getElem?_eq_none_iff.mpr (by rw [List.length_set, wipe_length]; omega)]
      · rw [List.getElem?_set_ne e, ih]
        by_cases q : j ∈ vs
        · rw [if_pos q, if_pos (List.mem_cons_of_mem _ q)]
        · rw [if_neg q, if_neg fun z => (List.mem_cons.mp z).elim (fun w => e w.symm) q]
  rw [at_, at_, List.length_set]
  by_cases q : j ∈ vs
  · rw [if_pos q, if_pos q]
  · rw [if_neg q, if_neg q, List.getElem?_set_ne fun z => q (by rw [← z]; exact h)]
theorem wipe_all (σ : L2.St) : ∀ {is vs : List Nat} {xs : List V}, (∀ i ∈ is, i ∈ vs) → wipe (setAllV σ is xs) vs = wipe σ vs
  | [], vs, xs, h => rfl
  | i :: is, vs, [], h => rfl
  | i :: is, vs, x :: xs, h => by
    unfold setAllV
    rw [wipe_all _ fun j hj => h j (List.mem_cons_of_mem _ hj), wipe_set _ (h i List.mem_cons_self)]
theorem wipe_wipe (σ : L2.St) (vs : List Nat) : wipe (wipe σ vs) vs = wipe σ vs := by
  have go : ∀ us : List Nat, (∀ i ∈ us, i ∈ vs) → wipe (wipe σ us) vs = wipe σ vs := by
    intro us
    induction us with
    | nil => intro _; rfl
    | cons u us ih =>
      intro h
      show wipe ((wipe σ us).set u none) vs = _
      rw [wipe_set _ (h u List.mem_cons_self), ih fun i hi => h i (List.mem_cons_of_mem _ hi)]
  exact go vs fun _ h => h
def ptS : Pt → List Nat
  | .n i => [i]
  | .t is => is
inductive PtOk (X : Cx) (io : List Nat) : Pt → Expr → Prop
  | n {i : Nat} {x : Str} {p : Pos} (hi : X.N[i]? = some x) (hx : Loc X.env.scope x) (hf : X.fn x = true ∨ X.env.scope.names.lookup x = some .local) (hn : i ∉ io) : PtOk X io (.n i) (.Name x p)
  | t {is : List Nat} {es : List Expr} {k : Nat} {p : Pos} (h : Targets X io is es) : PtOk X io (.t is) (.Tuple es k p)
theorem PtOk.out {X : Cx} {io : List Nat} {p : Pt} {tg : Expr} (h : PtOk X io p tg) : ∀ i ∈ ptS p, i ∉ io := by
  cases h with
  | n hi hx hf hn => intro i h; rw [List.mem_singleton.mp h]; exact hn
  | t h => exact h.out
def gP (K : PySem.W.Frag) : Pt → TG
  | .n i => gName i
  | .t is => fun v σ H Q => gTup K is.length (fun vs σ H Q => vs.length = is.length ∧ Q (setAllV σ is vs) H) v σ H Q ∨ gLst K is.length (fun vs σ H Q => vs.length = is.length ∧ Q (setAllV σ is vs) H) v σ H Q
theorem pg_pt {X : Cx} {io : List Nat} (hc : X.calm = true) (hN : X.N.Nodup) {p : Pt} {tg : Expr} (h : PtOk X io p tg) : PG X tg (gP X.K p) := by
  cases h with
  | n hi hx hf hn => exact pg_name hN hi hx hf
  | t h =>
    obtain ⟨l1, l2⟩ := assignEach_names (env := X.env) h
    refine ⟨fun pins s σ H v u Q I r q => ?_⟩
    rcases q with q | q
    · exact (pg_tup hc (pgs_all hN h) (by rw [l1, h.len]) l2).run pins s σ H v u Q I r q
    · exact (pg_lst hc (pgs_all hN h) (by rw [l1, h.len]) l2).run pins s σ H v u Q I r q
/-- a turn's binding -/
theorem bind_of {α : Type} {P : Par} {io : List Nat} {Hi H : Hp} {σ : L2.St} {ρ : Env} {A : Nat → List Addr} {x : V} {d : D} {p : Pt} (R : RelA P io Hi H σ ρ A) (r : Rep P.K P.cl Hi x d) (hn : ∀ i ∈ ptS p, i ∉ io) (f : Env → Option α) :
    bindE p d ρ f = none ∨ ∃ ρ2, bindE p d ρ f = f ρ2 ∧ ∀ Q : L2.St → Hp → Prop, (∀ σ2 A2, RelA P io Hi H σ2 ρ2 A2 → (∀ vs, (∀ i ∈ ptS p, i ∈ vs) → wipe σ2 vs = wipe σ vs) → Q σ2 H) → gP P.K p x σ H Q := by
  cases p with
  | n i =>
    by_cases hi : i < ρ.length
    · refine .inr ⟨ρ.set i (.v d), if_pos hi, fun Q hQ => ?_⟩
      exact hQ _ _ (R.setV hi (hn i (List.mem_singleton.mpr rfl)) r) fun vs h => wipe_set _ (h i (List.mem_singleton.mpr rfl))
    · exact .inl (if_neg hi)
  | t is =>
    cases q : items d with
    | none => exact .inl (by unfold bindE; dsimp only; rw [q])
    | some ds =>
      by_cases hc : ds.length = is.length ∧ (is.all fun i => decide (i < ρ.length)) = true
      · refine .inr ⟨setAll ρ is ds, by unfold bindE; dsimp only; rw [q]; exact if_pos hc, fun Q hQ => ?_⟩
        obtain ⟨a, xs, rfl, hr, hs⟩ := items_some r q
        obtain ⟨A2, R2⟩ := setAll_of (is := is) hn (fun i hi => of_decide_eq_true (List.all_eq_true.mp hc.2 i hi)) R hr hc.1
        have hl : xs.length = is.length := by rw [hr.len]; exact hc.1
        have z := hQ _ _ R2 fun vs h => wipe_all _ h
        rcases hs with hs | hs
        · exact .inr ⟨a, xs, rfl, ex_l R.i hs, hl, hl, z⟩
        · exact .inl ⟨a, xs, rfl, ex_t R.i hs, hl, hl, z⟩
      · exact .inl (by unfold bindE; dsimp only; rw [q]; exact if_neg hc)
/-- a turn's item -/
theorem item_of {P : Par} {io : List Nat} {Hi1 Hi H H' : Hp} {σ : L2.St} {ρ : Env} {A : Nat → List Addr} {x : V} {ds : List D} {i : Nat} (R : RelA P io Hi H σ ρ A) (e : Ex Hi1 Hi)
    (y : (H' = H ∧ ∃ d, ds[i]? = some d ∧ Rep P.K P.cl.fn Hi1 x d) ∨ ∃ T x1 y1 d1 d2, x = .ref T ∧ H T = none ∧ H' = upd H T (.tup [x1, y1]) ∧ ds[i]? = some (.tup [d1, d2]) ∧ Rep P.K P.cl.fn Hi1 x1 d1 ∧ Rep P.K P.cl.fn Hi1 y1 d2) :
    ∃ Hi' d, Ex Hi Hi' ∧ RelA P io Hi' H' σ ρ A ∧ ds[i]? = some d ∧ Rep P.K P.cl Hi' x d ∧ (∀ p, H p ≠ none → H' p = H p) ∧ ∀ p, H p ≠ none → Hi p = none → Hi' p = none := by
  rcases y with ⟨rfl, d, h1, h2⟩ | ⟨T, x1, y1, d1, d2, rfl, hT, rfl, h1, h2, h3⟩
  · exact ⟨Hi, d, Ex.refl _, R, h1, h2.mono e, fun _ _ => rfl, fun _ _ h => h⟩
  · have hf : Hi T = none := fresh_back R.i hT
    have e2 : Ex Hi (upd Hi T (.tup [x1, y1])) := Ex.new hf
    refine ⟨upd Hi T (.tup [x1, y1]), _, e2, ?_, h1, .tup (.inl (.inl upd_same)) (.cons (h2.mono (e.trans e2)) (.cons (h3.mono (e.trans e2)) .nil)), fun p hp => ?_, fun p hp hh => ?_⟩
    · refine R.step e2 (fun a u q => ?_) (fun a u q n => ?_) (fun a n q => ?_)
      · by_cases z : a = T
        · subst z; rw [upd_same] at q ⊢; exact q
        · rw [upd_ne z] at q ⊢; exact R.i a u q
      · rw [upd_ne (ne_of_none q hT)]; exact q
      · rw [upd_ne]
        · exact q
        · intro z; subst z; exact n hT
    · exact upd_ne fun z => by rw [z] at hp; exact hp hT
    · rw [upd_ne fun z => by rw [z] at hp; exact hp hT]
      exact hh
end VI
set_option maxHeartbeats 2000000
/-! Soundness: comprehensions. -/
namespace VI
open PySem L2 Evl RT RZ
def W0 : WX := fun _ _ _ _ => False
/-- a turn of a comprehension -/
def turnG (p : Pt) (evc : Env → Option (Out Bool)) (eve : Env → Option (Out D)) (d : D) (ρ : Env) : Option (Out (Option D)) := bindE p d ρ fun ρ => bnd (evc ρ) fun k ρ => match k with
  | true => bnd (eve ρ) fun x ρ => some (.ok (some x) ρ)
  | false => some (.ok none ρ)
theorem turn_cases {p : Pt} {evc : Env → Option (Out Bool)} {eve : Env → Option (Out D)} {own : List Nat} {d : D} {ds acc : List D} {ρ ρ2 : Env} {r : List D × Env} (hb : bindE p d ρ (fun ρ => bnd (evc ρ) fun k ρ => match k with
      | true => bnd (eve ρ) fun x ρ => some (.ok (some x) ρ)
      | false => some (.ok none ρ)) = (bnd (evc ρ2) fun k ρ => match k with
      | true => bnd (eve ρ) fun x ρ => some (.ok (some x) ρ)
      | false => some (.ok none ρ)))
    (h : lcS (turnG p evc eve) own (d :: ds) acc ρ = some r) : ∃ k ρ3, evc ρ2 = some (.ok k ρ3) ∧ (k = false → lcS (turnG p evc eve) own ds acc (wipeE ρ3 own) = some r) ∧
      (k = true → ∃ x ρ4, eve ρ3 = some (.ok x ρ4) ∧ acc.length < sizeLine ∧ lcS (turnG p evc eve) own ds (acc ++ [x]) (wipeE ρ4 own) = some r) := by
  unfold lcS at h
  have e : turnG p evc eve d ρ = _ := hb
  rw [e] at h
  cases q : evc ρ2 with
  | none => rw [q] at h; cases h
  | some o =>
    rw [q] at h
    cases o with
    | ex c w ρ3 => cases h
    | ok k ρ3 =>
      refine ⟨k, ρ3, rfl, fun hk => ?_, fun hk => ?_⟩
      · subst hk
        exact h
      · subst hk
        cases q2 : eve ρ3 with
        | none =>
          have h : (match (bnd (eve ρ3) fun x ρ => some (Out.ok (some x) ρ)) with
            | some (.ok (some x) ρ') => if acc.length < sizeLine then lcS (turnG p evc eve) own ds (acc ++ [x]) (wipeE ρ' own) else none
            | some (.ok none ρ') => lcS (turnG p evc eve) own ds acc (wipeE ρ' own)
            | _ => none) = some r := h
          rw [q2] at h
          cases h
        | some o =>
          have h : (match (bnd (eve ρ3) fun x ρ => some (Out.ok (some x) ρ)) with
            | some (.ok (some x) ρ') => if acc.length < sizeLine then lcS (turnG p evc eve) own ds (acc ++ [x]) (wipeE ρ' own) else none
            | some (.ok none ρ') => lcS (turnG p evc eve) own ds acc (wipeE ρ' own)
            | _ => none) = some r := h
          rw [q2] at h
          cases o with
          | ex c w ρ4 => cases h
          | ok x ρ4 =>
            have h : (if acc.length < sizeLine then lcS (turnG p evc eve) own ds (acc ++ [x]) (wipeE ρ4 own) else none) = some r := h
            by_cases hc : acc.length < sizeLine
            · rw [if_pos hc] at h
              exact ⟨x, ρ4, rfl, hc, h⟩
            · rw [if_neg hc] at h
              cases h
theorem drop_cons {ds : List D} {i : Nat} {d : D} (h : ds[i]? = some d) : ds.drop i = d :: ds.drop (i + 1) := by
  obtain ⟨hlt, he⟩ := List.getElem?_eq_some_iff.mp h
  rw [List.drop_eq_getElem_cons hlt, he]
section
variable {X : Cx} {cl : Cl} {io : List Nat} {W : WX} {Γ : Gam}
theorem lc_of {own : List Nat} {it : I} {p : Pt} {evc : Env → Option (Out Bool)} {eve : Env → Option (Out D)} {tt : TT} (hpt : ∀ i ∈ ptS p, i ∈ own) (hio : ∀ i ∈ own, i ∉ io)
    (htt : ∀ σ H Q, tG X.K cl io W0 RT evc σ H Q → tt σ H Q) (σ : L2.St) (H : Hp) (Q : VK) (h : tG X.K cl io W RL (fun ρ => bnd (evI Γ it ρ) fun ds ρ => lcE own (turnG p evc eve) ds ρ) σ H Q) :
    tLc (tI X cl io W Γ it) (gP X.K p) tt (tG X.K cl io W0 RV eve) own σ H Q := by
  obtain ⟨B, Hi0, pin, Hi, ρ, A, R, h⟩ := h
  refine ⟨B, Hi0, pin, Hi, ρ, A, R, h.bnd fun J Hi1 H1 ρ1 A1 ds e1 R1 r1 h1 => ?_⟩
  intro L hL
  unfold lcE at h1
  by_cases hc : (own.all fun i => !isOwn (ρ1.at i)) = true
  · rw [if_pos hc] at h1
    have hown : ∀ i ∈ own, isOwn (ρ1.at i) = false := fun i hi => by
      have z := List.all_eq_true.mp hc i hi
      cases q : isOwn (ρ1.at i) with
      | false => rfl
      | true => rw [q] at z; cases z
    cases q : lcS (turnG p evc eve) own ds [] (wipeE ρ1 own) with
    | none => rw [q] at h1; exact h1.elim
    | some r =>
      obtain ⟨accF, ρF⟩ := r
      rw [q] at h1
      have hHi1 : Hi1 L = none := fresh_back R1.i hL
      have hB1 : B L = none := fresh_back R1.b hL
      have hH0 : Hi0 L = none := fresh_back (fun a o z => R1.i a o (R1.i0 a o z)) hL
      let Pv : Nat → Hp → Prop := fun i H' => ∃ Hi' ρ' A' acc vs, Ex Hi1 Hi' ∧ RelA ⟨X.K, cl, B, Hi0, pin⟩ io Hi' H' (wipe σ own) ρ' A' ∧ H' L = some (.lst vs) ∧ Reps X.K cl Hi' vs acc ∧ Hi' L = none ∧ (∀ j, L ∉ A' j) ∧
        lcS (turnG p evc eve) own (ds.drop i) acc ρ' = some (accF, ρF)
      refine lc_it (G := fun H => Ex Hi1 H) r1.w (vs := own) (σ := σ) Pv ?_ ?_ ?_ ?_
      · have R2 := R1.wipe hio
        obtain ⟨R3, p3, v3, hp3, hu3, hr3, hh3, hb3, ha3⟩ := newL_rel R2 hL (Reps.nil (K := X.K) (cl := cl))
        cases hp3
        exact ⟨Hi1, _, _, [], v3, Ex.refl _, R3, hu3, hr3, hh3, ha3, q⟩
      · rintro i H' hi ⟨Hi', ρ', A', acc, vs, e', R', hl', hr', hh', ha', hq'⟩
        exact e'.trans R'.i
      · rintro i x H2 H3 hi ⟨Hi2, ρ2, A2, acc, vs, e2, R2, hl2, hr2, hh2, ha2, hq2⟩ y
        obtain ⟨Hi3, d, e3, R3, hd, rd, keep, keep'⟩ := item_of R2 e2 y
        have hl3 : H3 L = some (.lst vs) := by rw [keep L (by rw [hl2]; exact fun w => nomatch w)]; exact hl2
        have hh3 : Hi3 L = none := keep' L (by rw [hl2]; exact fun w => nomatch w) hh2
        rw [drop_cons hd] at hq2
        have R3' := R3.prot (l := [L]) (fun p hp => by rw [List.mem_singleton.mp hp]; exact hh3) (fun p hp => by rw [List.mem_singleton.mp hp]; exact ha2)
        rcases bind_of (P := { K := X.K, cl := cl, B := frzH B H3 [L], Hi0 := Hi0, pin := pin }) (p := p) R3' rd (fun i hi => hio i (hpt i hi)) (fun ρ => bnd (evc ρ) fun k ρ => match k with
            | true => bnd (eve ρ) fun x ρ => some (Out.ok (some x) ρ)
            | false => some (.ok none ρ)) with hb | ⟨ρ4, hb, hbind⟩
        · unfold lcS at hq2
          have e : turnG p evc eve d ρ2 = none := hb
          rw [e] at hq2
          cases hq2
        · obtain ⟨k, ρ5, hk, hkf, hkt⟩ := turn_cases hb hq2
          refine hbind _ fun σ4 A4 R4 hw => ?_
          have hww : wipe σ4 own = wipe σ own := by rw [hw own hpt, wipe_wipe]
          refine ⟨hww, htt _ _ _ ⟨_, _, _, _, _, _, R4, ?_⟩⟩
          rw [hk]
          intro b Hi5 H5 A5 e5 R5 hbk
          have hbk : b = k := hbk
          subst hbk
          have un : ∀ {Hi6 H6 : Hp} {ρ6 : Env} {A6 : Nat → List Addr}, RelA { K := X.K, cl := cl, B := frzH B H3 [L], Hi0 := Hi0, pin := pin } io Hi6 H6 σ4 ρ6 A6 →
              RelA ⟨X.K, cl, B, Hi0, pin⟩ io Hi6 H6 (wipe σ own) (wipeE ρ6 own) (Adrop A6 own) ∧ H6 L = some (.lst vs) ∧ Hi6 L = none ∧ ∀ j, L ∉ Adrop A6 own j := fun {Hi6 H6 ρ6 A6} R6 => by
            obtain ⟨R7, k1, k2, k3⟩ := RelA.unprot (P := ⟨X.K, cl, B, Hi0, pin⟩) R6 (fun p hp => by rw [List.mem_singleton.mp hp]; exact hB1) (fun p hp => by rw [List.mem_singleton.mp hp]; exact hH0)
              (fun p hp => by rw [List.mem_singleton.mp hp, hl3]; exact fun w => nomatch w)
            have R8 := R7.wipe hio
            rw [hww] at R8
            refine ⟨R8, by rw [k1 L (List.mem_singleton.mpr rfl)]; exact hl3, k2 L (List.mem_singleton.mpr rfl), fun j => ?_⟩
            unfold Adrop
            split
            · exact List.not_mem_nil
            · exact k3 L (List.mem_singleton.mpr rfl) j
          cases b with
          | false =>
            rw [if_neg Bool.false_ne_true]
            obtain ⟨R6, l6, h6, a6⟩ := un R5
            exact ⟨Hi5, _, _, acc, vs, (e2.trans e3).trans e5, R6, l6, hr2.mono (e3.trans e5), h6, a6, hkf rfl⟩
          | true =>
            rw [if_pos rfl]
            obtain ⟨xd, ρ6, he, hz, hn⟩ := hkt rfl
            refine ⟨_, _, _, _, _, _, R5, ?_⟩
            rw [he]
            intro v Hi6 H6 A6 e6 R6 rv
            obtain ⟨R7, l7, h7, a7⟩ := un R6
            have hr7 := hr2.mono ((e3.trans e5).trans e6)
            refine ⟨vs, l7, by rw [hr7.len]; exact hz, Hi6, _, _, acc ++ [xd], vs ++ [v], ((e2.trans e3).trans e5).trans e6, R7.updF h7 hB1 a7, upd_same, hr7.snoc rv, h7, a7, hn⟩
      · rintro H' ⟨Hi', ρ', A', acc, vs, e', R', hl', hr', hh', ha', hq'⟩
        rw [List.drop_eq_nil_of_le (Nat.le_refl _)] at hq'
        unfold lcS at hq'
        cases hq'
        have R2 := RelA.unwipe R1 R' e' hio hown
        refine FinG.ok' h1 e' R2 ⟨L, vs, rfl, hl', hr', hh', hB1, fun j => ?_⟩
        unfold Adrop
        split
        · exact List.not_mem_nil
        · exact ha' j
  · rw [if_neg hc] at h1
    exact h1.elim
/-- a comprehension -/
theorem snd_lc {elt tg iter : Expr} {scope : Scope} {ownN : List (Str × Nat)} {pos : Pos} {it : I} {p : Pt} {ie : E} (hc : X.calm = true) (hN : X.N.Nodup) (hi : PI X tg iter (tI X cl io W Γ it)) (ok : BlkOk X.N X.env.scope scope ownN)
    (hg : ∀ (s : Shared) (H : Hp) (C : Addr) (k : List (Str × Addr)) (fp : List Addr), PtOk (X.blk s H scope (compEnvC scope k C X.env) fp) io p tg)
    (he : ∀ (s : Shared) (H : Hp) (C : Addr) (k : List (Str × Addr)) (fp : List Addr), PE (X.blk s H scope (compEnvC scope k C X.env) fp) elt (tG X.K cl io W0 RV (evE Γ ie)))
    (hs : ∀ x, foldedSetIterable iter X.env x = pure x) (hpt : ∀ i ∈ ptS p, i ∈ ownN.map (·.2)) (hio : ∀ i ∈ ownN.map (·.2), i ∉ io) :
    PE X (.ListComp elt [⟨tg, iter, [], 0⟩] scope pos) (tL X cl io W Γ (.lc (ownN.map (·.2)) it p ie)) := by
  refine PE.imp (pe_lc (g := gP X.K p) hc hN hi ok (fun s H C k fp => pg_pt (X := X.blk s H scope (compEnvC scope k C X.env) fp) (p := p) hc hN (hg s H C k fp)) (fun s H C k fp => pts_nil) he hs) ?_
  intro σ H Q h
  refine lc_of (evc := fun ρ => some (.ok true ρ)) (eve := evE Γ ie) hpt hio ?_ σ H Q ?_
  · rintro σ H Q ⟨B, Hi0, pin, Hi, ρ, A, R, h⟩
    exact h.ok R rfl
  · obtain ⟨B, Hi0, pin, Hi, ρ, A, R, h⟩ := h
    refine ⟨B, Hi0, pin, Hi, ρ, A, R, ?_⟩
    unfold evL at h
    exact h
theorem snd_lci {elt tg iter cnd : Expr} {scope : Scope} {ownN : List (Str × Nat)} {pos : Pos} {it : I} {p : Pt} {ic ie : E} (hc : X.calm = true) (hN : X.N.Nodup) (hi : PI X tg iter (tI X cl io W Γ it)) (ok : BlkOk X.N X.env.scope scope ownN)
    (hg : ∀ (s : Shared) (H : Hp) (C : Addr) (k : List (Str × Addr)) (fp : List Addr), PtOk (X.blk s H scope (compEnvC scope k C X.env) fp) io p tg)
    (ht : ∀ (s : Shared) (H : Hp) (C : Addr) (k : List (Str × Addr)) (fp : List Addr), PT (X.blk s H scope (compEnvC scope k C X.env) fp) cnd (tG X.K cl io W0 RT (evT Γ ic)))
    (he : ∀ (s : Shared) (H : Hp) (C : Addr) (k : List (Str × Addr)) (fp : List Addr), PE (X.blk s H scope (compEnvC scope k C X.env) fp) elt (tG X.K cl io W0 RV (evE Γ ie)))
    (hs : ∀ x, foldedSetIterable iter X.env x = pure x) (hpt : ∀ i ∈ ptS p, i ∈ ownN.map (·.2)) (hio : ∀ i ∈ ownN.map (·.2), i ∉ io) :
    PE X (.ListComp elt [⟨tg, iter, [cnd], 0⟩] scope pos) (tL X cl io W Γ (.lci (ownN.map (·.2)) it p ic ie)) := by
  refine PE.imp (pe_lc (g := gP X.K p) hc hN hi ok (fun s H C k fp => pg_pt (X := X.blk s H scope (compEnvC scope k C X.env) fp) (p := p) hc hN (hg s H C k fp)) (fun s H C k fp => pts_one (ht s H C k fp)) he hs) ?_
  intro σ H Q h
  refine lc_of (evc := evT Γ ic) (eve := evE Γ ie) hpt hio (fun _ _ _ h => h) σ H Q ?_
  obtain ⟨B, Hi0, pin, Hi, ρ, A, R, h⟩ := h
  refine ⟨B, Hi0, pin, Hi, ρ, A, R, ?_⟩
  unfold evL at h
  exact h
/-! trees -/
def RN : Par → Hp → Hp → (Nat → List Addr) → L2.St → V → List Cel → Prop := fun P Hi H A _ v cs => ∃ a vs as, v = .ref a ∧ H a = some (.lst vs) ∧ Cels P.K P.cl.fn Hi H vs cs as ∧ (a :: as).Nodup ∧ ∀ b ∈ a :: as, Hi b = none ∧ P.B b = none ∧ ∀ j, b ∉ A j
theorem Cels.snoc {K : PySem.W.Frag} {cf : Nat → Addr} {Hi H : Hp} {a : Addr} {xs : List V} {ds : List D} (h : H a = some (.lst xs)) (r : Reps K cf Hi xs ds) : ∀ {vs : List V} {cs : List Cel} {as : List Addr}, Cels K cf Hi H vs cs as → Cels K cf Hi H (vs ++ [.ref a]) (cs ++ [.l ds]) (as ++ [a])
  | _, _, _, .nil => .l h r .nil
  | _, _, _, .d q t => .d q (Cels.snoc h r t)
  | _, _, _, .l g q t => .l g q (Cels.snoc h r t)
def turnN (p : Pt) (evl : Env → Option (Out (List D))) (d : D) (ρ : Env) : Option (Out (List D)) := bindE p d ρ evl
theorem lcN_of {own : List Nat} {it : I} {p : Pt} {evl : Env → Option (Out (List D))} (hpt : ∀ i ∈ ptS p, i ∈ own) (hio : ∀ i ∈ own, i ∉ io)
    (σ : L2.St) (H : Hp) (Q : VK) (h : tG X.K cl io W RN (fun ρ => bnd (evI Γ it ρ) fun ds ρ => lcN own (turnN p evl) ds ρ) σ H Q) :
    tLc (tI X cl io W Γ it) (gP X.K p) tYes (tG X.K cl io W0 RL evl) own σ H Q := by
  obtain ⟨B, Hi0, pin, Hi, ρ, A, R, h⟩ := h
  refine ⟨B, Hi0, pin, Hi, ρ, A, R, h.bnd fun J Hi1 H1 ρ1 A1 ds e1 R1 r1 h1 => ?_⟩
  intro L hL
  unfold lcN at h1
  by_cases hc : (own.all fun i => !isOwn (ρ1.at i)) = true
  · rw [if_pos hc] at h1
    have hown : ∀ i ∈ own, isOwn (ρ1.at i) = false := fun i hi => by
      have z := List.all_eq_true.mp hc i hi
      cases q : isOwn (ρ1.at i) with
      | false => rfl
      | true => rw [q] at z; cases z
    cases q : lcT (turnN p evl) own ds [] (wipeE ρ1 own) with
    | none => rw [q] at h1; exact h1.elim
    | some r =>
      obtain ⟨accF, ρF⟩ := r
      rw [q] at h1
      have hHi1 : Hi1 L = none := fresh_back R1.i hL
      have hB1 : B L = none := fresh_back R1.b hL
      let Pv : Nat → Hp → Prop := fun i H' => ∃ Hi' ρ' A' acc vs as, Ex Hi1 Hi' ∧ RelA ⟨X.K, cl, B, Hi0, pin⟩ io Hi' H' (wipe σ own) ρ' A' ∧ H' L = some (.lst vs) ∧ Cels X.K cl Hi' H' vs acc as ∧ (L :: as).Nodup ∧
        (∀ b ∈ L :: as, Hi' b = none ∧ B b = none ∧ ∀ j, b ∉ A' j) ∧ lcT (turnN p evl) own (ds.drop i) acc ρ' = some (accF, ρF)
      refine lc_it (G := fun H => Ex Hi1 H) r1.w (vs := own) (σ := σ) Pv ?_ ?_ ?_ ?_
      · have R2 := R1.wipe hio
        obtain ⟨R3, p3, v3, hp3, hu3, hr3, hh3, hb3, ha3⟩ := newL_rel R2 hL (Reps.nil (K := X.K) (cl := cl))
        cases hp3
        refine ⟨Hi1, wipeE ρ1 own, Adrop A1 own, [], [], [], Ex.refl _, ?_, upd_same, .nil, List.nodup_cons.mpr ⟨List.not_mem_nil, List.nodup_nil⟩, fun b hb => by rw [List.mem_singleton.mp hb]; exact ⟨hh3, hB1, ha3⟩, q⟩
        cases hr3
        exact R3
      · rintro i H' hi ⟨Hi', ρ', A', acc, vs, as, e', R', hl', hr', hn', ha', hq'⟩
        exact e'.trans R'.i
      · rintro i x H2 H3 hi ⟨Hi2, ρ2, A2, acc, vs, as, e2, R2, hl2, hr2, hn2, ha2, hq2⟩ y
        obtain ⟨Hi3, d, e3, R3, hd, rd, keep, keep'⟩ := item_of R2 e2 y
        have there2 : ∀ b ∈ L :: as, ∃ xs, H2 b = some (.lst xs) := fun b hb => by
          rcases List.mem_cons.mp hb with z | z
          · rw [z]; exact ⟨vs, hl2⟩
          · exact hr2.there b z
        have same3 : ∀ b ∈ L :: as, H3 b = H2 b := fun b hb => keep b (by obtain ⟨xs, z⟩ := there2 b hb; rw [z]; exact fun w => nomatch w)
        have free3 : ∀ b ∈ L :: as, Hi3 b = none := fun b hb => keep' b (by obtain ⟨xs, z⟩ := there2 b hb; rw [z]; exact fun w => nomatch w) (ha2 b hb).1
        rw [drop_cons hd] at hq2
        have R3' := R3.prot (l := L :: as) free3 fun b hb => (ha2 b hb).2.2
        rcases bind_of (P := { K := X.K, cl := cl, B := frzH B H3 (L :: as), Hi0 := Hi0, pin := pin }) (p := p) R3' rd (fun i hi => hio i (hpt i hi)) evl with hb | ⟨ρ4, hb, hbind⟩
        · unfold lcT at hq2
          have e : turnN p evl d ρ2 = none := hb
          rw [e] at hq2
          cases hq2
        · have e : turnN p evl d ρ2 = evl ρ4 := hb
          unfold lcT at hq2
          rw [e] at hq2
          refine hbind _ fun σ4 A4 R4 hw => ?_
          have hww : wipe σ4 own = wipe σ own := by rw [hw own hpt, wipe_wipe]
          refine ⟨hww, ?_⟩
          unfold tYes
          dsimp only
          rw [if_pos (rfl : true = true)]
          cases he : evl ρ4 with
          | none => rw [he] at hq2; cases hq2
          | some o =>
            rw [he] at hq2
            cases o with
            | ex c w ρ5 => cases hq2
            | ok es ρ5 =>
              have hq2 : (if acc.length < sizeLine then lcT (turnN p evl) own (ds.drop (i + 1)) (acc ++ [.l es]) (wipeE ρ5 own) else none) = some (accF, ρF) := hq2
              by_cases hz : acc.length < sizeLine
              · rw [if_pos hz] at hq2
                refine ⟨_, _, _, _, _, _, R4, ?_⟩
                rw [he]
                intro v Hi5 H5 A5 e5 R5 rv
                obtain ⟨a, xs, rfl, ha5, hx5, hf5, hb5, hj5⟩ := rv
                obtain ⟨R7, k1, k2, k3⟩ := RelA.unprot (P := ⟨X.K, cl, B, Hi0, pin⟩) R5 (fun b hb => (ha2 b hb).2.1) (fun b hb => fresh_back R2.i0 (ha2 b hb).1)
                  (fun b hb => by obtain ⟨xs, z⟩ := there2 b hb; rw [same3 b hb, z]; exact fun w => nomatch w)
                have R8 := R7.wipe hio
                rw [hww] at R8
                have ne : ∀ b ∈ L :: as, b ≠ a := fun b hb z => by
                  have h9 : frzH B H3 (L :: as) a = none := hb5
                  unfold frzH at h9
                  rw [z] at hb
                  rw [if_pos hb] at h9
                  obtain ⟨xs, z2⟩ := there2 a hb
                  rw [same3 a hb, z2] at h9
                  cases h9
                have hBa : B a = none := by
                  have h9 : frzH B H3 (L :: as) a = none := hb5
                  unfold frzH at h9
                  by_cases z : a ∈ L :: as
                  · exact absurd rfl (ne a z)
                  · rw [if_neg z] at h9; exact h9
                have nA : ∀ b, (∀ j, b ∉ A5 j) → ∀ j, b ∉ Adrop A5 own j := fun b hb j => by
                  unfold Adrop
                  split
                  · exact List.not_mem_nil
                  · exact hb j
                have c1 : Cels X.K cl Hi5 H5 vs acc as := hr2.mono (e3.trans e5) fun b hb o ho => by
                  rw [k1 b (List.mem_cons_of_mem _ hb), same3 b (List.mem_cons_of_mem _ hb)]
                  exact ho
                have c2 : Cels X.K cl Hi5 (upd H5 L (.lst (vs ++ [.ref a]))) (vs ++ [.ref a]) (acc ++ [.l es]) (as ++ [a]) := (c1.snoc ha5 hx5).mono (Ex.refl _) fun b hb o ho => by
                  rw [upd_ne]
                  · exact ho
                  · intro z
                    rcases List.mem_append.mp hb with q | q
                    · exact (List.nodup_cons.mp hn2).1 (by rw [← z]; exact q)
                    · exact ne L List.mem_cons_self (by rw [← z]; exact List.mem_singleton.mp q)
                have hl5 : H5 L = some (.lst vs) := by rw [k1 L List.mem_cons_self, same3 L List.mem_cons_self]; exact hl2
                refine ⟨vs, hl5, by rw [hr2.len]; exact hz, Hi5, _, _, _, _, _, (e2.trans e3).trans e5, R8.updF (k2 L List.mem_cons_self) (ha2 L List.mem_cons_self).2.1 (nA L fun j => k3 L List.mem_cons_self j), upd_same, c2, ?_, ?_, hq2⟩
                · have h1 := List.nodup_cons.mp hn2
                  refine List.nodup_cons.mpr ⟨fun z => ?_, List.nodup_append.mpr ⟨h1.2, List.nodup_cons.mpr ⟨List.not_mem_nil, List.nodup_nil⟩, fun b hb c hc => ?_⟩⟩
                  · rcases List.mem_append.mp z with z | z
                    · exact h1.1 z
                    · exact ne L List.mem_cons_self (List.mem_singleton.mp z)
                  · rw [List.mem_singleton.mp hc]
                    exact ne b (List.mem_cons_of_mem _ hb)
                · intro b hb
                  have : b ∈ L :: as ∨ b = a := by
                    rcases List.mem_cons.mp hb with z | z
                    · exact .inl (by rw [z]; exact List.mem_cons_self)
                    · rcases List.mem_append.mp z with z | z
                      · exact .inl (List.mem_cons_of_mem _ z)
                      · exact .inr (List.mem_singleton.mp z)
                  rcases this with z | z
                  · exact ⟨k2 b z, (ha2 b z).2.1, nA b fun j => k3 b z j⟩
                  · rw [z]; exact ⟨hf5, hBa, nA a hj5⟩
              · rw [if_neg hz] at hq2
                cases hq2
      · rintro H' ⟨Hi', ρ', A', acc, vs, as, e', R', hl', hr', hn', ha', hq'⟩
        rw [List.drop_eq_nil_of_le (Nat.le_refl _)] at hq'
        unfold lcT at hq'
        cases hq'
        have R2 := RelA.unwipe R1 R' e' hio hown
        refine FinG.ok' h1 e' R2 ⟨L, vs, as, rfl, hl', hr', hn', fun b hb => ⟨(ha' b hb).1, (ha' b hb).2.1, fun j => ?_⟩⟩
        unfold Adrop
        split
        · exact List.not_mem_nil
        · exact (ha' b hb).2.2 j
  · rw [if_neg hc] at h1
    exact h1.elim
abbrev tN (X : Cx) (cl : Cl) (io : List Nat) (W : WX) (Γ : Gam) (n : NM) : TE := tG X.K cl io W RN (evN Γ n)
theorem snd_lcN {elt tg iter : Expr} {scope : Scope} {ownN : List (Str × Nat)} {pos : Pos} {it : I} {p : Pt} {il : L} (hc : X.calm = true) (hN : X.N.Nodup) (hi : PI X tg iter (tI X cl io W Γ it)) (ok : BlkOk X.N X.env.scope scope ownN)
    (hg : ∀ (s : Shared) (H : Hp) (C : Addr) (k : List (Str × Addr)) (fp : List Addr), PtOk (X.blk s H scope (compEnvC scope k C X.env) fp) io p tg)
    (he : ∀ (s : Shared) (H : Hp) (C : Addr) (k : List (Str × Addr)) (fp : List Addr), PE (X.blk s H scope (compEnvC scope k C X.env) fp) elt (tG X.K cl io W0 RL (evL Γ il)))
    (hs : ∀ x, foldedSetIterable iter X.env x = pure x) (hpt : ∀ i ∈ ptS p, i ∈ ownN.map (·.2)) (hio : ∀ i ∈ ownN.map (·.2), i ∉ io) :
    PE X (.ListComp elt [⟨tg, iter, [], 0⟩] scope pos) (tN X cl io W Γ (.lc (ownN.map (·.2)) it p il)) := by
  refine PE.imp (pe_lc (g := gP X.K p) hc hN hi ok (fun s H C k fp => pg_pt (X := X.blk s H scope (compEnvC scope k C X.env) fp) (p := p) hc hN (hg s H C k fp)) (fun s H C k fp => pts_nil) he hs) ?_
  intro σ H Q h
  refine lcN_of (evl := evL Γ il) hpt hio σ H Q ?_
  obtain ⟨B, Hi0, pin, Hi, ρ, A, R, h⟩ := h
  refine ⟨B, Hi0, pin, Hi, ρ, A, R, ?_⟩
  unfold evN at h
  exact h
end
end VI
set_option maxHeartbeats 2000000
/-! Soundness: views, built-ins of sequences, list makers. -/
namespace VI
open PySem L2 Evl RT RZ
theorem RepF.flat_of {K : PySem.W.Frag} {cl : Nat → Addr} {H H' : Hp} (k : ∀ d v, flat d = true → Rep K cl H v d → Rep K cl H' v d) : ∀ {fs : List (Str × V)} {w : List (Str × D)}, flats (w.map (·.2)) = true → RepF K cl H fs w → RepF K cl H' fs w
  | _, _, _, .nil => .nil
  | _, _, f, .cons r t => by
    rw [List.map_cons] at f
    unfold flats at f
    rw [Bool.and_eq_true] at f
    exact .cons (k _ _ f.1 r) (RepF.flat_of k f.2 t)
section
variable {X : Cx} {cl : Cl} {io : List Nat} {W : WX} {Γ : Gam} {a b c : Expr} {ia ib ic : E} {pos p : Pos}
theorem peekE_of {P : Par} {Hi H : Hp} {σ : L2.St} {ρ : Env} {A : Nat → List Addr} {Q : VK} (R : RelA P io Hi H σ ρ A) {m : Option (Out D)} (h : FinG P io W Hi σ RV Q (peekE m ρ)) : FinG P io W (viewH Hi H A) σ RV Q m := by
  cases m with
  | none => exact h
  | some o =>
    cases o with
    | ok d ρ' =>
      have h' : FinG P io W Hi σ RV Q (if flat d = true then some (.ok d ρ) else none) := h
      by_cases hc : flat d = true
      · rw [if_pos hc] at h'
        intro v Hi' H' A' e R' r
        obtain ⟨b1, b2, b3, b4, b5, b6⟩ := RelA.back R e R'
        exact h' v _ H' _ b1 b2 (b3 _ _ hc r)
      · rw [if_neg hc] at h'; exact h'.elim
    | ex c w ρ' =>
      have h' : FinG P io W Hi σ RV Q (if flats (w.map (·.2)) = true then some (.ex c w ρ) else none) := h
      by_cases hc : flats (w.map (·.2)) = true
      · rw [if_pos hc] at h'
        intro dx fs Hi' H' A' e R' hx hr
        obtain ⟨b1, b2, b3, b4, b5, b6⟩ := RelA.back R e R'
        exact h' dx fs _ H' _ b1 b2 (b6 dx fs hx) (RepF.flat_of b3 hc hr)
      · rw [if_neg hc] at h'; exact h'.elim
theorem snd_peek (ha : PE X a (tE X cl io W Γ ia)) : PE X a (tE X cl io W Γ (.peek ia)) := by
  refine PE.imp ha ?_
  rintro σ H Q ⟨B, Hi0, pin, Hi, ρ, A, R, h⟩
  unfold evE at h
  exact ⟨B, Hi0, pin, _, _, _, R.view.2, peekE_of R h⟩
theorem sndT_peek (ha : PT X a (tT X cl io W Γ ia)) : PT X a (tT X cl io W Γ (.peek ia)) := by
  refine PT.imp ha ?_
  rintro σ H Q ⟨B, Hi0, pin, Hi, ρ, A, R, h⟩
  refine ⟨B, Hi0, pin, _, _, _, R.view.2, ?_⟩
  unfold evT at h ⊢
  unfold evE at h
  cases q : evE Γ ia (ρ.map viewS) with
  | none => rw [q] at h; exact h
  | some o =>
    rw [q] at h
    cases o with
    | ok d ρ' =>
      have h' : FinG ⟨X.K, cl, B, Hi0, pin⟩ io W Hi σ RT Q (bnd (if flat d = true then some (.ok d ρ) else none) fun x ρ => ok1 (truthy x) ρ) := h
      by_cases hc : flat d = true
      · rw [if_pos hc] at h'
        obtain ⟨k, hk, h2⟩ := ok1_some (show FinG ⟨X.K, cl, B, Hi0, pin⟩ io W Hi σ RT Q (ok1 (truthy d) ρ) from h')
        show FinG _ _ _ _ _ RT Q (ok1 (truthy d) ρ')
        rw [hk]
        intro v Hi' H' A' e R' r
        obtain ⟨b1, b2, b3, b4, b5, b6⟩ := RelA.back R e R'
        exact h2 v _ H' _ b1 b2 r
      · rw [if_neg hc] at h'; exact h'.elim
    | ex c w ρ' =>
      have h' : FinG ⟨X.K, cl, B, Hi0, pin⟩ io W Hi σ RT Q (bnd (if flats (w.map (·.2)) = true then some (.ex c w ρ) else none) fun x ρ => ok1 (truthy x) ρ) := h
      by_cases hc : flats (w.map (·.2)) = true
      · rw [if_pos hc] at h'
        intro dx fs Hi' H' A' e R' hx hr
        obtain ⟨b1, b2, b3, b4, b5, b6⟩ := RelA.back R e R'
        exact h' dx fs _ H' _ b1 b2 (b6 dx fs hx) (RepF.flat_of b3 hc hr)
      · rw [if_neg hc] at h'; exact h'.elim
theorem snd_peekL {il : L} (ha : PE X a (tL X cl io W Γ il)) : PE X a (tL X cl io W Γ (.peek il)) := by
  refine PE.imp ha ?_
  rintro σ H Q ⟨B, Hi0, pin, Hi, ρ, A, R, h⟩
  unfold evL at h
  refine ⟨B, Hi0, pin, _, _, _, R.view.2, ?_⟩
  cases q : evL Γ il (ρ.map viewS) with
  | none => rw [q] at h; exact h
  | some o =>
    rw [q] at h
    cases o with
    | ok d ρ' =>
      have h' : FinG ⟨X.K, cl, B, Hi0, pin⟩ io W Hi σ RL Q (if flats d = true then some (.ok d ρ) else none) := h
      by_cases hc : flats d = true
      · rw [if_pos hc] at h'
        intro v Hi' H' A' e R' r
        obtain ⟨b1, b2, b3, b4, b5, b6⟩ := RelA.back R e R'
        obtain ⟨l, vs, rfl, r1, r2, r3, r4, r5⟩ := r
        exact h' _ _ H' _ b1 b2 ⟨l, vs, rfl, r1, b4 _ _ hc r2, (b5 l r3).1, r4, (b5 l r3).2⟩
      · rw [if_neg hc] at h'; exact h'.elim
    | ex c w ρ' =>
      have h' : FinG ⟨X.K, cl, B, Hi0, pin⟩ io W Hi σ RL Q (if flats (w.map (·.2)) = true then some (.ex c w ρ) else none) := h
      by_cases hc : flats (w.map (·.2)) = true
      · rw [if_pos hc] at h'
        intro dx fs Hi' H' A' e R' hx hr
        obtain ⟨b1, b2, b3, b4, b5, b6⟩ := RelA.back R e R'
        exact h' dx fs _ H' _ b1 b2 (b6 dx fs hx) (RepF.flat_of b3 hc hr)
      · rw [if_neg hc] at h'; exact h'.elim
/-! ### rows of numbers -/
theorem reps_ints {K : PySem.W.Frag} {cf : Nat → Addr} {Hi : Hp} : ∀ {vs : List V} {ds : List D} {ns : List Int}, Reps K cf Hi vs ds → allOf intOf ds = some ns → vs = ns.map V.int ∧ ds = ns.map D.int
  | _, _, _, .nil, h => by cases h; exact ⟨rfl, rfl⟩
  | _, _, ns, .cons (d := d) (ds := ds) r t, h => by
    unfold allOf at h
    cases q : intOf d with
    | none => rw [q] at h; cases h
    | some i =>
      rw [q] at h
      cases q2 : allOf intOf ds with
      | none => rw [q2] at h; cases h
      | some ms =>
        rw [q2] at h
        cases h
        obtain ⟨h1, h2⟩ := reps_ints t q2
        cases d with
        | int j => cases q; cases r; exact ⟨by rw [h1]; rfl, by rw [h2]; rfl⟩
        | _ => cases q
theorem reps_bls {K : PySem.W.Frag} {cf : Nat → Addr} {Hi : Hp} : ∀ {vs : List V} {ds : List D} {ns : List Bool}, Reps K cf Hi vs ds → allOf blOf ds = some ns → vs = ns.map V.bl
  | _, _, _, .nil, h => by cases h; rfl
  | _, _, ns, .cons (d := d) (ds := ds) r t, h => by
    unfold allOf at h
    cases q : blOf d with
    | none => rw [q] at h; cases h
    | some i =>
      rw [q] at h
      cases q2 : allOf blOf ds with
      | none => rw [q2] at h; cases h
      | some ms =>
        rw [q2] at h
        cases h
        have h1 := reps_bls t q2
        cases d with
        | bl j => cases q; cases r; rw [h1]; rfl
        | _ => cases q
theorem ints_reps {K : PySem.W.Frag} {cf : Nat → Addr} {Hi : Hp} : ∀ ns : List Int, Reps K cf Hi (ns.map V.int) (ns.map D.int)
  | [] => .nil
  | n :: r => .cons (.int n) (ints_reps r)
theorem foldMn (r : List Int) : ∀ a : Int, (r.foldl (fun m x => if x < m then x else m) a) ≤ a ∧ (∀ y ∈ r, (r.foldl (fun m x => if x < m then x else m) a) ≤ y) ∧ ((r.foldl (fun m x => if x < m then x else m) a) = a ∨ (r.foldl (fun m x => if x < m then x else m) a) ∈ r) := by
  induction r with
  | nil => intro a; exact ⟨Int.le_refl _, fun _ h => (nomatch h), .inl rfl⟩
  | cons x r ih =>
    intro a
    show (r.foldl _ (if x < a then x else a)) ≤ a ∧ _
    obtain ⟨h1, h2, h3⟩ := ih (if x < a then x else a)
    have hm : (if x < a then x else a) ≤ a ∧ (if x < a then x else a) ≤ x := by split <;> omega
    refine ⟨Int.le_trans h1 hm.1, fun y hy => ?_, ?_⟩
    · rcases List.mem_cons.mp hy with e | hy
      · subst e
        exact Int.le_trans h1 hm.2
      · exact h2 y hy
    · show (r.foldl _ (if x < a then x else a)) = a ∨ (r.foldl _ (if x < a then x else a)) ∈ x :: r
      rcases h3 with h3 | h3
      · rw [h3]
        split
        · exact .inr List.mem_cons_self
        · exact .inl rfl
      · exact .inr (List.mem_cons_of_mem _ h3)
theorem foldMx (r : List Int) : ∀ a : Int, a ≤ (r.foldl (fun m x => if m < x then x else m) a) ∧ (∀ y ∈ r, y ≤ (r.foldl (fun m x => if m < x then x else m) a)) ∧ ((r.foldl (fun m x => if m < x then x else m) a) = a ∨ (r.foldl (fun m x => if m < x then x else m) a) ∈ r) := by
  induction r with
  | nil => intro a; exact ⟨Int.le_refl _, fun _ h => (nomatch h), .inl rfl⟩
  | cons x r ih =>
    intro a
    show a ≤ (r.foldl _ (if a < x then x else a)) ∧ _
    obtain ⟨h1, h2, h3⟩ := ih (if a < x then x else a)
    have hm : a ≤ (if a < x then x else a) ∧ x ≤ (if a < x then x else a) := by split <;> omega
    refine ⟨Int.le_trans hm.1 h1, fun y hy => ?_, ?_⟩
    · rcases List.mem_cons.mp hy with e | hy
      · subst e
        exact Int.le_trans hm.2 h1
      · exact h2 y hy
    · show (r.foldl _ (if a < x then x else a)) = a ∨ (r.foldl _ (if a < x then x else a)) ∈ x :: r
      rcases h3 with h3 | h3
      · rw [h3]
        split
        · exact .inr List.mem_cons_self
        · exact .inl rfl
      · exact .inr (List.mem_cons_of_mem _ h3)
theorem mnI_eq {ns : List Int} {r m : Int} (h : mnI ns = some r) (h1 : m ∈ ns) (h2 : ∀ y ∈ ns, m ≤ y) : m = r := by
  cases ns with
  | nil => cases h
  | cons a ns =>
    have h := Option.some.inj h
    obtain ⟨k1, k2, k3⟩ := foldMn ns a
    rw [h] at k1 k2 k3
    have hr : r ∈ a :: ns := by
      rcases k3 with k3 | k3
      · rw [k3]; exact List.mem_cons_self
      · exact List.mem_cons_of_mem _ k3
    have z := h2 r hr
    rcases List.mem_cons.mp h1 with e | e
    · subst e; omega
    · have := k2 m e; omega
theorem mxI_eq {ns : List Int} {r m : Int} (h : mxI ns = some r) (h1 : m ∈ ns) (h2 : ∀ y ∈ ns, y ≤ m) : m = r := by
  cases ns with
  | nil => cases h
  | cons a ns =>
    have h := Option.some.inj h
    obtain ⟨k1, k2, k3⟩ := foldMx ns a
    rw [h] at k1 k2 k3
    have hr : r ∈ a :: ns := by
      rcases k3 with k3 | k3
      · rw [k3]; exact List.mem_cons_self
      · exact List.mem_cons_of_mem _ k3
    have z := h2 r hr
    rcases List.mem_cons.mp h1 with e | e
    · subst e; omega
    · have := k2 m e; omega
def U1.name : U1 → Str
  | .sum => "sum" | .any => "any" | .all => "all" | .mn => "min" | .mx => "max"
theorem snd_un {o : U1} (hc : X.calm = true) (hg : Gl X o.name) (hm : X.mg o.name = none) (hp : plainX a = true) (ha : PE X a (tE X cl io W Γ ia)) : PE X (.Call (.Name o.name p) [a] [] pos) (tE X cl io W Γ (.un o ia)) := by
  cases o with
  | sum =>
    refine PE.imp (pe_callB (cr_sum hc) hg hm (by decide +kernel) (pa_cons ha pa_nil (star_cons hp)) (he := star_cons hp) (hpl := rfl)) (one' (f := unD .sum) (fun P Hi H x dx d Q hK e rx hd q => ?_) fun ρ => by rw [evE])
    cases rx <;> try (cases hd; done)
    rename_i a' xs ds h1 h2
    have hd' : (allOf intOf ds).map (fun ns => D.int ns.sum) = some d := hd
    cases q1 : allOf intOf ds with
    | none => rw [q1] at hd'; cases hd'
    | some ns =>
      rw [q1] at hd'
      obtain ⟨e1, _⟩ := reps_ints h2 q1
      subst e1
      cases hd'
      exact ⟨a', ns, rfl, .inl (.inl (e _ _ h1)), q _ (.int _)⟩
  | any =>
    refine PE.imp (pe_callB (cr_any hc) hg hm (by decide +kernel) (pa_cons ha pa_nil (star_cons hp)) (he := star_cons hp) (hpl := rfl)) (one' (f := unD .any) (fun P Hi H x dx d Q hK e rx hd q => ?_) fun ρ => by rw [evE])
    cases rx <;> try (cases hd; done)
    rename_i a' xs ds h1 h2
    have hd' : (allOf blOf ds).map (fun ns => D.bl (ns.any id)) = some d := hd
    cases q1 : allOf blOf ds with
    | none => rw [q1] at hd'; cases hd'
    | some ns =>
      rw [q1] at hd'
      have e1 := reps_bls h2 q1
      subst e1
      cases hd'
      exact ⟨a', ns, rfl, .inl (.inl (e _ _ h1)), q _ (.bl _)⟩
  | all =>
    refine PE.imp (pe_callB (cr_all hc) hg hm (by decide +kernel) (pa_cons ha pa_nil (star_cons hp)) (he := star_cons hp) (hpl := rfl)) (one' (f := unD .all) (fun P Hi H x dx d Q hK e rx hd q => ?_) fun ρ => by rw [evE])
    cases rx <;> try (cases hd; done)
    rename_i a' xs ds h1 h2
    have hd' : (allOf blOf ds).map (fun ns => D.bl (ns.all id)) = some d := hd
    cases q1 : allOf blOf ds with
    | none => rw [q1] at hd'; cases hd'
    | some ns =>
      rw [q1] at hd'
      have e1 := reps_bls h2 q1
      subst e1
      cases hd'
      exact ⟨a', ns, rfl, .inl (.inl (e _ _ h1)), q _ (.bl _)⟩
  | mn =>
    refine PE.imp (pe_callB (cr_min hc) hg hm (by decide +kernel) (pa_cons ha pa_nil (star_cons hp)) (he := star_cons hp) (hpl := rfl)) (one' (f := unD .mn) (fun P Hi H x dx d Q hK e rx hd q => ?_) fun ρ => by rw [evE])
    cases rx <;> try (cases hd; done)
    rename_i a' xs ds h1 h2
    have hd' : (allOf intOf ds).bind (fun ns => (mnI ns).map D.int) = some d := hd
    cases q1 : allOf intOf ds with
    | none => rw [q1] at hd'; cases hd'
    | some ns =>
      rw [q1] at hd'
      obtain ⟨e1, _⟩ := reps_ints h2 q1
      subst e1
      have hd2 : (mnI ns).map D.int = some d := hd'
      cases q2 : mnI ns with
      | none => rw [q2] at hd2; cases hd2
      | some r =>
        rw [q2] at hd2
        cases hd2
        refine ⟨a', ns, rfl, .inl (.inl (e _ _ h1)), ?_, fun m k1 k2 => by rw [mnI_eq q2 k1 k2]; exact q _ (.int _)⟩
        cases ns with
        | nil => cases q2
        | cons _ _ => exact Nat.succ_pos _
  | mx =>
    refine PE.imp (pe_callB (cr_max hc) hg hm (by decide +kernel) (pa_cons ha pa_nil (star_cons hp)) (he := star_cons hp) (hpl := rfl)) (one' (f := unD .mx) (fun P Hi H x dx d Q hK e rx hd q => ?_) fun ρ => by rw [evE])
    cases rx <;> try (cases hd; done)
    rename_i a' xs ds h1 h2
    have hd' : (allOf intOf ds).bind (fun ns => (mxI ns).map D.int) = some d := hd
    cases q1 : allOf intOf ds with
    | none => rw [q1] at hd'; cases hd'
    | some ns =>
      rw [q1] at hd'
      obtain ⟨e1, _⟩ := reps_ints h2 q1
      subst e1
      have hd2 : (mxI ns).map D.int = some d := hd'
      cases q2 : mxI ns with
      | none => rw [q2] at hd2; cases hd2
      | some r =>
        rw [q2] at hd2
        cases hd2
        refine ⟨a', ns, rfl, .inl (.inl (e _ _ h1)), ?_, fun m k1 k2 => by rw [mxI_eq q2 k1 k2]; exact q _ (.int _)⟩
        cases ns with
        | nil => cases q2
        | cons _ _ => exact Nat.succ_pos _
end
end VI
set_option maxHeartbeats 2000000
/-! Soundness: sorted, + and * of lists, ranges as lists. -/
namespace VI
open PySem L2 Evl RT RZ
/-- values that stand for pairs of ints -/
inductive PairsAt (K : PySem.W.Frag) (H : Hp) : List V → List (Int × Int) → Prop
  | nil : PairsAt K H [] []
  | cons {t : Addr} {p : Int × Int} {xs : List V} {ps : List (Int × Int)} : SqT K H t [.int p.1, .int p.2] → PairsAt K H xs ps → PairsAt K H (.ref t :: xs) (p :: ps)
theorem PairsAt.get {K : PySem.W.Frag} {H : Hp} : ∀ {xs : List V} {ps : List (Int × Int)}, PairsAt K H xs ps → ∀ x ∈ xs, ∃ (t : Addr) (p : Int × Int), x = V.ref t ∧ SqT K H t [.int p.1, .int p.2]
  | _, _, .nil, _, h => nomatch h
  | _, _, .cons h t, x, q => by
    rcases List.mem_cons.mp q with e | q
    · exact ⟨_, _, e, h⟩
    · exact t.get x q
def unB : V → Value
  | .ref a => .ref a
  | _ => .none
def kOf (h : Heap) : Value → Int × Int
  | .ref t => (match h.get? t with
    | some o => (match o.data with
      | .seq arr _ => (match arr.toList with
        | [.int i _, .int j _] => (i, j)
        | _ => (0, 0))
      | _ => (0, 0))
    | none => (0, 0))
  | _ => (0, 0)
theorem kOf_at {X : Cx} {pins : List (Addr × Obj)} {σ : L2.St} {H : Hp} {s : Shared} (I : Inv X pins σ H s) {t : Addr} {i j : Int} (h : SqT X.K H t [.int i, .int j]) : kOf s.heap (.ref t) = (i, j) ∧ Srt.IsPair s.heap (.ref t) i j := by
  obtain ⟨its, r, ⟨o, ho, hc, n, hd⟩, _⟩ := I.tuple h
  obtain ⟨u1, u2, rfl, ri, rj⟩ := vals2 r
  obtain ⟨t1, rfl⟩ := ri
  obtain ⟨t2, rfl⟩ := rj
  refine ⟨?_, t, o, t1, t2, n, rfl, ho, hc, hd⟩
  unfold kOf
  dsimp only
  rw [ho]
  dsimp only
  rw [hd]
theorem lexLe {p q : Int × Int} : lePair p q = !SrtO.lexB q p := by
  unfold lePair SrtO.lexB
  obtain ⟨a, b⟩ := p
  obtain ⟨c, d⟩ := q
  dsimp only
  by_cases h1 : c = a
  · subst h1
    by_cases h2 : d < b
    · simp [h2, show ¬ b ≤ d by omega]
    · simp [h2, show b ≤ d by omega]
  · rw [if_neg h1]
    by_cases h2 : a < c
    · simp [h2, show ¬ c < a by omega]
    · have h3 : ¬ a = c := fun e => h1 e.symm
      simp [h2, h3, show c < a by omega]
theorem lePair_trans (a b c : Int × Int) (h1 : lePair a b = true) (h2 : lePair b c = true) : lePair a c = true := by
  unfold lePair at *
  simp only [Bool.or_eq_true, Bool.and_eq_true, decide_eq_true_eq] at *
  omega
theorem lePair_total (a b : Int × Int) : (lePair a b || lePair b a) = true := by
  unfold lePair
  simp only [Bool.or_eq_true, Bool.and_eq_true, decide_eq_true_eq]
  omega
theorem lePair_anti {a b : Int × Int} (h1 : lePair a b = true) (h2 : lePair b a = true) : a = b := by
  unfold lePair at *
  simp only [Bool.or_eq_true, Bool.and_eq_true, decide_eq_true_eq] at *
  exact Prod.ext (by omega) (by omega)
def rSortedPQ (K : PySem.W.Frag) : List V → Hp → VK → Prop := fun vs H Q => ∃ (a : Addr) (xs : List V) (ps : List (Int × Int)), vs = [V.ref a] ∧ SqL K H a xs ∧ PairsAt K H xs ps ∧
  ∀ ys p (k : V → Int × Int), H p = none → ps = xs.map k → ys.Perm xs → ys.map k = ps.mergeSort lePair → Q (.ref p) (upd H p (.lst ys))
theorem cr_sortedPQ {X : Cx} : CallR X (.builtin "sorted") (rSortedPQ X.K) := by
  intro pins s σ H vs us Q I r h
  obtain ⟨a, xs, ps, rfl, hs, hx, q⟩ := h
  obtain ⟨its, rv, hl, hz⟩ := I.list hs
  obtain ⟨u, rfl, ru⟩ := vals1 r
  obtain rfl : u = Value.ref a := ru
  obtain ⟨e1, e2⟩ := refs_back rv fun x m => by
    obtain ⟨t, p, e, _⟩ := hx.get x m
    exact ⟨t, e⟩
  have at_ : ∀ v ∈ its, ∃ t p, v = Value.ref t ∧ SqT X.K H t [.int p.1, .int p.2] ∧ kOf s.heap v = p := fun v hv => by
    obtain ⟨t, rfl⟩ := e2 v hv
    have hm : V.ref t ∈ xs := by rw [e1]; exact List.mem_map.mpr ⟨_, hv, rfl⟩
    obtain ⟨t', p, e, ht⟩ := hx.get _ hm
    cases e
    exact ⟨t, p, rfl, ht, (kOf_at I ht).1⟩
  have kps : ∀ {xs : List V} {ps : List (Int × Int)} {its : List Value}, PairsAt X.K H xs ps → xs = its.map backV → (∀ v ∈ its, ∃ t, v = Value.ref t) → its.map (kOf s.heap) = ps := by
    intro xs ps its h
    induction h generalizing its with
    | nil => intro e _; cases its with | nil => rfl | cons _ _ => cases e
    | cons g t ih =>
      intro e hr
      cases its with
      | nil => cases e
      | cons v its =>
        rw [List.map_cons] at e
        injection e with e3 e4
        obtain ⟨t', rfl⟩ := hr v List.mem_cons_self
        cases e3
        rw [List.map_cons, (kOf_at I g).1, ih e4 fun v hv => hr v (List.mem_cons_of_mem _ hv)]
  refine SrtO.sorted_pairsO (k := kOf s.heap) hl.isList (by rw [← rv.length]; exact hz) (fun v hv => ?_) fun h' d out h1 h2 kp hd hn => ?_
  · obtain ⟨t, p, rfl, ht, hk⟩ := at_ v hv
    rw [hk]
    exact (kOf_at I ht).2
  · have h3 : ∀ u ∈ out, ∃ a, u = Value.ref a := fun u hu => e2 u (h2.perm.mem_iff.mp hu)
    obtain ⟨n, hn⟩ := hn
    have hsort : out.map (kOf s.heap) = ps.mergeSort lePair := by
      refine List.Perm.eq_of_pairwise (le := fun a b => lePair a b = true) (fun a b _ _ => lePair_anti) ?_ (List.pairwise_mergeSort lePair_trans lePair_total _) ?_
      · refine List.pairwise_map.mpr (h1.imp fun {x y} h => ?_)
        rw [lexLe]
        have h : SrtO.lexB (kOf s.heap y) (kOf s.heap x) = false := h
        rw [h]
        rfl
      · have := h2.perm.map (kOf s.heap)
        rw [kps hx e1 e2] at this
        exact this.trans (List.mergeSort_perm _ _).symm
    refine ⟨.ref d, upd H d (.lst (out.map backV)), I.laid (t' := s.toks) kp hd ⟨?_, out, n, vals_back h3, hn⟩, rfl, q _ d (fun v => kOf s.heap (unB v)) (I.hok.fresh hd) ?_ (by rw [e1]; exact h2.perm.map backV) ?_⟩
    · rw [List.length_map, h2.perm.length_eq, ← rv.length]
      exact hz
    · rw [e1, List.map_map, ← kps hx e1 e2]
      exact (List.map_congr_left fun v hv => by obtain ⟨t, rfl⟩ := e2 v hv; rfl).symm
    · rw [← hsort, List.map_map]
      exact List.map_congr_left fun v hv => by obtain ⟨t, rfl⟩ := h3 v hv; rfl
theorem pairs_reps {K : PySem.W.Frag} {cf : Nat → Addr} {Hi : Hp} : ∀ {xs : List V} {ps : List (Int × Int)}, PairsAt K Hi xs ps → Reps K cf Hi xs (ps.map pairD)
  | _, _, .nil => .nil
  | _, _, .cons h t => .cons (.tup h (.cons (.int _) (.cons (.int _) .nil))) (pairs_reps t)
theorem reps_pairs {K : PySem.W.Frag} {cf : Nat → Addr} {Hi : Hp} : ∀ {xs : List V} {ds : List D} {ps : List (Int × Int)}, Reps K cf Hi xs ds → allOf pairOf ds = some ps → PairsAt K Hi xs ps
  | _, _, _, .nil, h => by cases h; exact .nil
  | _, _, _, .cons (d := d) (ds := ds) r t, h => by
    unfold allOf at h
    cases q : pairOf d with
    | none => rw [q] at h; cases h
    | some p =>
      rw [q] at h
      cases q2 : allOf pairOf ds with
      | none => rw [q2] at h; cases h
      | some ms =>
        rw [q2] at h
        cases h
        have h1 := reps_pairs t q2
        unfold pairOf at q
        split at q
        · cases q
          cases r with
          | tup g1 g2 =>
            cases g2 with
            | cons k1 k2 =>
              cases k2 with
              | cons k3 k4 =>
                cases k1; cases k3; cases k4
                exact .cons g1 h1
        · cases q
theorem PairsAt.perm {K : PySem.W.Frag} {Hi : Hp} {xs ys : List V} {k : V → Int × Int} (h : PairsAt K Hi xs (xs.map k)) (hp : ys.Perm xs) : PairsAt K Hi ys (ys.map k) := by
  have each : ∀ {xs : List V} {ps : List (Int × Int)}, PairsAt K Hi xs ps → ps = xs.map k → ∀ x ∈ xs, ∃ t, x = V.ref t ∧ SqT K Hi t [.int (k x).1, .int (k x).2] := by
    intro xs ps h
    induction h with
    | nil => intro _ x hx; cases hx
    | cons g t ih =>
      intro e x hx
      rw [List.map_cons] at e
      injection e with e1 e2
      rcases List.mem_cons.mp hx with q | q
      · subst q; rw [← e1]; exact ⟨_, rfl, g⟩
      · exact ih e2 x q
  have go : ∀ l : List V, (∀ x ∈ l, x ∈ xs) → PairsAt K Hi l (l.map k) := by
    intro l
    induction l with
    | nil => intro _; exact .nil
    | cons x l ih =>
      intro hl
      obtain ⟨t, e, g⟩ := each h rfl x (hl x List.mem_cons_self)
      rw [List.map_cons, e]
      rw [e] at g
      exact .cons g (ih fun y hy => hl y (List.mem_cons_of_mem _ hy))
  exact go ys fun x hx => hp.mem_iff.mp hx
theorem PairsAt.ex {K : PySem.W.Frag} {H Hi : Hp} (e : Ex Hi H) : ∀ {xs : List V} {ps : List (Int × Int)}, PairsAt K Hi xs ps → PairsAt K H xs ps
  | _, _, .nil => .nil
  | _, _, .cons h t => .cons (ex_t e h) (PairsAt.ex e t)
theorem allPairs_len {ds : List D} {ps : List (Int × Int)} (h : allOf pairOf ds = some ps) : True := trivial
section
variable {X : Cx} {cl : Cl} {io : List Nat} {W : WX} {Γ : Gam} {a b c : Expr} {ia ib ic : E} {pos p : Pos}
theorem mergeInts {ns ns' : List Int} (h1 : ns'.Perm ns) (h2 : ns'.Pairwise (· ≤ ·)) : ns' = ns.mergeSort fun a b => decide (a ≤ b) := by
  refine List.Perm.eq_of_pairwise (le := fun a b : Int => decide (a ≤ b) = true) (fun a b _ _ h3 h4 => ?_) (h2.imp fun {x y} h => decide_eq_true h) (List.pairwise_mergeSort (fun a b c h3 h4 => ?_) (fun a b => ?_) _) (h1.trans (List.mergeSort_perm _ _).symm)
  · have := of_decide_eq_true h3
    have := of_decide_eq_true h4
    omega
  · have := of_decide_eq_true h3
    have := of_decide_eq_true h4
    exact decide_eq_true (by omega)
  · simp only [Bool.or_eq_true, decide_eq_true_eq]
    omega
theorem snd_srt (hg : Gl X "sorted") (hm : X.mg "sorted" = none) (hp : plainX a = true) (ha : PE X a (tE X cl io W Γ ia)) : PE X (.Call (.Name "sorted" p) [a] [] pos) (tL X cl io W Γ (.srt ia)) := by
  refine PE.imp (pe_callB (CallR.or cr_sortedI cr_sortedPQ) hg hm (by decide +kernel) (pa_cons ha pa_nil (star_cons hp)) (he := star_cons hp) (hpl := rfl)) ?_
  rintro σ H Q ⟨B, Hi0, pin, Hi, ρ, A, R, h⟩
  refine ⟨B, Hi0, pin, Hi, ρ, A, R, ?_⟩
  unfold evL at h
  refine h.bnd fun v1 Hi1 H1 ρ1 A1 d1 e1 R1 r1 h1 => ?_
  obtain ⟨ds, hd, h2⟩ := ok1_some h1
  cases r1 <;> try (cases hd; done)
  rename_i a' xs es h3 h4
  have hd' : (match allOf intOf es with
    | some ns => some ((ns.mergeSort fun a b => decide (a ≤ b)).map D.int)
    | none => (allOf pairOf es).map fun ps => (ps.mergeSort lePair).map pairD) = some ds := hd
  cases q1 : allOf intOf es with
  | some ns =>
    rw [q1] at hd'
    cases hd'
    obtain ⟨rfl, rfl⟩ := reps_ints h4 q1
    refine .inl ⟨a', ns, rfl, .inl (.inl (R1.i _ _ h3)), fun ns' t k1 k2 ht => ?_⟩
    rw [← mergeInts k1 k2] at h2
    obtain ⟨R2, r2⟩ := newL_rel R1 ht (ints_reps (K := X.K) (cf := cl.fn) ns')
    exact h2.ok R2 r2
  | none =>
    rw [q1] at hd'
    cases q2 : allOf pairOf es with
    | none => rw [q2] at hd'; cases hd'
    | some ps =>
      rw [q2] at hd'
      cases hd'
      have h5 := reps_pairs h4 q2
      refine .inr ⟨a', xs, ps, rfl, .inl (.inl (R1.i _ _ h3)), h5.ex R1.i, fun ys t k ht k1 k2 k3 => ?_⟩
      rw [k1] at h5
      have h6 := h5.perm k2
      rw [k3] at h6
      obtain ⟨R2, r2⟩ := newL_rel R1 ht (pairs_reps (K := X.K) (cf := cl.fn) h6)
      exact h2.ok R2 r2
theorem snd_cat (ha : PE X a (tE X cl io W Γ ia)) (hb : PE X b (tE X cl io W Γ ib)) : PE X (.BinOp a .Add b pos) (tL X cl io W Γ (.cat ia ib)) := by
  refine PE.imp (pe_op op_cat ha hb) ?_
  rintro σ H Q ⟨B, Hi0, pin, Hi, ρ, A, R, h⟩
  refine ⟨B, Hi0, pin, Hi, ρ, A, R, ?_⟩
  unfold evL at h
  refine h.bnd fun v1 Hi1 H1 ρ1 A1 d1 e1 R1 r1 h1 => ⟨B, Hi0, pin, Hi1, ρ1, A1, R1, ?_⟩
  refine h1.bnd fun v2 Hi2 H2 ρ2 A2 d2 e2 R2 r2 h2 => ?_
  obtain ⟨ds, hd, h3⟩ := ok1_some h2
  cases r1 <;> cases r2 <;> try (cases hd; done)
  rename_i t1 xs es h4 h5 t2 ys fs h6 h7
  have hd' : (if es.length + fs.length ≤ sizeLine then some (es ++ fs) else none) = some ds := hd
  by_cases hc : es.length + fs.length ≤ sizeLine
  · rw [if_pos hc] at hd'
    cases hd'
    have h8 := h5.mono e2
    refine ⟨t1, t2, xs, ys, rfl, rfl, R2.i _ _ (e2 _ _ h4), R2.i _ _ h6, by rw [h8.len, h7.len]; exact hc, fun t ht => ?_⟩
    obtain ⟨R3, r3⟩ := newL_rel R2 ht (h8.append h7)
    exact h3.ok R3 r3
  · rw [if_neg hc] at hd'
    cases hd'
theorem snd_rep (ha : PE X a (tE X cl io W Γ ia)) (hb : PE X b (tE X cl io W Γ ib)) : PE X (.BinOp a .Mult b pos) (tL X cl io W Γ (.rep ia ib)) := by
  refine PE.imp (pe_op op_rep ha hb) ?_
  rintro σ H Q ⟨B, Hi0, pin, Hi, ρ, A, R, h⟩
  refine ⟨B, Hi0, pin, Hi, ρ, A, R, ?_⟩
  unfold evL at h
  refine h.bnd fun v1 Hi1 H1 ρ1 A1 d1 e1 R1 r1 h1 => ⟨B, Hi0, pin, Hi1, ρ1, A1, R1, ?_⟩
  refine h1.bnd fun v2 Hi2 H2 ρ2 A2 d2 e2 R2 r2 h2 => ?_
  obtain ⟨ds, hd, h3⟩ := ok1_some h2
  cases r1 <;> cases r2 <;> try (cases hd; done)
  rename_i t1 xs es h4 h5 k
  have hd' : (if -(2 ^ 63) ≤ k ∧ k < 2 ^ 63 ∧ es.length * k.toNat ≤ sizeLine then some (List.replicate k.toNat es).flatten else none) = some ds := hd
  by_cases hc : -(2 ^ 63) ≤ k ∧ k < 2 ^ 63 ∧ es.length * k.toNat ≤ sizeLine
  · rw [if_pos hc] at hd'
    cases hd'
    have h8 := h5.mono e2
    refine ⟨t1, k, xs, rfl, rfl, R2.i _ _ (e2 _ _ h4), hc.1, hc.2.1, by rw [h8.len]; exact hc.2.2, fun t ht => ?_⟩
    obtain ⟨R3, r3⟩ := newL_rel R2 ht (h8.rep k.toNat)
    exact h3.ok R3 r3
  · rw [if_neg hc] at hd'
    cases hd'
theorem rgV_eq {K : PySem.W.Frag} {cf : Nat → Addr} {Hi : Hp} (i j : Int) : Reps K cf Hi (rgV i j) (rngD i 1 (j - i).toNat) := by
  have e : rgV i j = ((List.range (j - i).toNat).map fun (k : Nat) => i + (k : Int) * 1).map V.int := by
    unfold rgV
    rw [List.map_map]
    exact List.map_congr_left fun k _ => by simp
  have e2 : rngD i 1 (j - i).toNat = ((List.range (j - i).toNat).map fun (k : Nat) => i + (k : Int) * 1).map D.int := by
    unfold rngD
    rw [List.map_map]
    rfl
  rw [e, e2]
  exact ints_reps _
theorem rgLine {i j : Int} {ds : List D} (h : lineD (some (rngD i 1 (j - i).toNat)) = some ds) : ds = rngD i 1 (j - i).toNat ∧ (j - i).toNat ≤ 2 ^ 24 := by
  have h' : (if (rngD i 1 (j - i).toNat).length ≤ 2 ^ 24 then some (rngD i 1 (j - i).toNat) else none) = some ds := h
  have hl : (rngD i 1 (j - i).toNat).length = (j - i).toNat := by unfold rngD; rw [List.length_map, List.length_range]
  rw [hl] at h'
  by_cases hc : (j - i).toNat ≤ 2 ^ 24
  · rw [if_pos hc] at h'
    exact ⟨(Option.some.inj h').symm, hc⟩
  · rw [if_neg hc] at h'
    cases h'
theorem snd_rng1 {p2 pos2 : Pos} (hc : X.calm = true) (hg : Gl X "list") (hm : X.mg "list" = none) (hg2 : Gl X "range") (hm2 : X.mg "range" = none) (hp : plainX a = true) (ha : PE X a (tE X cl io W Γ ia)) :
    PE X (.Call (.Name "list" p) [.Call (.Name "range" p2) [a] [] pos2] [] pos) (tL X cl io W Γ (.rng1 ia)) := by
  refine PE.imp (pe_listRg hc hg hm (prg_1 hg2 hm2 ha (star_cons hp))) ?_
  rintro σ H Q ⟨B, Hi0, pin, Hi, ρ, A, R, h⟩
  refine ⟨B, Hi0, pin, Hi, ρ, A, R, ?_⟩
  unfold evL at h
  refine h.bnd fun v1 Hi1 H1 ρ1 A1 d1 e1 R1 r1 h1 => ?_
  obtain ⟨ds, hd, h2⟩ := ok1_some h1
  cases r1 <;> try (cases hd; done)
  rename_i j
  have hd0 : lineD (if okR j = true then some (rngD 0 1 j.toNat) else none) = some ds := hd
  by_cases hcc : okR j = true
  · rw [if_pos hcc] at hd0
    have hd' : lineD (some (rngD 0 1 (j - 0).toNat)) = some ds := by rw [Int.sub_zero]; exact hd0
    obtain ⟨rfl, hz⟩ := rgLine hd'
    refine ⟨j, rfl, ⟨by decide, by decide, (okR_of hcc).1, (okR_of hcc).2, hz⟩, fun t ht => ?_⟩
    obtain ⟨R2, r2⟩ := newL_rel R1 ht (rgV_eq (K := X.K) (cf := cl.fn) 0 j)
    exact h2.ok R2 r2
  · rw [if_neg hcc] at hd0
    cases hd0
theorem snd_rng2 {p2 pos2 : Pos} (hc : X.calm = true) (hg : Gl X "list") (hm : X.mg "list" = none) (hg2 : Gl X "range") (hm2 : X.mg "range" = none) (hp : plainX a = true) (hp' : plainX b = true) (ha : PE X a (tE X cl io W Γ ia)) (hb : PE X b (tE X cl io W Γ ib)) :
    PE X (.Call (.Name "list" p) [.Call (.Name "range" p2) [a, b] [] pos2] [] pos) (tL X cl io W Γ (.rng2 ia ib)) := by
  refine PE.imp (pe_listRg hc hg hm (prg_2 hg2 hm2 ha hb (star_cons hp) (star_cons hp') (star_any (by rw [List.all_cons, hp']; rfl)))) ?_
  rintro σ H Q ⟨B, Hi0, pin, Hi, ρ, A, R, h⟩
  refine ⟨B, Hi0, pin, Hi, ρ, A, R, ?_⟩
  unfold evL at h
  refine h.bnd fun v1 Hi1 H1 ρ1 A1 d1 e1 R1 r1 h1 => ⟨B, Hi0, pin, Hi1, ρ1, A1, R1, ?_⟩
  refine h1.bnd fun v2 Hi2 H2 ρ2 A2 d2 e2 R2 r2 h2 => ?_
  obtain ⟨ds, hd, h3⟩ := ok1_some h2
  cases r1 <;> cases r2 <;> try (cases hd; done)
  rename_i i j
  have hd0 : lineD (if okR i = true ∧ okR j = true then some (rngD i 1 (j - i).toNat) else none) = some ds := hd
  by_cases hcc : okR i = true ∧ okR j = true
  · rw [if_pos hcc] at hd0
    obtain ⟨rfl, hz⟩ := rgLine hd0
    refine ⟨i, j, rfl, rfl, ⟨(okR_of hcc.1).1, (okR_of hcc.1).2, (okR_of hcc.2).1, (okR_of hcc.2).2, hz⟩, fun t ht => ?_⟩
    obtain ⟨R3, r3⟩ := newL_rel R2 ht (rgV_eq (K := X.K) (cf := cl.fn) i j)
    exact h3.ok R3 r3
  · rw [if_neg hcc] at hd0
    cases hd0
theorem cm_op : ∀ op : Cm, ∃ p : Int → Int → Bool, (∀ i j, cmpD op i j = p i j) ∧ OpR X (compareOp (cmA op)) (rI0 fun i j => .bl (p i j))
  | .lt => ⟨_, fun _ _ => rfl, op_lt⟩
  | .le => ⟨_, fun _ _ => rfl, op_le⟩
  | .gt => ⟨_, fun _ _ => rfl, op_gt⟩
  | .ge => ⟨_, fun _ _ => rfl, op_ge⟩
theorem marks2 (o1 o2 : Cm) (b c : Expr) : lastMarks [cmA o1, cmA o2] [b, c] = false := by cases o1 <;> cases o2 <;> exact nomark c
theorem chn_of {o1 o2 : Cm} {p1 p2 : Int → Int → Bool} (hp1 : ∀ i j, cmpD o1 i j = p1 i j) (hp2 : ∀ i j, cmpD o2 i j = p2 i j) (σ : L2.St) (H : Hp) (Q : VK) (h : tE X cl io W Γ (.chn o1 o2 ia ib ic) σ H Q) :
    tChain (rI0 fun i j => .bl (p1 i j)) (rI0 fun i j => .bl (p2 i j)) (tE X cl io W Γ ia) (tE X cl io W Γ ib) (tE X cl io W Γ ic) σ H Q := by
  obtain ⟨B, Hi0, pin, Hi, ρ, A, R, h⟩ := h
  refine ⟨B, Hi0, pin, Hi, ρ, A, R, ?_⟩
  unfold evE at h
  refine h.bnd fun v1 Hi1 H1 ρ1 A1 d1 e1 R1 r1 h1 => ⟨B, Hi0, pin, Hi1, ρ1, A1, R1, ?_⟩
  refine h1.bnd fun v2 Hi2 H2 ρ2 A2 d2 e2 R2 r2 h2 => ?_
  have h2 : FinG ⟨X.K, cl, B, Hi0, pin⟩ io W Hi2 σ RV Q (match cmpDD o1 d1 d2 with
    | some (.bl true) => bnd (evE Γ ic ρ2) fun z ρ => ok1 (cmpDD o2 d2 z) ρ
    | some (.bl false) => some (.ok (.bl false) ρ2)
    | _ => none) := h2
  revert h2
  cases r1 <;> cases r2 <;> intro h2 <;> try (exact h2.elim)
  rename_i i j _
  refine ⟨i, j, rfl, rfl, p1 i j, rfl, ?_⟩
  rw [← hp1]
  have ec : cmpDD o1 (.int i) (.int j) = some (.bl (cmpD o1 i j)) := rfl
  rw [ec] at h2
  cases q : cmpD o1 i j with
  | false =>
    rw [q] at h2
    exact h2.ok R2 (.bl _)
  | true =>
    rw [q] at h2
    refine ⟨B, Hi0, pin, Hi2, ρ2, A2, R2, ?_⟩
    refine FinG.bnd h2 fun v3 Hi3 H3 ρ3 A3 d3 e3 R3 r3 h3 => ?_
    obtain ⟨d, hd, h4⟩ := ok1_some h3
    cases r3 <;> try (cases hd; done)
    rename_i k
    cases hd
    refine ⟨j, k, rfl, rfl, ?_⟩
    show Q (.bl (p2 j k)) H3
    rw [← hp2]
    exact h4.ok R3 (.bl _)
theorem snd_chn {o1 o2 : Cm} (ha : PE X a (tE X cl io W Γ ia)) (hb : PE X b (tE X cl io W Γ ib)) (hc : PE X c (tE X cl io W Γ ic)) : PE X (.Compare a [cmA o1, cmA o2] [b, c] pos) (tE X cl io W Γ (.chn o1 o2 ia ib ic)) := by
  obtain ⟨p1, hp1, k1⟩ := cm_op (X := X) o1
  obtain ⟨p2, hp2, k2⟩ := cm_op (X := X) o2
  exact PE.imp (pe_chain k1 k2 ha hb hc (marks2 o1 o2 b c)) (chn_of hp1 hp2)
/-- a test that is a bool's value, from the value's reading -/
theorem tst_bl {e : E} (hb : ∀ ρ d ρ', evE Γ e ρ = some (.ok d ρ') → ∃ k, d = .bl k) (σ : L2.St) (H : Hp) (Q : Bool → Hp → Prop) (h : tT X cl io W Γ e σ H Q) : tE X cl io W Γ e σ H fun x H' => ∃ k, x = .bl k ∧ Q k H' := by
  obtain ⟨B, Hi0, pin, Hi, ρ, A, R, h⟩ := h
  refine ⟨B, Hi0, pin, Hi, ρ, A, R, ?_⟩
  unfold evT at h
  cases q : evE Γ e ρ with
  | none => rw [q] at h; exact h
  | some o =>
    rw [q] at h
    cases o with
    | ex c w ρ' => exact h
    | ok d ρ' =>
      obtain ⟨k, rfl⟩ := hb _ _ _ q
      have h : FinG ⟨X.K, cl, B, Hi0, pin⟩ io W Hi σ RT Q (some (.ok k ρ')) := h
      intro v Hi' H' A' e R' r
      cases r
      exact ⟨k, rfl, h k Hi' H' A' e R' rfl⟩
theorem sndT_chn {o1 o2 : Cm} (ha : PE X a (tE X cl io W Γ ia)) (hb : PE X b (tE X cl io W Γ ib)) (hc : PE X c (tE X cl io W Γ ic)) : PT X (.Compare a [cmA o1, cmA o2] [b, c] pos) (tT X cl io W Γ (.chn o1 o2 ia ib ic)) := by
  obtain ⟨p1, hp1, k1⟩ := cm_op (X := X) o1
  obtain ⟨p2, hp2, k2⟩ := cm_op (X := X) o2
  refine PT.imp (pt_chain k1 k2 ha hb hc (marks2 o1 o2 b c)) fun σ H Q h => chn_of hp1 hp2 σ H _ (tst_bl (fun ρ d ρ' q => ?_) σ H Q h)
  unfold evE at q
  cases q1 : evE Γ ia ρ with
  | none => rw [q1] at q; cases q
  | some o1' =>
    rw [q1] at q
    cases o1' with
    | ex c w r => cases q
    | ok x r1 =>
      cases q2 : evE Γ ib r1 with
      | none => rw [show bnd (some (Out.ok x r1)) _ = _ from rfl] at q; dsimp only [VI.bnd] at q; rw [q2] at q; cases q
      | some o2' =>
        dsimp only [VI.bnd] at q
        rw [q2] at q
        cases o2' with
        | ex c w r => cases q
        | ok y r2 =>
          dsimp only at q
          cases q3 : cmpDD o1 x y with
          | none => rw [q3] at q; cases q
          | some z =>
            rw [q3] at q
            cases z with
            | bl k =>
              cases k with
              | false => cases q; exact ⟨false, rfl⟩
              | true =>
                dsimp only at q
                cases q4 : evE Γ ic r2 with
                | none => rw [q4] at q; cases q
                | some o3 =>
                  rw [q4] at q
                  cases o3 with
                  | ex c w r => cases q
                  | ok w r3 =>
                    dsimp only at q
                    cases y <;> cases w <;> cases q <;> exact ⟨_, rfl⟩
            | _ => cases q
end
end VI
set_option maxHeartbeats 2000000
/-! Soundness: own classes: fields, methods, properties, new instances. -/
namespace VI
open PySem L2 Evl RT RZ
theorem repF_get {K : PySem.W.Frag} {cf : Nat → Addr} {Hi : Hp} {f : Str} {d : D} : ∀ {fs : List (Str × V)} {w : List (Str × D)}, RepF K cf Hi fs w → w.lookup f = some d → ∃ v, fs.lookup f = some v ∧ Rep K cf Hi v d
  | _, _, .nil, h => by cases h
  | _, _, .cons (n := n) (v := v) (vs := vs) (d := d') (ds := ds) r t, h => by
    by_cases e : f == n
    · rw [List.lookup_cons, e] at h
      cases h
      exact ⟨v, by rw [List.lookup_cons, e], r⟩
    · have e' : (f == n) = false := by cases q : (f == n) with | true => exact absurd q e | false => rfl
      rw [List.lookup_cons, e'] at h
      obtain ⟨u, h1, h2⟩ := repF_get t h
      exact ⟨u, by rw [List.lookup_cons, e']; exact h1, h2⟩
theorem repF_none {K : PySem.W.Frag} {cf : Nat → Addr} {Hi : Hp} {f : Str} : ∀ {fs : List (Str × V)} {w : List (Str × D)}, RepF K cf Hi fs w → w.lookup f = none → fs.lookup f = none
  | _, _, .nil, h => rfl
  | _, _, .cons (n := n) (v := v) (vs := vs) (d := d') (ds := ds) r t, h => by
    by_cases e : f == n
    · rw [List.lookup_cons, e] at h
      cases h
    · have e' : (f == n) = false := by cases q : (f == n) with | true => exact absurd q e | false => rfl
      rw [List.lookup_cons, e'] at h ⊢
      exact repF_none t h
section
variable {X : Cx} {cl : Cl} {io io' : List Nat} {W : WX} {Γ : Gam} {a b c e o : Expr} {es : List Expr} {ia ib ic ie : E} {pos p apos : Pos} {C g : Addr} {m : Str} {k : Nat} {fd : FuncData} {ps ks : List Str} {sp : Sp} {EX : L2.St → XK} {CX : CXT}
theorem snd_fld {f : Str} {cs : List Nat} (ha : PE X a (tE X cl io W Γ ia)) (hb : attributeBase a f X.env (eval a X.env) = eval a X.env) (hc : ∀ c ∈ cs, Cls X.K (cl.fn c) ∧ NoAttr X.K (cl.fn c) f) : PE X (.Attribute a f pos) (tE X cl io W Γ (.fld ia f cs)) := by
  refine PE.imp (pe_fld ha hb) ?_
  rintro σ H Q ⟨B, Hi0, pin, Hi, ρ, A, R, h⟩
  refine ⟨B, Hi0, pin, Hi, ρ, A, R, ?_⟩
  unfold evE at h
  refine h.bnd fun v1 Hi1 H1 ρ1 A1 d1 e1 R1 r1 h1 => ?_
  obtain ⟨d, hd, h2⟩ := ok1_some h1
  cases r1 with
  | @ins a' c dx fs gs h3 h4 =>
    have hd' : (if c ∈ cs then gs.lookup f else none) = some d := hd
    by_cases hcc : c ∈ cs
    · rw [if_pos hcc] at hd'
      obtain ⟨v, h5, h6⟩ := repF_get h4 hd'
      exact ⟨a', _, dx, fs, v, rfl, R1.i _ _ h3, (hc c hcc).1, (hc c hcc).2, h5, h2.ok R1 h6⟩
    · rw [if_neg hcc] at hd'
      cases hd'
  | _ => cases hd
/-! a method's call, what it raises told at the caller's slots -/
theorem mcall_form (h : ((backTo pos (starEach es X.env)).all (fun x => !x.1) && (backToKw pos (keywordEach [] X.env)).all (fun x => x.1.isSome) && decide (es.length + ([] : List Keyword).length + (if ([] : List Keyword).isEmpty then 0 else 1) < 30)) = true)
    (hbase : attributeBase o m X.env (eval o X.env) = eval o X.env) (hl : (apos.endLine == pos.line) = true) :
    eval (.Call (.Attribute o m apos) es [] pos) X.env = (do
      let ov ← eval o X.env
      standAt apos.atName
      let (f, first) ← holding [ov] (getMethod ov m (do return (← importBound o X.env).getD true))
      callWith pos f first (backTo pos (starEach es X.env)) (backToKw pos (keywordEach [] X.env))) := by
  rw [arm_eval_Call, hbase]
  have hf : methodCallForm (es.length + ([] : List Keyword).length) (backTo pos (starEach es X.env)) (backToKw pos (keywordEach [] X.env)) = true := by
    unfold methodCallForm
    have e : (backToKw pos (keywordEach [] X.env)).isEmpty = ([] : List Keyword).isEmpty := rfl
    rw [e]
    exact h
  have hp : methodCallPos true o X.env apos pos = pure pos := by
    unfold methodCallPos
    rw [hl]
    rfl
  unfold methodCall
  rw [hf, hp]
  rfl
theorem pe_methQ (he : PE X o (tE X cl io W Γ ia)) (c : Cls X.K C) (hm : Meth X.K C m g) (F : FnOk X.prog X.w X.K X.mg X.base CX k g fd ps sp) (hr : Room k X.A) (hb : Binds X.K fd ps []) (hx : ∀ σ, PassesAt CX X σ (EX σ)) {t : TA} (ha : PA X (e :: es) t)
    (hst : starEach (e :: es) X.env = (false, eval e X.env) :: starEach es X.env) (hpl : (backTo pos (starEach es X.env)).any (·.1) = false)
    (hf : ((backTo pos (starEach (e :: es) X.env)).all (fun x => !x.1) && (backToKw pos (keywordEach [] X.env)).all (fun x => x.1.isSome) && decide ((e :: es).length + ([] : List Keyword).length + (if ([] : List Keyword).isEmpty then 0 else 1) < 30)) = true)
    (hbase : attributeBase o m X.env (eval o X.env) = eval o X.env) (hl : (apos.endLine == pos.line) = true) :
    PE X (.Call (.Attribute o m apos) (e :: es) [] pos) (fun σ H Q => tE X cl io W Γ ia σ H fun x H1 => ∃ a dx fs, x = .ref a ∧ H1 a = some (.ins C dx fs) ∧ fs.lookup m = none ∧ t σ H1 fun vs H2 => sp (x :: vs) H2 Q (EX σ)) := by
  refine ⟨fun pins s σ H Q I h => ?_⟩
  refine PySem.W.methodCall_KW (pl := (do return (← importBound o X.env).getD true)) (thn (he.run pins s σ H _ I h) fun u s1 ⟨x, H1, I1, rx, a, dx, fs, ex, ea, l, q⟩ => ?_) (mcall_form hf hbase hl)
  subst ex
  obtain rfl : u = Value.ref a := rx
  refine getmeth_ok I1 ea c hm l ?_
  refine PySem.W.callWith_K (first := [.ref a]) (h₀ := X.base) I.ok.mod.kin hm.kp (thn (ha.run pos pins s1 σ H1 _ I1 q) fun us s2 ⟨vs, H2, I2, r, q2⟩ => ⟨I2.kIn, ?_⟩) hst hpl
  exact run_fnS (us := .ref a :: us) (vs := .ref a :: vs) F hr hb (hx σ) I2 (.cons rfl r) q2
theorem pe_methQ0 (he : PE X o (tE X cl io W Γ ia)) (c : Cls X.K C) (hm : Meth X.K C m g) (F : FnOk X.prog X.w X.K X.mg X.base CX k g fd ps sp) (hr : Room k X.A) (hb : Binds X.K fd ps []) (hx : ∀ σ, PassesAt CX X σ (EX σ))
    (hbase : attributeBase o m X.env (eval o X.env) = eval o X.env) (hl : (apos.endLine == pos.line) = true) :
    PE X (.Call (.Attribute o m apos) [] [] pos) (fun σ H Q => tE X cl io W Γ ia σ H fun x H1 => ∃ a dx fs, x = .ref a ∧ H1 a = some (.ins C dx fs) ∧ fs.lookup m = none ∧ sp [x] H1 Q (EX σ)) := by
  refine ⟨fun pins s σ H Q I h => ?_⟩
  refine PySem.W.methodCall_KW (pl := (do return (← importBound o X.env).getD true)) (thn (he.run pins s σ H _ I h) fun u s1 ⟨x, H1, I1, rx, a, dx, fs, ex, ea, l, q⟩ => ?_) (mcall_form rfl hbase hl)
  subst ex
  obtain rfl : u = Value.ref a := rx
  refine getmeth_ok I1 ea c hm l ?_
  exact PySem.W.callWith_K0 (first := [.ref a]) I1.kIn hm.kp (run_fnS (us := [.ref a]) (vs := [.ref a]) F hr hb (hx σ) I1 (.cons rfl .nil) q)
/-! a new instance, what its __init__ raises told at the caller's slots -/
theorem run_makeQ {n : Nat} {E : XK} {gg : List Value → List Value → List Value} {gV : List V → List V → List V} {pins : List (Addr × Obj)} {σ : L2.St} {H : Hp} {s : Shared} {Q : VK} {us ws : List Value} {vs zs : List V} (M : Mk X.K C g) (F : FnOk X.prog X.w X.K X.mg X.base CX k g fd ps sp) (hr : Room (k + 1) X.A) (hb : KBn X.K fd ps (n + 1) ks gg gV) (hx : PassesAt CX X σ E)
    (I : Inv X pins σ H s) (r : Vals vs us) (rz : Vals zs ws) (l1 : vs.length = n) (l2 : zs.length = ks.length)
    (h : ∀ x dx, H x = none → H dx = none → dx ≠ x → sp (gV (.ref x :: vs) zs) (upd (upd H dx (.own x)) x (.ins C dx [])) (fun v H2 => v = .non ∧ Q (.ref x) H2) E) :
    wpAny (model X.prog X.w) X.A (call (.ref C) us (ks.zip ws)) (EP X pins σ Q) X.xe s := by
  have hq := h (s.heap.objs.size + 1) s.heap.objs.size (I.hok.fresh (Nat.le_succ _)) (I.hok.fresh (Nat.le_refl _)) (Nat.ne_of_lt (Nat.lt_succ_self _))
  have I2 := Inv.made (C := C) I
  have r1 : Vals (V.ref (s.heap.objs.size + 1) :: vs) (Value.ref (s.heap.objs.size + 1) :: us) := .cons rfl r
  have r2 := hb.rel r1 rz
  have n1 : (Value.ref (s.heap.objs.size + 1) :: us).length = n + 1 := by
    rw [List.length_cons, ← r.length, l1]
  refine wpAny_call (make_map (f := g) I.kIn M.makes M.init (beq_iff_eq.mp M.fn) (codeAny_mono (F.run _ X.stack _ _ ⟨Value.ref (s.heap.objs.size + 1) :: us, ks.zip ws⟩ (gg (Value.ref (s.heap.objs.size + 1) :: us) ws) _ _ E (hr.make C us (ks.zip ws))
    (I2.env0.make C us (ks.zip ws)) (hb.to _ (Value.ref (s.heap.objs.size + 1) :: us) ws I2.kIn n1 (rz.length.symm.trans l2)) r2 hq) fun r s' hq' => ?_))
  cases r with
  | error e => exact hx pins _ _ e s' I2 hq'
  | ok fl =>
    cases fl with
    | ret u =>
      obtain ⟨v, H', I3, rv, ev, q3⟩ := I2.after hq'
      subst ev
      exact ⟨rv, ⟨V.ref (s.heap.objs.size + 1), H', I3, rfl, q3⟩⟩
    | next => exact False.elim hq'
    | brk => exact False.elim hq'
    | cont => exact False.elim hq'
def tMakeQ (C : Addr) (n m : Nat) (sp : Sp) (gV : List V → List V → List V) (EX : L2.St → XK) (t tk : TA) : TE := fun σ H Q => t σ H fun vs H1 => tk σ H1 fun zs H2 => vs.length = n ∧ zs.length = m ∧ ∀ x dx, H2 x = none → H2 dx = none → dx ≠ x →
  sp (gV (.ref x :: vs) zs) (upd (upd H2 dx (.own x)) x (.ins C dx [])) (fun v H3 => v = .non ∧ Q (.ref x) H3) (EX σ)
theorem pe_makeQ {n : Nat} {x : Str} {kws : List Keyword} {t tk : TA} {gg : List Value → List Value → List Value} {gV : List V → List V → List V} (M : Mk X.K C g) (F : FnOk X.prog X.w X.K X.mg X.base CX k g fd ps sp) (hr : Room (k + 1) X.A) (hg : Gl X x) (hm : X.mg x = some (.ref C)) (hb : KBn X.K fd ps (n + 1) ks gg gV) (hx : ∀ σ, PassesAt CX X σ (EX σ)) (ha : PA X (e :: es) t) (hkw : PK X kws tk)
    (hall : (backToKw pos (keywordEach kws X.env)).all (·.1.isSome) = true) (hks : (backToKw pos (keywordEach kws X.env)).filterMap (·.1) = ks) (hdb : (x == ("__debug__" : Str)) = false)
    (he : starEach (e :: es) X.env = (false, eval e X.env) :: starEach es X.env) (hpl : ((backTo pos (starEach (e :: es) X.env)).any (·.1) || (backToKw pos (keywordEach kws X.env)).any (·.1.isNone)) = false) :
    PE X (.Call (.Name x p) (e :: es) kws pos) (tMakeQ C n ks.length sp gV EX t tk) := by
  refine ⟨fun pins s σ H Q I h => ?_⟩
  refine wpAny_Call_Name_kw (ld_glob I hg hm ?_ hdb)
  refine PySem.W.callWith_KW (h₀ := X.base) I.ok.mod.kin M.kp hall (thn (ha.run pos pins s σ H _ I h) fun us s1 ⟨vs, H1, I1, r, q⟩ => ?_) hpl he
  refine thn (hkw.run pos pins s1 σ H1 _ I1 q) fun ws s2 ⟨zs, H2, I2, rz, l1, l2, q2⟩ => ⟨I2.kIn, ?_⟩
  rw [hks]
  exact run_makeQ M F hr hb (hx σ) I2 r rz l1 l2 q2
/-! ### the defs of a class -/
structure FnAt (X : Cx) (cl : Cl) (fa : Addr) (kw : List Str) (io' : List Nat) (np : Nat) (gg : List Slot → Option FOut) : Prop where
  has : ∃ (k : Nat) (fd : FuncData) (ps : List Str), FnOk X.prog X.w X.K X.mg X.base (L2.CX X.prog X.w) k fa fd ps (spF X.K cl.fn cl.sp io' np gg) ∧ Room (k + 1) X.A ∧ (∀ n, n + kw.length = np → KBn X.K fd ps n kw (· ++ ·) (· ++ ·)) ∧ (kw = [] → Binds X.K fd ps [])
  g : GamOk io' np gg
theorem few_all (h : es.all plainX = true) (hl : es.length < 30) : ((backTo pos (starEach es X.env)).all (fun x => !x.1) && (backToKw pos (keywordEach [] X.env)).all (fun x => x.1.isSome) && decide (es.length + ([] : List Keyword).length + (if ([] : List Keyword).isEmpty then 0 else 1) < 30)) = true := by
  have h1 : (backTo pos (starEach es X.env)).all (fun x => !x.1) = true := by
    rw [List.all_eq_true]
    intro x hx
    have h2 := star_any (pos := pos) (env := X.env) h
    cases q : x.1 with
    | false => rfl
    | true =>
      have h3 : (backTo pos (starEach es X.env)).any (·.1) = true := List.any_eq_true.mpr ⟨x, hx, q⟩
      rw [h2] at h3
      cases h3
  rw [h1]
  simp [keywordEach, backToKw]
  exact hl
theorem repA_cons {P : Par} {Hi : Hp} {σ : L2.St} {v : V} {d : D} {vs : List V} {avs : List AV} (r : Rep P.K P.cl Hi v d) (t : RepA P Hi σ vs avs) : RepA P Hi σ (v :: vs) (.v d :: avs) := .v r t
theorem insOf_some {m : Str} {d : D} {c : Nat} (h : insOf m d = some c) : ∃ gs, d = .ins c gs ∧ gs.lookup m = none := by
  cases d with
  | ins c' gs =>
    have h' : (if (gs.lookup m).isNone = true then some c' else none) = some c := h
    by_cases hc : (gs.lookup m).isNone = true
    · rw [if_pos hc] at h'
      cases h'
      exact ⟨gs, rfl, by cases q : gs.lookup m with | none => rfl | some _ => rw [q] at hc; cases hc⟩
    · rw [if_neg hc] at h'; cases h'
  | _ => cases h
theorem snd_meth {tb : List (Nat × Nat)} {ir : A} (tk : Takes X W) (he : PE X o (tE X cl io W Γ ie)) (ha : PA X es (tA X cl io W Γ ir)) (hp : es.all plainX = true) (hl30 : es.length < 30) (hnil : es = [] → ir = .nil)
    (hb : ∀ c f, tb.lookup c = some f → ∃ (fa : Addr) (io' : List Nat) (np : Nat), Cls X.K (cl.fn c) ∧ Meth X.K (cl.fn c) m fa ∧ FnAt X cl fa [] io' np (Γ f))
    (hbase : attributeBase o m X.env (eval o X.env) = eval o X.env) (hl : (apos.endLine == pos.line) = true) :
    PE X (.Call (.Attribute o m apos) es [] pos) (tE X cl io W Γ (.dis .meth m tb ie ir)) := by
  refine ⟨fun pins s σ H Q I h => ?_⟩
  obtain ⟨B, Hi0, pin, Hi, ρ, A, R, h⟩ := h
  unfold evE at h
  cases q : evE Γ ie ρ with
  | none => rw [q] at h; exact h.elim
  | some r =>
    rw [q] at h
    cases r with
    | ex c w ρ' => exact h.elim
    | ok d ρ1 =>
      have h : FinG ⟨X.K, cl, B, Hi0, pin⟩ io W Hi σ RV Q (match insOf m d with
        | some c => (match tb.lookup c with
          | some f => bnd (evA Γ ir ρ1) fun avs ρ => callE (Γ f) (.v d :: avs) ρ
          | none => none)
        | none => none) := h
      cases qc : insOf m d with
      | none => rw [qc] at h; exact h.elim
      | some c =>
        rw [qc] at h
        cases qf : tb.lookup c with
        | none => simp only [qf] at h; exact h.elim
        | some f =>
          simp only [qf] at h
          obtain ⟨gs, rfl, hno⟩ := insOf_some qc
          obtain ⟨fa, io', np, c1, c2, ⟨⟨k, fd, ps, F, hr, hk, hbi⟩, G⟩⟩ := hb c f qf
          have go : ∀ (t : TA), (∀ σ H Q, tA X cl io W Γ ir σ H Q → t σ H Q) → tE X cl io W Γ ie σ H fun x H1 => ∃ a dx fs, x = .ref a ∧ H1 a = some (.ins (cl.fn c) dx fs) ∧ fs.lookup m = none ∧ t σ H1 fun vs H2 => spF X.K cl.fn cl.sp io' np (Γ f) (x :: vs) H2 Q (WE W σ) := fun t ht => by
            refine ⟨B, Hi0, pin, Hi, ρ, A, R, ?_⟩
            rw [q]
            intro v Hi1 H1 A1 e1 R1 r1
            have h1 := FinG.mono e1 h
            cases r1 with
            | @ins a' c' dx fs gs' h3 h4 =>
              refine ⟨a', dx, fs, rfl, R1.i _ _ h3, repF_none h4 hno, ht _ _ _ ⟨B, Hi0, pin, Hi1, ρ1, A1, R1, h1.bnd fun vs Hi2 H2 ρ2 A2 avs e2 R2 r2 h2 => ?_⟩⟩
              exact call_sp G R2 (repA_cons (P := ⟨X.K, cl, B, Hi0, pin⟩) (.ins (e2 _ _ h3) (h4.mono e2)) r2) h2
          cases es with
          | nil =>
            have hir := hnil rfl
            subst hir
            refine (pe_methQ0 he c1 c2 F (hr.mono (Nat.le_succ _)) (hbi rfl) (fun σ => passAt tk σ) hbase hl).run pins s σ H Q I ?_
            refine go (fun σ H Q => Q [] H) fun σ H Q z => ?_
            obtain ⟨B, Hi0, pin, Hi, ρ, A, R, z⟩ := z
            unfold evA at z
            exact FinG.ok (v := []) z R RepA.nil
          | cons e es =>
            rw [List.all_cons, Bool.and_eq_true] at hp
            exact (pe_methQ he c1 c2 F (hr.mono (Nat.le_succ _)) (hbi rfl) (fun σ => passAt tk σ) ha (star_cons hp.1) (star_any hp.2) (few_all (by rw [List.all_cons, hp.1, hp.2]; rfl) hl30) hbase hl).run pins s σ H Q I (go _ fun _ _ _ z => z)
theorem takesW0' {Y : Cx} : Takes Y W0 := fun _ _ ⟨_, _, _, _, _, _, _, _, _, _, _, _, _, _, _, _, z⟩ => z.elim
theorem snd_prop {tb : List (Nat × Nat)} (he : PE X o (tE X cl io W Γ ie)) (hbase : attributeBase o m X.env (eval o X.env) = eval o X.env)
    (hb : ∀ c f, tb.lookup c = some f → ∃ (fp fa : Addr) (io' : List Nat) (np : Nat), Cls X.K (cl.fn c) ∧ PropOf X.K (cl.fn c) m fp fa ∧ FnAt X cl fa [] io' np (Γ f)) :
    PE X (.Attribute o m pos) (tE X cl io W Γ (.dis .prop m tb ie .nil)) := by
  refine ⟨fun pins s σ H Q I h => ?_⟩
  obtain ⟨B, Hi0, pin, Hi, ρ, A, R, h⟩ := h
  unfold evE at h
  cases q : evE Γ ie ρ with
  | none => rw [q] at h; exact h.elim
  | some r =>
    rw [q] at h
    cases r with
    | ex c w ρ' => exact h.elim
    | ok d ρ1 =>
      have h : FinG ⟨X.K, cl, B, Hi0, pin⟩ io W Hi σ RV Q (match insOf m d with
        | some c => (match tb.lookup c with
          | some f => bnd (evA Γ .nil ρ1) fun avs ρ => dkE .prop (callE (Γ f) (.v d :: avs) ρ)
          | none => none)
        | none => none) := h
      cases qc : insOf m d with
      | none => rw [qc] at h; exact h.elim
      | some c =>
        rw [qc] at h
        cases qf : tb.lookup c with
        | none => simp only [qf] at h; exact h.elim
        | some f =>
          simp only [qf] at h
          unfold evA at h
          have h : FinG ⟨X.K, cl, B, Hi0, pin⟩ io W Hi σ RV Q (dkE .prop (callE (Γ f) [.v d] ρ1)) := h
          have h0 : FinG ⟨X.K, cl, B, Hi0, pin⟩ io W0 Hi σ RV Q (callE (Γ f) [.v d] ρ1) := by
            cases q3 : callE (Γ f) [.v d] ρ1 with
            | none => rw [q3] at h; exact h
            | some r3 =>
              rw [q3] at h
              cases r3 with
              | ex c w ρ' => exact h.elim
              | ok d3 ρ3 => exact h
          obtain ⟨gs, rfl, hno⟩ := insOf_some qc
          obtain ⟨fp, fa, io', np, c1, c2, ⟨⟨k, fd, ps, F, hr, hk, hbi⟩, G⟩⟩ := hb c f qf
          refine (pe_prop he c1 c2 F hr (hbi rfl) .nil (E := WE W0 σ) (fun pins' σ' H' s' e s2 I' cx => ?_) hbase).run pins s σ H Q I ?_
          · exact passAt (X := X.nox) (W := W0) takesW0' σ' pins' H' s' e s2 I' cx
          · refine ⟨B, Hi0, pin, Hi, ρ, A, R, ?_⟩
            rw [q]
            intro v Hi1 H1 A1 e1 R1 r1
            have h1 := FinG.mono e1 h0
            cases r1 with
            | @ins a' c' dx fs gs' h3 h4 =>
              refine ⟨a', dx, fs, rfl, R1.i _ _ h3, ?_⟩
              exact call_sp G R1 (repA_cons (P := ⟨X.K, cl, B, Hi0, pin⟩) (.ins h3 h4) .nil) h1
/-! ### a new instance -/
section
variable {P : Par} {Hi Hi' H H' : Hp} {σ : L2.St} {ρ : Env} {A : Nat → List Addr} {vs : List V} {avs : List AV}
theorem at_snoc {ρ : Env} {s : Slot} (j : Nat) : Env.at (ρ ++ [s]) j = if j = ρ.length then s else ρ.at j := by
  by_cases h : j < ρ.length
  · rw [at_app_lt h, if_neg (by omega)]
  · by_cases e : j = ρ.length
    · subst e
      rw [if_pos rfl, at_app_last]
    · rw [if_neg e]
      unfold Env.at
      rw [List.getD_eq_getElem?_getD, List.getD_eq_getElem?_getD, List.getElem?_eq_none_iff.mpr (by rw [List.length_append]; show ρ.length + 1 ≤ j; omega), List.getElem?_eq_none_iff.mpr (by omega)]
theorem sAt_snoc {σ : L2.St} {v : V} (j : Nat) : sAt (σ ++ [some v]) j = if j = σ.length then some v else sAt σ j := by
  unfold sAt
  by_cases h : j < σ.length
  · rw [List.getElem?_append_left h, if_neg (by omega)]
  · by_cases e : j = σ.length
    · subst e
      rw [if_pos rfl, List.getElem?_append_right (Nat.le_refl _), Nat.sub_self]
      rfl
    · rw [if_neg e, List.getElem?_eq_none_iff.mpr (by rw [List.length_append]; show σ.length + 1 ≤ j; omega), List.getElem?_eq_none_iff.mpr (by omega)]
/-- one slot more: an instance without attributes -/
theorem RelA.pushO (R : RelA P io Hi H σ ρ A) {x dx : Addr} (hx : H x = none) (hdx : H dx = none) (hne : dx ≠ x) (c : Nat) :
    RelA P io Hi (upd (upd H dx (.own x)) x (.ins (P.cl.fn c) dx [])) (σ ++ [some (.ref x)]) (ρ ++ [.o c []]) (fun j => if j = ρ.length then [x] else A j) := by
  have hx2 : upd H dx (.own x) x = none := by rw [upd_ne (Ne.symm hne)]; exact hx
  have keep : ∀ a o, H a = some o → upd (upd H dx (.own x)) x (.ins (P.cl.fn c) dx []) a = some o := fun a o e => by
    rw [upd_ne (ne_of_none e hx), upd_ne (ne_of_none e hdx)]
    exact e
  refine ⟨fun a o e => keep a o (R.b a o e), fun a o e => keep a o (R.i a o e), R.i0, R.fr, by rw [List.length_append, List.length_append, R.len]; rfl, fun j => ?_, fun j a ha => ?_, fun j => ?_, fun i j hij a ha hb => ?_, fun p hp => ?_, R.xo⟩
  · rw [sAt_snoc, at_snoc, R.len]
    by_cases e : j = ρ.length
    · rw [if_pos e, if_pos e, if_pos e]
      exact ⟨x, dx, [], [], rfl, rfl, upd_same, .nil⟩
    · rw [if_neg e, if_neg e, if_neg e]
      exact (R.sl j).mono (Ex.refl _) fun a _ o ho => keep a o ho
  · by_cases e : j = ρ.length
    · rw [if_pos e] at ha
      rw [List.mem_singleton.mp ha]
      exact ⟨fresh_back R.i hx, fresh_back R.b hx⟩
    · rw [if_neg e] at ha; exact R.ow j a ha
  · by_cases e : j = ρ.length
    · rw [if_pos e]; exact List.nodup_cons.mpr ⟨List.not_mem_nil, List.nodup_nil⟩
    · rw [if_neg e]; exact R.nd j
  · by_cases e : i = ρ.length
    · rw [if_pos e] at ha
      rw [if_neg fun z => hij (e.trans z.symm), List.mem_singleton.mp ha] at hb
      exact R.notin hx j hb
    · rw [if_neg e] at ha
      by_cases e2 : j = ρ.length
      · rw [if_pos e2] at hb
        rw [List.mem_singleton.mp hb] at ha
        exact R.notin hx i ha
      · rw [if_neg e2] at hb; exact R.dj i j hij a ha hb
  · obtain ⟨h1, h2⟩ := R.pn p hp
    refine ⟨?_, h2⟩
    rw [sAt_snoc, if_neg]
    · exact h1
    · intro e
      unfold sAt at h1
      rw [List.getElem?_eq_none_iff.mpr (by omega)] at h1
      cases h1
/-- .. and one less -/
theorem RelA.popO {v : V} {s : Slot} {ρ0 : Env} {A0 : Nat → List Addr} {Hi0 H0 : Hp} (R0 : RelA P io Hi0 H0 σ ρ0 A0) (hl : ρ.length = ρ0.length) (R : RelA P io Hi H (σ ++ [some v]) (ρ ++ [s]) A) :
    RelA P io Hi H σ ρ (fun j => if j = ρ.length then [] else A j) where
  b := R.b
  i := R.i
  i0 := R.i0
  fr := R.fr
  len := by rw [R0.len, hl]
  sl := fun j => by
    have h := R.sl j
    rw [sAt_snoc, at_snoc, R0.len, ← hl] at h
    by_cases e : j = ρ.length
    · rw [if_pos e]
      have h1 : ρ.at j = .no := by
        unfold Env.at
        rw [List.getD_eq_getElem?_getD, List.getElem?_eq_none_iff.mpr (by omega)]
        rfl
      rw [h1]
      exact rfl
    · rw [if_neg e]
      rw [if_neg e, if_neg e] at h
      exact h
  ow := fun j a ha => by
    by_cases e : j = ρ.length
    · rw [if_pos e] at ha; cases ha
    · rw [if_neg e] at ha; exact R.ow j a ha
  nd := fun j => by
    by_cases e : j = ρ.length
    · rw [if_pos e]; exact List.nodup_nil
    · rw [if_neg e]; exact R.nd j
  dj := fun i j hij a ha hb => by
    by_cases e : i = ρ.length
    · rw [if_pos e] at ha; cases ha
    · rw [if_neg e] at ha
      by_cases e2 : j = ρ.length
      · rw [if_pos e2] at hb; cases hb
      · rw [if_neg e2] at hb; exact R.dj i j hij a ha hb
  pn := R0.pn
  xo := R0.xo
theorem RepA.snoc {x : V} : ∀ {vs : List V} {avs : List AV}, RepA P Hi σ vs avs → RepA P Hi (σ ++ [some x]) vs avs
  | _, _, .nil => .nil
  | _, _, .v r t => .v r (RepA.snoc t)
  | _, _, .io (i := i) r t => .io (by
      rw [sAt_snoc, if_neg]
      · exact r
      · intro e
        unfold sAt at r
        rw [List.getElem?_eq_none_iff.mpr (by omega)] at r
        cases r) (RepA.snoc t)
theorem RepA.app : ∀ {vs ws : List V} {avs bvs : List AV}, RepA P Hi σ vs avs → RepA P Hi σ ws bvs → RepA P Hi σ (vs ++ ws) (avs ++ bvs)
  | _, _, _, _, .nil, s => s
  | _, _, _, _, .v r t, s => .v r (RepA.app t s)
  | _, _, _, _, .io r t, s => .io r (RepA.app t s)
theorem slots_snoc {ρ : Env} {s : Slot} : ∀ {avs : List AV}, (∀ i ∈ iosOf avs, i < ρ.length) → slotsOf (ρ ++ [s]) avs = slotsOf ρ avs
  | [], _ => rfl
  | .v d :: r, h => by unfold slotsOf; rw [slots_snoc (avs := r) h]
  | .io i :: r, h => by
    unfold slotsOf
    rw [slots_snoc (avs := r) fun j hj => h j (List.mem_cons_of_mem _ hj), at_app_lt (h i List.mem_cons_self)]
theorem put_snoc {s : Slot} : ∀ {avs : List AV} {outs : List Slot} {ρ : Env}, (∀ i ∈ iosOf avs, i < ρ.length) → putBack (ρ ++ [s]) avs outs = putBack ρ avs outs ++ [s]
  | [], outs, ρ, _ => by unfold putBack; rfl
  | .v d :: r, [], ρ, h => by unfold putBack; rfl
  | .io i :: r, [], ρ, h => by unfold putBack; rfl
  | .v d :: r, _ :: o, ρ, h => by unfold putBack; exact put_snoc (avs := r) h
  | .io i :: r, u :: o, ρ, h => by
    unfold putBack
    rw [List.set_append_left _ _ (h i List.mem_cons_self)]
    exact put_snoc (avs := r) fun j hj => by rw [List.length_set]; exact h j (List.mem_cons_of_mem _ hj)
end
theorem ios_app : ∀ {avs bvs : List AV}, iosOf (avs ++ bvs) = iosOf avs ++ iosOf bvs
  | [], _ => rfl
  | .v d :: r, bvs => ios_app (avs := r)
  | .io i :: r, bvs => congrArg (i :: ·) (ios_app (avs := r))
/-- the call of __init__ -/
theorem mk_sp {K : PySem.W.Frag} {B Hi0 : Hp} {pin : List (Nat × Addr)} {Hi H : Hp} {σ : L2.St} {ρ : Env} {A : Nat → List Addr} {vs : List V} {avs : List AV} {np c : Nat} {gg : List Slot → Option FOut} (G : GamOk io' np gg) (R : RelA ⟨K, cl, B, Hi0, pin⟩ io Hi H σ ρ A) (r : RepA ⟨K, cl, B, Hi0, pin⟩ Hi σ vs avs) {Q : VK}
    (h : FinG ⟨K, cl, B, Hi0, pin⟩ io W Hi σ RV Q (mkE gg c avs ρ)) {x dx : Addr} (hx : H x = none) (hdx : H dx = none) (hne : dx ≠ x) :
    spF K cl.fn cl.sp io' np gg (.ref x :: vs) (upd (upd H dx (.own x)) x (.ins (cl.fn c) dx [])) (fun v H3 => v = .non ∧ Q (.ref x) H3) (WE W σ) := by
  unfold mkE at h
  by_cases hc : iosOk ρ avs = true
  · rw [if_pos hc] at h
    obtain ⟨nd, own⟩ := iosOk_of hc
    have lt : ∀ i ∈ iosOf avs, i < ρ.length := fun i hi => at_lt fun z => by
      have h := own i hi
      rw [z] at h
      cases h
    have R1 := R.pushO hx hdx hne c
    have r1 : RepA ⟨K, cl, B, Hi0, pin⟩ Hi (σ ++ [some (V.ref x)]) (.ref x :: vs) (.io ρ.length :: avs) := .io (by rw [sAt_snoc, R.len, if_pos rfl]) r.snoc
    have es : slotsOf (ρ ++ [.o c []]) (.io ρ.length :: avs) = .o c [] :: slotsOf ρ avs := by
      show Env.at (ρ ++ [.o c []]) ρ.length :: slotsOf (ρ ++ [.o c []]) avs = _
      rw [at_app_last, slots_snoc lt]
    have ei : iosOk (ρ ++ [.o c []]) (.io ρ.length :: avs) = true := by
      unfold iosOk
      rw [Bool.and_eq_true]
      refine ⟨decide_eq_true (List.nodup_cons.mpr ⟨fun hm => Nat.lt_irrefl _ (lt _ hm), nd⟩), List.all_eq_true.mpr fun i hi => ?_⟩
      rcases List.mem_cons.mp (show i ∈ ρ.length :: iosOf avs from hi) with e | e
      · rw [e, at_app_last]; rfl
      · rw [at_app_lt (lt i e)]; exact own i e
    have pb : ∀ (s0 : Slot) (outs : List Slot), putBack (ρ ++ [.o c []]) (.io ρ.length :: avs) (s0 :: outs) = putBack ρ avs outs ++ [s0] := fun s0 outs => by
      show putBack ((ρ ++ [Slot.o c []]).set ρ.length s0) avs outs = _
      rw [List.set_append_right _ _ (Nat.le_refl _), Nat.sub_self]
      exact put_snoc (s := s0) lt
    refine call_sp (W := fun cls d _ H => W cls d σ H) G R1 r1 ?_
    unfold callE
    rw [if_pos ei, es]
    cases q : gg (.o c [] :: slotsOf ρ avs) with
    | none => rw [q] at h; exact h.elim
    | some o =>
      rw [q] at h
      cases o with
      | ret s outs =>
        cases s with
        | v d =>
          cases d with
          | non =>
            cases outs with
            | nil => exact h.elim
            | cons s0 outs =>
              cases s0 with
              | o c' fs =>
                have h : FinG ⟨K, cl, B, Hi0, pin⟩ io W Hi σ RV Q (if c' = c then some (.ok (frzS (.o c fs)) (putBack ρ avs outs)) else none) := h
                by_cases hcc : c' = c
                · rw [if_pos hcc] at h
                  subst hcc
                  show FinG _ _ _ _ _ _ _ (some (.ok (frzS (.v .non)) (putBack (ρ ++ [.o c' []]) (.io ρ.length :: avs) (.o c' fs :: outs))))
                  rw [pb]
                  intro v Hi' H' A' e R' rv
                  cases rv
                  refine ⟨rfl, ?_⟩
                  obtain ⟨v, hv, e', Rf, rep⟩ := R'.frzG (i := ρ.length) (by
                    have := at_app_last (xs := putBack ρ avs outs) (s := .o c' fs)
                    rw [putBack_len] at this
                    rw [this]
                    rfl)
                  have ea : Env.at (putBack ρ avs outs ++ [.o c' fs]) ρ.length = .o c' fs := by
                    have := at_app_last (xs := putBack ρ avs outs) (s := .o c' fs)
                    rwa [putBack_len] at this
                  rw [ea] at Rf rep
                  rw [sAt_snoc, R.len, if_pos rfl] at hv
                  cases hv
                  rw [List.set_append_right _ _ (by rw [putBack_len]; exact Nat.le_refl _), putBack_len, Nat.sub_self] at Rf
                  exact h _ _ _ _ (e.trans e') (RelA.popO R (putBack_len _ _ _) Rf) rep
                · rw [if_neg hcc] at h
                  exact h.elim
              | _ => exact h.elim
          | _ => exact h.elim
        | _ => exact h.elim
      | ex c' w outs =>
        cases outs with
        | nil => exact h.elim
        | cons s0 outs =>
          show FinG _ _ _ _ _ _ _ (some (.ex c' w (putBack (ρ ++ [.o c []]) (.io ρ.length :: avs) (s0 :: outs))))
          rw [pb]
          intro d fs Hi' H' A' e R' hd hf
          exact h d fs Hi' H' _ e (RelA.popO R (putBack_len _ _ _) R') hd hf
  · rw [if_neg hc] at h
    exact h.elim
/-! keywords of a call -/
theorem PK.imp {kws : List Keyword} {t t' : TA} (h : PK X kws t) (k : ∀ σ H Q, t' σ H Q → t σ H Q) : PK X kws t' := ⟨fun po pins s σ H Q I q => h.run po pins s σ H Q I (k σ H Q q)⟩
theorem snd_knil : PK X [] (tA X cl io W Γ .nil) := by
  refine PK.imp pk_nil ?_
  rintro σ H Q ⟨B, Hi0, pin, Hi, ρ, A, R, h⟩
  unfold evA at h
  exact FinG.ok (v := []) h R RepA.nil
theorem snd_kcons {kws : List Keyword} {nm : Option Str} {kpos : Pos} {ir : A} (ha : PE X a (tE X cl io W Γ ia)) (hr : PK X kws (tA X cl io W Γ ir)) : PK X (⟨nm, a, kpos⟩ :: kws) (tA X cl io W Γ (.cons ia ir)) := by
  refine PK.imp (pk_cons ha hr) ?_
  rintro σ H Q ⟨B, Hi0, pin, Hi, ρ, A, R, h⟩
  refine ⟨B, Hi0, pin, Hi, ρ, A, R, ?_⟩
  unfold evA at h
  refine h.bnd fun v1 Hi1 H1 ρ1 A1 d1 e1 R1 r1 h1 => ?_
  refine ⟨B, Hi0, pin, Hi1, ρ1, A1, R1, h1.bnd fun vs Hi2 H2 ρ2 A2 avs e2 R2 r2 h2 => ?_⟩
  exact h2.ok R2 (.v (Rep.mono e2 _ _ r1) r2)
def kwNames : List Keyword → Option (List Str)
  | [] => some []
  | ⟨some k, _, _⟩ :: r => (kwNames r).map fun ks => k :: ks
  | ⟨none, _, _⟩ :: _ => none
theorem kw_facts {env : PySem.Env} : ∀ {kws : List Keyword} {ks : List Str}, kwNames kws = some ks → (backToKw pos (keywordEach kws env)).all (·.1.isSome) = true ∧ (backToKw pos (keywordEach kws env)).filterMap (·.1) = ks ∧ (backToKw pos (keywordEach kws env)).any (·.1.isNone) = false
  | [], ks, h => by cases h; exact ⟨rfl, rfl, rfl⟩
  | ⟨none, _, _⟩ :: _, ks, h => by cases h
  | ⟨some k, e, p⟩ :: r, ks, h => by
    have h' : (kwNames r).map (fun ks => k :: ks) = some ks := h
    cases q : kwNames r with
    | none => rw [q] at h'; cases h'
    | some ms =>
      rw [q] at h'
      cases h'
      obtain ⟨h1, h2, h3⟩ := kw_facts (env := env) q
      have e1 : backToKw pos (keywordEach (⟨some k, e, p⟩ :: r) env) = (some k, do let v ← eval e env; standAt pos; pure v) :: backToKw pos (keywordEach r env) := rfl
      rw [e1]
      refine ⟨?_, ?_, ?_⟩
      · rw [List.all_cons, h1]; rfl
      · rw [List.filterMap_cons]; rw [h2]
      · rw [List.any_cons, h3]; rfl
theorem snd_mk {c f : Nat} {x : Str} {kws : List Keyword} {ir ik : A} {np : Nat} (tk : Takes X W) (M : Mk X.K (cl.fn c) g) (F : FnAt X cl g ks io' np (Γ f)) (hg : Gl X x) (hm : X.mg x = some (.ref (cl.fn c))) (hdb : (x == ("__debug__" : Str)) = false) (hn : ks.length + 1 ≤ np)
    (hp : (a :: es).all plainX = true) (hks : kwNames kws = some ks) (ha : PA X (a :: es) (tA X cl io W Γ ir)) (hkw : PK X kws (tA X cl io W Γ ik)) :
    PE X (.Call (.Name x p) (a :: es) kws pos) (tE X cl io W Γ (.mk c f ir ks ik)) := by
  obtain ⟨⟨k, fd, ps, F1, hr, hk, _⟩, G⟩ := F
  obtain ⟨k1, k2, k3⟩ := kw_facts (pos := pos) (env := X.env) hks
  have hp0 := hp
  rw [List.all_cons, Bool.and_eq_true] at hp
  obtain ⟨n, hn1⟩ : ∃ n, np = n + 1 + ks.length := ⟨np - 1 - ks.length, by omega⟩
  refine PE.imp (pe_makeQ (n := n) M F1 hr hg hm (hk (n + 1) (by omega)) (fun σ => passAt tk σ) ha hkw k1 k2 hdb (star_cons hp.1) (by rw [star_any hp0, k3]; rfl)) ?_
  rintro σ H Q ⟨B, Hi0, pin, Hi, ρ, A, R, h⟩
  refine ⟨B, Hi0, pin, Hi, ρ, A, R, ?_⟩
  unfold evE at h
  refine h.bnd fun vs Hi1 H1 ρ1 A1 avs e1 R1 r1 h1 => ⟨B, Hi0, pin, Hi1, ρ1, A1, R1, ?_⟩
  refine h1.bnd fun zs Hi2 H2 ρ2 A2 kvs e2 R2 r2 h2 => ?_
  have h2 : FinG ⟨X.K, cl, B, Hi0, pin⟩ io W Hi2 σ RV Q (if kvs.length = ks.length then mkE (Γ f) c (avs ++ kvs) ρ2 else none) := h2
  by_cases hc : kvs.length = ks.length
  · rw [if_pos hc] at h2
    have rr := (r1.mono e2).app r2
    -- the number of arguments
    have hlen : (.o c [] :: slotsOf ρ2 (avs ++ kvs)).length = np := by
      refine G.len _ fun z => ?_
      unfold mkE at h2
      by_cases hi : iosOk ρ2 (avs ++ kvs) = true
      · rw [if_pos hi, z] at h2; exact h2.elim
      · rw [if_neg hi] at h2; exact h2.elim
    rw [List.length_cons, slotsOf_len, List.length_append] at hlen
    refine ⟨by rw [r1.len]; omega, by rw [r2.len]; exact hc, fun x' dx hx hdx hne => ?_⟩
    exact mk_sp G R2 rr h2 hx hdx hne
  · rw [if_neg hc] at h2
    exact h2.elim
end
end VI
set_option maxHeartbeats 2000000
/-! Soundness, fourth part: statements. -/
namespace VI
open PySem L2 Evl RT RZ
def RetOk (P : Par) (io : List Nat) (Hi : Hp) (σ : L2.St) (ρ : Env) (v : V) : Slot → Prop
  | .no => False
  | .v d => Rep P.K P.cl Hi v d
  | s => ∃ i, i ∉ io ∧ ρ.at i = s ∧ sAt σ i = some v
def FinS (P : Par) (io : List Nat) (W : WX) (D : Ends) (Hi : Hp) : Option SOut → Prop
  | none => False
  | some (.nx ρ) => ∀ σ Hi' H' A, Ex Hi Hi' → RelA P io Hi' H' σ ρ A → D.nx σ H'
  | some (.bk ρ) => ∀ σ Hi' H' A, Ex Hi Hi' → RelA P io Hi' H' σ ρ A → D.bk σ H'
  | some (.ct ρ) => ∀ σ Hi' H' A, Ex Hi Hi' → RelA P io Hi' H' σ ρ A → D.ct σ H'
  | some (.ret r ρ) => ∀ v σ Hi' H' A, Ex Hi Hi' → RelA P io Hi' H' σ ρ A → RetOk P io Hi' σ ρ v r → D.rt v H'
  | some (.ex c w ρ) => ∀ dx fs σ Hi' H' A, Ex Hi Hi' → RelA P io Hi' H' σ ρ A → Hi' dx = some (.xd fs) → RepF P.K P.cl Hi' fs w → W (.ref (P.cl.fn c)) (some dx) σ H'
section
variable {α β : Type} {P : Par} {io : List Nat} {W : WX} {D : Ends} {Hi Hi' : Hp} {σ : L2.St} {R : Par → Hp → Hp → (Nat → List Addr) → L2.St → β → α → Prop}
theorem FinS.mono (e : Ex Hi Hi') : ∀ {o : Option SOut}, FinS P io W D Hi o → FinS P io W D Hi' o
  | none, h => h
  | some (.nx _), h => fun σ H1 H2 A e1 => h σ H1 H2 A (e.trans e1)
  | some (.bk _), h => fun σ H1 H2 A e1 => h σ H1 H2 A (e.trans e1)
  | some (.ct _), h => fun σ H1 H2 A e1 => h σ H1 H2 A (e.trans e1)
  | some (.ret _ _), h => fun v σ H1 H2 A e1 => h v σ H1 H2 A (e.trans e1)
  | some (.ex _ _ _), h => fun v fs σ H1 H2 A e1 => h v fs σ H1 H2 A (e.trans e1)
theorem FinS.sbnd {Q1 : β → Hp → Prop} {m : Option (Out α)} {f : α → Env → Option SOut} (h : FinS P io W D Hi (sbnd m f))
    (k : ∀ v Hi' H' ρ' A d, Ex Hi Hi' → RelA P io Hi' H' σ ρ' A → R P Hi' H' A σ v d → FinS P io W D Hi' (f d ρ') → Q1 v H') : FinG P io W Hi σ R Q1 m := by
  cases m with
  | none => exact h
  | some o =>
    cases o with
    | ok d ρ => exact fun v H1 H2 A e r1 r2 => k v H1 H2 ρ A d e r1 r2 (FinS.mono e h)
    | ex c w ρ => exact fun dx fs H1 H2 A e r1 r2 r3 => h dx fs σ H1 H2 A e r1 r2 r3
/-- the same outcome under other ends -/
theorem FinS.ends {D' : Ends} (h1 : ∀ σ H, D.nx σ H → D'.nx σ H) (h2 : ∀ v H, D.rt v H → D'.rt v H) (h3 : ∀ σ H, D.bk σ H → D'.bk σ H) (h4 : ∀ σ H, D.ct σ H → D'.ct σ H) : ∀ {o : Option SOut}, FinS P io W D Hi o → FinS P io W D' Hi o
  | none, h => h
  | some (.nx _), h => fun σ H1 H2 A e1 r => h1 _ _ (h σ H1 H2 A e1 r)
  | some (.bk _), h => fun σ H1 H2 A e1 r => h3 _ _ (h σ H1 H2 A e1 r)
  | some (.ct _), h => fun σ H1 H2 A e1 r => h4 _ _ (h σ H1 H2 A e1 r)
  | some (.ret _ _), h => fun v σ H1 H2 A e1 r q => h2 _ _ (h v σ H1 H2 A e1 r q)
  | some (.ex _ _ _), h => h
end
def tSt (K : PySem.W.Frag) (cl : Cl) (io : List Nat) (W : WX) (ev : Env → Option SOut) : TS :=
  fun D σ H => ∃ B Hi0 pin Hi ρ A, RelA ⟨K, cl, B, Hi0, pin⟩ io Hi H σ ρ A ∧ FinS ⟨K, cl, B, Hi0, pin⟩ io W D Hi (ev ρ)
section
variable {X : Cx} {cl : Cl} {io : List Nat} {W : WX} {Γ : Gam} {fu : Nat} {a b c : Expr} {ia ib ic : E} {pos p : Pos} {st : Stmt} {rest sb sc : List Stmt} {s1 s2 : S} {x : Str} {i : Nat}
abbrev tS (X : Cx) (cl : Cl) (io : List Nat) (W : WX) (Γ : Gam) (fu : Nat) (s : S) : TS := tSt X.K cl io W (evS Γ fu s)
theorem snds_nil : PSs X [] (tS X cl io W Γ fu .nil) := by
  refine PSs.imp pss_nil ?_
  rintro D σ H ⟨B, Hi0, pin, Hi, ρ, A, R, h⟩
  exact h σ Hi H A (Ex.refl _) R
theorem snds_seq (h1 : PS X st (tS X cl io W Γ fu s1)) (h2 : PSs X rest (tS X cl io W Γ fu s2)) : PSs X (st :: rest) (tS X cl io W Γ fu (.seq s1 s2)) := by
  refine PSs.imp (pss_cons h1 h2) ?_
  rintro D σ H ⟨B, Hi0, pin, Hi, ρ, A, R, h⟩
  refine ⟨B, Hi0, pin, Hi, ρ, A, R, ?_⟩
  rw [evS] at h
  cases q : evS Γ fu s1 ρ with
  | none => rw [q] at h; exact h
  | some o =>
    rw [q] at h
    cases o with
    | nx ρ1 => exact fun σ' Hi' H' A' e R' => ⟨B, Hi0, pin, Hi', ρ1, A', R', FinS.mono e h⟩
    | bk ρ1 => exact h
    | ct ρ1 => exact h
    | ret r ρ1 => exact h
    | ex c w ρ1 => exact h
theorem snd_pass : PS X (.Pass pos) (tS X cl io W Γ fu .pass) := by
  refine PS.imp ps_pass ?_
  rintro D σ H ⟨B, Hi0, pin, Hi, ρ, A, R, h⟩
  exact h σ Hi H A (Ex.refl _) R
theorem snd_brk : PS X (.Break pos) (tS X cl io W Γ fu .brk) := by
  refine PS.imp ps_break ?_
  rintro D σ H ⟨B, Hi0, pin, Hi, ρ, A, R, h⟩
  exact h σ Hi H A (Ex.refl _) R
theorem snd_cnt : PS X (.Continue pos) (tS X cl io W Γ fu .cnt) := by
  refine PS.imp ps_continue ?_
  rintro D σ H ⟨B, Hi0, pin, Hi, ρ, A, R, h⟩
  exact h σ Hi H A (Ex.refl _) R
theorem snd_nev : PS X st (tS X cl io W Γ fu .nev) := by
  refine PS.imp ps_never ?_
  rintro D σ H ⟨B, Hi0, pin, Hi, ρ, A, R, h⟩
  exact h
def noSlice : Expr → Bool
  | .Slice _ _ _ _ => false
  | _ => true
/-- a slot is stored -/
theorem setS_of {P : Par} {D : Ends} {Hi H : Hp} {σ : L2.St} {ρ : Env} {A : Nat → List Addr} {v : V} {d : VI.D} (hn : i ∉ io) (R : RelA P io Hi H σ ρ A) (r : Rep P.K P.cl Hi v d) (h : FinS P io W D Hi (setS ρ i (.v d))) : D.nx (σ.set i (some v)) H := by
  unfold setS at h
  by_cases hc : i < ρ.length
  · rw [if_pos hc] at h
    obtain ⟨A', R'⟩ := Rel.setV ⟨A, R⟩ (by rw [R.len]; exact hc) hn r
    exact h _ Hi H A' (Ex.refl _) R'
  · rw [if_neg hc] at h
    exact h.elim
theorem bindS_of {P : Par} {D : Ends} {Hi H : Hp} {σ : L2.St} {ρ : Env} {A : Nat → List Addr} {v : V} {d : VI.D} {f : Env → Option SOut} (hn : i ∉ io) (R : RelA P io Hi H σ ρ A) (r : Rep P.K P.cl Hi v d) (h : FinS P io W D Hi (bindS ρ i (.v d) f)) :
    ∃ A', RelA P io Hi H (σ.set i (some v)) (ρ.set i (.v d)) A' ∧ FinS P io W D Hi (f (ρ.set i (.v d))) := by
  unfold bindS at h
  by_cases hc : i < ρ.length
  · rw [if_pos hc] at h
    obtain ⟨A', R'⟩ := Rel.setV ⟨A, R⟩ (by rw [R.len]; exact hc) hn r
    exact ⟨A', R', h⟩
  · rw [if_neg hc] at h
    exact h.elim
theorem snd_asg (hN : X.N.Nodup) (hi : X.N[i]? = some x) (hx : Loc X.env.scope x) (hf : X.fn x = true) (hn : i ∉ io) (hs : swapsWith a (some (.Name x p)) pos.line X.env = pure false) (ha : PE X a (tE X cl io W Γ ia)) :
    PS X (.Assign [.Name x p] a pos) (tS X cl io W Γ fu (.asg i ia)) := by
  refine PS.imp (ps_set hN hi hx ha hs (.inl hf)) ?_
  rintro D σ H ⟨B, Hi0, pin, Hi, ρ, A, R, h⟩
  refine ⟨B, Hi0, pin, Hi, ρ, A, R, ?_⟩
  rw [evS] at h
  exact h.sbnd fun v Hi1 H1 ρ1 A1 d e1 R1 r1 h1 => setS_of hn R1 r1 h1
theorem setT_of {P : Par} {D : Ends} {Hi H : Hp} {σ : L2.St} {ρ : Env} {A : Nat → List Addr} {v : V} {cs : List Cel} (hn : i ∉ io) (R : RelA P io Hi H σ ρ A) (r : RN P Hi H A σ v cs) (h : FinS P io W D Hi (setS ρ i (.t cs))) : D.nx (σ.set i (some v)) H := by
  unfold setS at h
  by_cases hc : i < ρ.length
  · rw [if_pos hc] at h
    obtain ⟨q, vs, as, rfl, h2, h3, h4, h5⟩ := r
    exact h _ Hi H _ (Ex.refl _) (R.setO (s := .t cs) (l := q :: as) hc hn ⟨q, vs, as, rfl, rfl, h2, h3⟩ h5 h4)
  · rw [if_neg hc] at h
    exact h.elim
theorem snd_newL {il : L} (hN : X.N.Nodup) (hi : X.N[i]? = some x) (hx : Loc X.env.scope x) (hf : X.fn x = true) (hn : i ∉ io) (hs : swapsWith a (some (.Name x p)) pos.line X.env = pure false) (ha : PE X a (tL X cl io W Γ il)) :
    PS X (.Assign [.Name x p] a pos) (tS X cl io W Γ fu (.newL i il)) := by
  refine PS.imp (ps_set hN hi hx ha hs (.inl hf)) ?_
  rintro D σ H ⟨B, Hi0, pin, Hi, ρ, A, R, h⟩
  refine ⟨B, Hi0, pin, Hi, ρ, A, R, ?_⟩
  rw [evS] at h
  refine h.sbnd fun v Hi1 H1 ρ1 A1 d e1 R1 r1 h1 => ?_
  unfold setS at h1
  by_cases hc : i < ρ1.length
  · rw [if_pos hc] at h1
    obtain ⟨q, vs, rfl, h2, h3, h4, h5, h6⟩ := r1
    obtain ⟨A', R'⟩ := RelA.setL R1 (by rw [R1.len]; exact hc) hn h2 h4 h5 h6 h3
    exact h1 _ Hi1 H1 A' (Ex.refl _) R'
  · rw [if_neg hc] at h1
    exact h1.elim
theorem snd_newT {nm : NM} (hN : X.N.Nodup) (hi : X.N[i]? = some x) (hx : Loc X.env.scope x) (hf : X.fn x = true) (hn : i ∉ io) (hs : swapsWith a (some (.Name x p)) pos.line X.env = pure false) (ha : PE X a (tN X cl io W Γ nm)) :
    PS X (.Assign [.Name x p] a pos) (tS X cl io W Γ fu (.newT i nm)) := by
  refine PS.imp (ps_set hN hi hx ha hs (.inl hf)) ?_
  rintro D σ H ⟨B, Hi0, pin, Hi, ρ, A, R, h⟩
  refine ⟨B, Hi0, pin, Hi, ρ, A, R, ?_⟩
  rw [evS] at h
  exact h.sbnd fun v Hi1 H1 ρ1 A1 d e1 R1 r1 h1 => setT_of hn R1 r1 h1
theorem snd_asgT {is : List Nat} {es : List Expr} {k : Nat} (hc : X.calm = true) (hN : X.N.Nodup) (ht : Targets X io is es) (hs : swapsWithSole [.Tuple es k p] a pos.line X.env = pure false) (hw : swappedStores [.Tuple es k p] a X.env = pure none)
    (ha : PE X a (tE X cl io W Γ ia)) : PS X (.Assign [.Tuple es k p] a pos) (tS X cl io W Γ fu (.asgT is ia)) := by
  refine PS.imp (ps_asg ha (pg_pt hc hN (.t ht)) hs hw rfl) ?_
  rintro D σ H ⟨B, Hi0, pin, Hi, ρ, A, R, h⟩
  refine ⟨B, Hi0, pin, Hi, ρ, A, R, ?_⟩
  rw [evS] at h
  refine h.sbnd fun v Hi1 H1 ρ1 A1 d e1 R1 r1 h1 => ?_
  rcases bind_of (p := .t is) R1 r1 (fun i hi => ht.out i hi) (fun ρ => some (SOut.nx ρ)) with hb | ⟨ρ2, hb, hq⟩
  · rw [hb] at h1; exact h1.elim
  · rw [hb] at h1
    exact hq _ fun σ2 A2 R2 _ => h1 _ _ _ _ (Ex.refl _) R2
theorem snd_par {j : Nat} {y : Str} {px py pt pt2 : Pos} {kt k2 : Nat} (hc : X.calm = true) (hN : X.N.Nodup) (hi : X.N[i]? = some x) (hj : X.N[j]? = some y) (hij : i ≠ j) (hx : X.env.scope.names.lookup x = some .local) (hy : X.env.scope.names.lookup y = some .local)
    (hn : i ∉ io) (hn' : j ∉ io) (hp : plainX a = true) (hp' : plainX b = true) (hw : swappedStores [.Tuple [.Name x px, .Name y py] kt pt] (.Tuple [a, b] k2 pt2) X.env = pure (some [x, y]))
    (ha : PE X a (tE X cl io W Γ ia)) (hb : PE X b (tE X cl io W Γ ib)) : PS X (.Assign [.Tuple [.Name x px, .Name y py] kt pt] (.Tuple [a, b] k2 pt2) pos) (tS X cl io W Γ fu (.par i j ia ib)) := by
  refine PS.imp (ps_par hc hN hi hj hij hx hy (pa_cons ha (pa_cons hb pa_nil (star_cons hp')) (star_cons hp)) hw) ?_
  rintro D σ H ⟨B, Hi0, pin, Hi, ρ, A, R, h⟩
  refine ⟨B, Hi0, pin, Hi, ρ, A, R, ?_⟩
  rw [evS] at h
  refine h.sbnd fun v Hi1 H1 ρ1 A1 d e1 R1 r1 h1 => ?_
  refine ⟨B, Hi0, pin, Hi1, ρ1, A1, R1, h1.sbnd fun v2 Hi2 H2 ρ2 A2' d2 e2 R2 r2 h2 => ?_⟩
  refine ⟨v, v2, rfl, ?_⟩
  obtain ⟨A3, R3, h3⟩ := bindS_of hn R2 (Rep.mono e2 _ _ r1) h2
  exact setS_of hn' R3 r2 h3
theorem snd_app {p2 p3 : Pos} (hi : X.N[i]? = some x) (hv : Vis X.env.scope x) (hd : (x == ("__debug__" : Str)) = false) (hcd : (x == ("__classdict__" : Str)) = false) (hp : plainX a = true) (hl : (p3.endLine == pos.line) = true)
    (hfew : ((backTo pos (starEach [a] X.env)).all (fun x => !x.1) && (backToKw pos (keywordEach [] X.env)).all (fun x => x.1.isSome) && decide (([a] : List Expr).length + ([] : List Keyword).length + (if ([] : List Keyword).isEmpty then 0 else 1) < 30)) = true)
    (ha : PE X a (tE X cl io W Γ ia)) : PS X (.Expr (.Call (.Attribute (.Name x p2) "append" p3) [a] [] pos) p) (tS X cl io W Γ fu (.app i ia)) := by
  refine PS.imp (ps_expr (pe_bm PySem.F.plainAttrs_list PySem.F.slot_list_append PySem.F.type_list_append mt_append (pe_var hi hv hd hcd) (pa_cons ha pa_nil (star_cons hp)) rfl hfew hl (star_cons hp) rfl) rfl) ?_
  rintro D σ H ⟨B, Hi0, pin, Hi, ρ, A, R, h⟩
  rw [evS] at h
  cases q : ρ.at i with
  | no => rw [q] at h; exact h.elim
  | v d => rw [q] at h; exact h.elim
  | t cs => rw [q] at h; exact h.elim
  | o c fs => rw [q] at h; exact h.elim
  | l ds =>
    rw [q] at h
    obtain ⟨a', vs, h1, h2, h3, h4, h5, h6⟩ := R.own q
    refine ⟨.ref a', sAt_some h2, .inl ⟨rfl, _, .inl (.inl h3)⟩, B, Hi0, pin, Hi, ρ, A, R, ?_⟩
    refine FinS.sbnd h fun v Hi1 H1 ρ1 A1 d e1 R1 r1 k1 => ?_
    cases q2 : ρ1.at i with
    | no => rw [q2] at k1; exact k1.elim
    | v d => rw [q2] at k1; exact k1.elim
    | t cs => rw [q2] at k1; exact k1.elim
    | o c fs => rw [q2] at k1; exact k1.elim
    | l es =>
      rw [q2] at k1
      obtain ⟨a2, ws, t3, t4, t5, t6⟩ := Rel.mutL (ds' := es ++ [d]) ⟨A1, R1⟩ q2
      have ea : a2 = a' := by
        rw [sAt_some h2] at t3
        injection t3 with t3; injection t3 with t3; injection t3 with t3
        exact t3.symm
      subst ea
      have k1' : FinS ⟨X.K, cl, B, Hi0, pin⟩ io W D Hi1 (if es.length < sizeLine then some (.nx (ρ1.set i (.l (es ++ [d])))) else none) := k1
      by_cases hc : es.length < sizeLine
      · rw [if_pos hc] at k1'
        obtain ⟨A3, R3⟩ := t6 (ws ++ [v]) (t5.snoc r1)
        exact ⟨a2, ws, v, rfl, rfl, t4, by rw [t5.len]; exact hc, k1' _ Hi1 _ A3 (Ex.refl _) R3⟩
      · rw [if_neg hc] at k1'
        exact k1'.elim
theorem snd_rev {p2 p3 : Pos} (hi : X.N[i]? = some x) (hv : Vis X.env.scope x) (hd : (x == ("__debug__" : Str)) = false) (hcd : (x == ("__classdict__" : Str)) = false) (hl : (p3.endLine == pos.line) = true) :
    PS X (.Expr (.Call (.Attribute (.Name x p2) "reverse" p3) [] [] pos) p) (tS X cl io W Γ fu (.rev i)) := by
  refine PS.imp (ps_expr (pe_bm0 PySem.F.plainAttrs_list PySem.F.slot_list_reverse PySem.F.type_list_reverse mt_reverse (pe_var hi hv hd hcd) rfl hl) rfl) ?_
  rintro D σ H ⟨B, Hi0, pin, Hi, ρ, A, R, h⟩
  rw [evS] at h
  cases q : ρ.at i with
  | no => rw [q] at h; exact h.elim
  | v d => rw [q] at h; exact h.elim
  | t cs => rw [q] at h; exact h.elim
  | o c fs => rw [q] at h; exact h.elim
  | l ds =>
    rw [q] at h
    obtain ⟨a', vs, h3, h4, h5, h6⟩ := Rel.mutL (ds' := ds.reverse) ⟨A, R⟩ q
    obtain ⟨A', R'⟩ := h6 _ h5.reverse
    exact ⟨.ref a', h3, .inl ⟨rfl, _, .inl (.inl h4)⟩, a', vs, rfl, rfl, h4, h _ Hi _ A' (Ex.refl _) R'⟩
theorem snd_ite (hc : PT X c (tT X cl io W Γ ic)) (ha : PSs X sb (tS X cl io W Γ fu s1)) (hb : PSs X sc (tS X cl io W Γ fu s2)) : PS X (.If c sb sc pos) (tS X cl io W Γ fu (.ite ic s1 s2)) := by
  refine PS.imp (ps_if hc ha hb) ?_
  rintro D σ H ⟨B, Hi0, pin, Hi, ρ, A, R, h⟩
  refine ⟨B, Hi0, pin, Hi, ρ, A, R, ?_⟩
  rw [evS] at h
  refine FinS.sbnd (R := RT) h fun v1 Hi1 H1 ρ1 A1 d1 e1 R1 r1 h1 => ?_
  cases r1
  cases v1 with
  | true => rw [if_pos rfl]; exact ⟨B, Hi0, pin, Hi1, ρ1, A1, R1, h1⟩
  | false => rw [if_neg Bool.false_ne_true]; exact ⟨B, Hi0, pin, Hi1, ρ1, A1, R1, h1⟩
theorem snd_ret (ha : PE X a (tE X cl io W Γ ia)) : PS X (.Return (some a) pos) (tS X cl io W Γ fu (.ret ia)) := by
  refine PS.imp (ps_ret ha) ?_
  rintro D σ H ⟨B, Hi0, pin, Hi, ρ, A, R, h⟩
  refine ⟨B, Hi0, pin, Hi, ρ, A, R, ?_⟩
  rw [evS] at h
  exact h.sbnd fun v Hi1 H1 ρ1 A1 d e1 R1 r1 h1 => h1 v σ Hi1 H1 A1 (Ex.refl _) R1 r1
theorem snd_retL (hi : X.N[i]? = some x) (hv : Vis X.env.scope x) (hd : (x == ("__debug__" : Str)) = false) (hcd : (x == ("__classdict__" : Str)) = false) (hn : i ∉ io) : PS X (.Return (some (.Name x p)) pos) (tS X cl io W Γ fu (.retL i)) := by
  refine PS.imp (ps_ret (pe_var hi hv hd hcd)) ?_
  rintro D σ H ⟨B, Hi0, pin, Hi, ρ, A, R, h⟩
  rw [evS] at h
  by_cases ho : isOwn (ρ.at i) = true
  · obtain ⟨a', as, h1, h2⟩ := (R.sl i).root ho
    refine ⟨.ref a', sAt_some h2, ?_⟩
    cases q : ρ.at i with
    | no => rw [q] at ho; cases ho
    | v d => rw [q] at ho; cases ho
    | l ds => rw [q] at h; exact h _ σ Hi H A (Ex.refl _) R ⟨i, hn, q, h2⟩
    | t ds => rw [q] at h; exact h _ σ Hi H A (Ex.refl _) R ⟨i, hn, q, h2⟩
    | o c ds => rw [q] at h; exact h _ σ Hi H A (Ex.refl _) R ⟨i, hn, q, h2⟩
  · cases q : ρ.at i with
    | no => rw [q] at h; exact h.elim
    | v d => rw [q] at h; exact h.elim
    | _ => rw [q] at ho; exact absurd rfl ho
/-! loops -/
theorem loop_step {P : Par} {D : Ends} {Hi : Hp} {f : VI.D → Env → Option SOut} {d : VI.D} {ds : List VI.D} {ρ : Env} {N : L2.St → Hp → Prop} (h : FinS P io W D Hi (loopS f (d :: ds) ρ))
    (hN : ∀ σ' Hi' H' ρ' A, Ex Hi Hi' → RelA P io Hi' H' σ' ρ' A → FinS P io W D Hi' (loopS f ds ρ') → N σ' H') : FinS P io W { D with nx := N, ct := N, bk := D.nx } Hi (f d ρ) := by
  unfold loopS at h
  cases q : f d ρ with
  | none => rw [q] at h; exact h
  | some o =>
    rw [q] at h
    cases o with
    | nx ρ1 => exact fun σ' Hi' H' A e R => hN σ' Hi' H' ρ1 A e R (FinS.mono e h)
    | ct ρ1 => exact fun σ' Hi' H' A e R => hN σ' Hi' H' ρ1 A e R (FinS.mono e h)
    | bk ρ1 => exact h
    | ret r ρ1 => exact h
    | ex c w ρ1 => exact h
theorem snd_for {tg : Expr} {it : I} {pt : Pt} (hp : PassesOwn (model X.prog X.w) X.A X.env X.xe) (hc : X.calm = true) (hN : X.N.Nodup) (ht : PtOk X io pt tg) (hs : ∀ u, foldedSetIterable a X.env u = pure u)
    (ha : PI X tg a (tI X cl io W Γ it)) (hb : PSs X sb (tS X cl io W Γ fu s1)) : PS X (.For tg a sb [] pos) (tS X cl io W Γ fu (.for pt it s1)) := by
  refine PS.imp (ps_for hp hc ha (pg_pt hc hN ht) hb hs) ?_
  rintro D σ H ⟨B, Hi0, pin, Hi, ρ, A, R, h⟩
  refine ⟨B, Hi0, pin, Hi, ρ, A, R, ?_⟩
  rw [evS] at h
  refine h.sbnd fun J Hi1 H1 ρ1 A1 ds e1 R1 r1 h1 => ?_
  let Pv : Nat → L2.St → Hp → Prop := fun k σ' H' => ∃ Hi' ρ' A', Ex Hi1 Hi' ∧ RelA ⟨X.K, cl, B, Hi0, pin⟩ io Hi' H' σ' ρ' A' ∧ FinS ⟨X.K, cl, B, Hi0, pin⟩ io W D Hi' (loopS (fun d ρ => bindE pt d ρ (evS Γ fu s1)) (ds.drop k) ρ')
  refine for_it (G := fun H => Ex Hi1 H) r1.w Pv ⟨Hi1, ρ1, A1, Ex.refl _, R1, h1⟩ (fun k σ' H' hk ⟨Hi', ρ', A', e', R', _⟩ => e'.trans R'.i) (fun k x σ' H' H'' hk ⟨Hi', ρ', A', e', R', h'⟩ y => ?_) (fun σ' H' ⟨Hi', ρ', A', e', R', h'⟩ => ?_)
  · obtain ⟨Hi2, d, e2, R2, hd, rd, _, _⟩ := item_of R' e' y
    rw [drop_cons hd] at h'
    have h4 := loop_step (N := Pv (k + 1)) h' fun σ2 Hi3 H3 ρ3 A3 e3 R3 k3 => ⟨Hi3, ρ3, A3, e'.trans e3, R3, k3⟩
    have h5 := FinS.mono e2 h4
    rcases bind_of (p := pt) R2 rd ht.out (evS Γ fu s1) with hb | ⟨ρ4, hb, hq⟩
    · rw [hb] at h5; exact h5.elim
    · rw [hb] at h5
      exact hq _ fun σ4 A4 R4 _ => ⟨B, Hi0, pin, Hi2, ρ4, A4, R4, h5⟩
  · rw [List.drop_eq_nil_of_le (Nat.le_refl _)] at h'
    exact h' σ' Hi' H' A' (Ex.refl _) R'
theorem snd_whlG {ec : Env → Option (Out Bool)} (hp : PassesOwn (model X.prog X.w) X.A X.env X.xe) (hc : PT X c (tG X.K cl io W RT ec)) (hb : PSs X sb (tS X cl io W Γ fu s1)) : PS X (.While c sb [] pos) (tSt X.K cl io W (fun ρ => whileS ec (evS Γ fu s1) fu ρ)) := by
  refine PS.imp (ps_while hp hc hb) ?_
  rintro D σ H ⟨B, Hi0, pin, Hi, ρ, A, R, h⟩
  refine ⟨fun m σ' H' => ∃ Hi' ρ' A', RelA ⟨X.K, cl, B, Hi0, pin⟩ io Hi' H' σ' ρ' A' ∧ FinS ⟨X.K, cl, B, Hi0, pin⟩ io W D Hi' (whileS (ec) (evS Γ fu s1) m ρ'), ⟨fu, Hi, ρ, A, R, h⟩, ?_⟩
  rintro m σ1 H1 ⟨Hi1, ρ1, A1, R1, h1⟩
  cases m with
  | zero => exact h1.elim
  | succ m =>
    refine ⟨B, Hi0, pin, Hi1, ρ1, A1, R1, ?_⟩
    rw [whileS] at h1
    refine FinS.sbnd (R := RT) h1 fun k Hi2 H2 ρ2 A2 d e2 R2 r2 h2 => ?_
    cases r2
    cases k with
    | false => rw [if_neg Bool.false_ne_true]; exact h2 σ1 Hi2 H2 A2 (Ex.refl _) R2
    | true =>
      rw [if_pos rfl]
      refine ⟨fun σ' H' => ∃ Hi' ρ' A', RelA ⟨X.K, cl, B, Hi0, pin⟩ io Hi' H' σ' ρ' A' ∧ FinS ⟨X.K, cl, B, Hi0, pin⟩ io W D Hi' (whileS (ec) (evS Γ fu s1) m ρ'), fun σ' H' w => ⟨m, Nat.lt_succ_self m, w⟩, B, Hi0, pin, Hi2, ρ2, A2, R2, ?_⟩
      have h3 : FinS ⟨X.K, cl, B, Hi0, pin⟩ io W D Hi2 (match evS Γ fu s1 ρ2 with
        | some (.nx ρ') => whileS (ec) (evS Γ fu s1) m ρ'
        | some (.ct ρ') => whileS (ec) (evS Γ fu s1) m ρ'
        | some (.bk ρ') => some (.nx ρ')
        | o => o) := h2
      cases q : evS Γ fu s1 ρ2 with
      | none => rw [q] at h3; exact h3
      | some o =>
        rw [q] at h3
        cases o with
        | nx ρ3 => exact fun σ' Hi' H' A' e' R' => ⟨Hi', ρ3, A', R', FinS.mono e' h3⟩
        | ct ρ3 => exact fun σ' Hi' H' A' e' R' => ⟨Hi', ρ3, A', R', FinS.mono e' h3⟩
        | bk ρ3 => exact h3
        | ret r ρ3 => exact h3
        | ex c w ρ3 => exact h3
theorem snd_whl (hp : PassesOwn (model X.prog X.w) X.A X.env X.xe) (hc : PT X c (tT X cl io W Γ ic)) (hb : PSs X sb (tS X cl io W Γ fu s1)) : PS X (.While c sb [] pos) (tS X cl io W Γ fu (.whl ic s1)) := by
  refine PS.imp (snd_whlG hp hc hb) ?_
  rintro D σ H ⟨B, Hi0, pin, Hi, ρ, A, R, h⟩
  rw [evS] at h
  exact ⟨B, Hi0, pin, Hi, ρ, A, R, h⟩
theorem sndT_L {px : Pos} (hi : X.N[i]? = some x) (hv : Vis X.env.scope x) (hd : (x == ("__debug__" : Str)) = false) (hcd : (x == ("__classdict__" : Str)) = false) : PT X (.Name x px) (tG X.K cl io W RT (testL i)) := by
  refine PT.imp (pt_truth (pe_var hi hv hd hcd) (fun _ => rfl)) ?_
  rintro σ H Q ⟨B, Hi0, pin, Hi, ρ, A, R, h⟩
  unfold testL at h
  cases q : ρ.at i with
  | l ds =>
    rw [q] at h
    obtain ⟨a', vs, h1, h2, h3, h4, h5, h6⟩ := R.own q
    refine ⟨.ref a', sAt_some h2, !ds.isEmpty, .inl ⟨vs, .inl (.inl h3), ?_⟩, h.ok R rfl⟩
    cases h4 <;> rfl
  | _ => rw [q] at h; exact h.elim
theorem snd_whlL {px : Pos} (hi : X.N[i]? = some x) (hv : Vis X.env.scope x) (hd : (x == ("__debug__" : Str)) = false) (hcd : (x == ("__classdict__" : Str)) = false) (hp : PassesOwn (model X.prog X.w) X.A X.env X.xe) (hb : PSs X sb (tS X cl io W Γ fu s1)) : PS X (.While (.Name x px) sb [] pos) (tS X cl io W Γ fu (.whlL i s1)) := by
  refine PS.imp (snd_whlG hp (sndT_L hi hv hd hcd) hb) ?_
  rintro D σ H ⟨B, Hi0, pin, Hi, ρ, A, R, h⟩
  rw [evS] at h
  exact ⟨B, Hi0, pin, Hi, ρ, A, R, h⟩
/-! stores -/
theorem subAssign {o k : Expr} {pt : Pos} {env : PySem.Env} (h : noSlice k = true) (v : Value) : assign (.Subscript o k pt) env v = (do
      let ov ← holding [v] (eval o env)
      let iv ← holding [v, ov] (eval k env)
      standAt pt
      holding [v, ov, iv] (setItem ov iv v)
      release [v, ov, iv] []) := by
  cases k <;> first | rfl | (cases h; done)
theorem subStores {o k e : Expr} {pt : Pos} {env : PySem.Env} : swappedStores [.Subscript o k pt] e env = pure none := by rfl
theorem snd_exp (hs : swapsWith a none pos.line X.env = pure false) (ha : PE X a (tE X cl io W Γ ia)) : PS X (.Expr a pos) (tS X cl io W Γ fu (.exp ia)) := by
  refine PS.imp (ps_expr ha hs) ?_
  rintro D σ H ⟨B, Hi0, pin, Hi, ρ, A, R, h⟩
  refine ⟨B, Hi0, pin, Hi, ρ, A, R, ?_⟩
  rw [evS] at h
  exact h.sbnd fun v Hi1 H1 ρ1 A1 d e1 R1 r1 h1 => h1 σ Hi1 H1 A1 (Ex.refl _) R1
theorem setIS_of {P : Par} {D : Ends} {Hi H : Hp} {σ : L2.St} {ρ : Env} {A : Nat → List Addr} {ds : List VI.D} {z d : VI.D} (R : RelA P io Hi H σ ρ A) (h : FinS P io W D Hi (setIS i z d ρ)) :
    ∃ ds k j, ρ.at i = .l ds ∧ z = .int k ∧ ixN ds.length k = some j ∧ FinS P io W D Hi (some (.nx (ρ.set i (.l (ds.set j d))))) := by
  unfold setIS at h
  cases q : ρ.at i with
  | l ds =>
    rw [q] at h
    cases z with
    | int k =>
      have h : FinS P io W D Hi (match ixN ds.length k with | some j => some (.nx (ρ.set i (.l (ds.set j d)))) | none => none) := h
      cases q2 : ixN ds.length k with
      | none => rw [q2] at h; exact h.elim
      | some j => rw [q2] at h; exact ⟨ds, k, j, rfl, rfl, q2, h⟩
    | _ => exact h.elim
  | _ => rw [q] at h; exact h.elim
theorem isL_some {s : Slot} (h : isL s = true) : ∃ ds, s = .l ds := by
  cases s with
  | l ds => exact ⟨ds, rfl⟩
  | _ => cases h
theorem snd_setI {k : Expr} {ik : E} {px : Pos} {pt : Pos} (hi : X.N[i]? = some x) (hv : Vis X.env.scope x) (hd : (x == ("__debug__" : Str)) = false) (hcd : (x == ("__classdict__" : Str)) = false)
    (hw : swapsWithSole [.Subscript (.Name x px) k pt] a pos.line X.env = pure false) (hns : noSlice k = true) (ha : PE X a (tE X cl io W Γ ia)) (hk : PE X k (tE X cl io W Γ ik)) :
    PS X (.Assign [.Subscript (.Name x px) k pt] a pos) (tS X cl io W Γ fu (.setI i ik ia)) := by
  refine PS.imp (ps_asg ha (pg_sub (pe_var hi hv hd hcd) hk set_list (subAssign hns)) hw subStores rfl) ?_
  rintro D σ H ⟨B, Hi0, pin, Hi, ρ, A, R, h⟩
  refine ⟨B, Hi0, pin, Hi, ρ, A, R, ?_⟩
  rw [evS] at h
  refine h.sbnd fun v Hi1 H1 ρ1 A1 d e1 R1 r1 h1 => ?_
  have h1 : FinS ⟨X.K, cl, B, Hi0, pin⟩ io W D Hi1 (if isL (ρ1.at i) = true then sbnd (evE Γ ik ρ1) fun z ρ => setIS i z d ρ else none) := h1
  by_cases hc : isL (ρ1.at i) = true
  · rw [if_pos hc] at h1
    obtain ⟨ds1, q1⟩ := isL_some hc
    obtain ⟨a', vs1, k1, k2, k3, k4, k5, k6⟩ := R1.own q1
    refine ⟨.ref a', sAt_some k2, B, Hi0, pin, Hi1, ρ1, A1, R1, ?_⟩
    refine FinS.sbnd h1 fun zv Hi2 H2 ρ2 A2 z e2 R2 r2 h2 => ?_
    obtain ⟨ds, kk, j, q2, rfl, q3, h3⟩ := setIS_of (ds := []) R2 h2
    obtain ⟨a2, vs2, t1, t2, t3, t4, _, _⟩ := R2.own q2
    rw [k2] at t2
    cases t2
    cases r2
    have hi2 : i < ρ2.length := at_lt (by rw [q2]; exact fun w => nomatch w)
    refine ⟨a', vs2, kk, j, rfl, rfl, t3, by rw [t4.len]; exact q3, ?_⟩
    exact h3 _ _ _ _ (Ex.refl _) (R2.mut (s' := .l (ds.set j d)) (l' := [a']) hi2 ⟨a', _, rfl, k2, upd_same, t4.set j (Rep.mono e2 _ _ r1)⟩ (fun p o hp ho => by rw [upd_ne fun z => hp (by rw [z, t1]; exact List.mem_singleton.mpr rfl)]; exact ho)
      (fun b hb => .inl (by rw [t1]; exact hb)) (List.nodup_cons.mpr ⟨List.not_mem_nil, List.nodup_nil⟩))
  · rw [if_neg hc] at h1
    exact h1.elim
theorem snd_aug {op : Op2} {f : Int → Int → Int} {px : Pos} (hN : X.N.Nodup) (hi : X.N[i]? = some x) (hx : Loc X.env.scope x) (hf : X.fn x = true ∨ X.env.scope.names.lookup x = some .local) (hn : i ∉ io) (hop : PIp X (opA op) (ipI f)) (hfd : ∀ i j d, binD op (.int i) j = some d → ∀ y, d = .int y → ∃ j', j = .int j' ∧ y = f i j')
    (ha : PE X a (tE X cl io W Γ ia)) : PS X (.AugAssign (.Name x px) (opA op) a pos) (tS X cl io W Γ fu (.aug op i ia)) := by
  refine PS.imp (ps_aug hN hi hx ha hop hf) ?_
  rintro D σ H ⟨B, Hi0, pin, Hi, ρ, A, R, h⟩
  rw [evS] at h
  cases q : ρ.at i with
  | v d0 =>
    rw [q] at h
    cases d0 with
    | int x0 =>
      obtain ⟨v, h1, h2⟩ := Rel.val ⟨A, R⟩ q
      cases h2
      refine ⟨.int x0, h1, B, Hi0, pin, Hi, ρ, A, R, ?_⟩
      refine FinS.sbnd h fun v1 Hi1 H1 ρ1 A1 d1 e1 R1 r1 h1 => ?_
      have h1 : FinS ⟨X.K, cl, B, Hi0, pin⟩ io W D Hi1 (match binD op (.int x0) d1 with | some (.int y) => setS ρ1 i (.v (.int y)) | _ => none) := h1
      cases q2 : binD op (.int x0) d1 with
      | none => rw [q2] at h1; exact h1.elim
      | some y0 =>
        rw [q2] at h1
        cases y0 with
        | int y =>
          obtain ⟨j', rfl, rfl⟩ := hfd _ _ _ q2 _ rfl
          cases r1
          exact ⟨x0, j', rfl, rfl, setS_of hn R1 (.int _) h1⟩
        | _ => exact h1.elim
    | _ => exact h.elim
  | _ => rw [q] at h; exact h.elim
theorem celAt_some {z : VI.D} {ρ : Env} {j : Nat} {es : List VI.D} (h : celAt i z ρ = some (j, es)) : ∃ cs k, ρ.at i = .t cs ∧ z = .int k ∧ ixN cs.length k = some j ∧ cs[j]? = some (.l es) := by
  unfold celAt at h
  cases q : ρ.at i with
  | t cs =>
    rw [q] at h
    cases z with
    | int k =>
      have h : (match ixN cs.length k with | some j => (match cs[j]? with | some (.l es) => some (j, es) | _ => none) | none => none) = some (j, es) := h
      cases q2 : ixN cs.length k with
      | none => rw [q2] at h; cases h
      | some j' =>
        rw [q2] at h
        have h : (match cs[j']? with | some (.l es) => some (j', es) | _ => none) = some (j, es) := h
        cases q3 : cs[j']? with
        | none => rw [q3] at h; cases h
        | some c =>
          rw [q3] at h
          cases c with
          | d _ => cases h
          | l es' => cases h; exact ⟨cs, k, rfl, rfl, q2, q3⟩
    | _ => cases h
  | _ => rw [q] at h; cases h
theorem hide_fin {α β : Type} {P : Par} {D : Ends} {Hi H : Hp} {σ : L2.St} {ρ : Env} {A : Nat → List Addr} {RR : Par → Hp → Hp → (Nat → List Addr) → L2.St → β → α → Prop} {m : Option (Out α)} {f : α → Env → Option SOut} {Q1 : β → Hp → Prop}
    (R : RelA P io Hi H σ ρ A) (h : FinS P io W D Hi (sbnd m f))
    (k : ∀ v Hi' H' ρ' A' d, Ex Hi Hi' → RelA { P with B := frzH P.B H (A i) } io Hi' H' σ ρ' A' → RR { P with B := frzH P.B H (A i) } Hi' H' A' σ v d → FinS P io W D Hi' (f d ρ') → Q1 v H') :
    FinG { P with B := frzH P.B H (A i) } io W Hi σ RR Q1 m := by
  cases m with
  | none => exact h
  | some o =>
    cases o with
    | ok d ρ => exact fun v H1 H2 A e r1 r2 => k v H1 H2 ρ A d e r1 r2 (FinS.mono e h)
    | ex c w ρ' =>
      intro dx fs H1 H2 A1 e r1 r2 r3
      obtain ⟨R3, _⟩ := RelA.unprot r1 (fun p hp => (R.ow i p hp).2) (fun p hp => fresh_back R.i0 (R.ow i p hp).1) (fun p hp => by obtain ⟨o, ho⟩ := (R.sl i).isThere hp; rw [ho]; exact fun w => nomatch w)
      exact h dx fs σ H1 H2 A1 e R3 r2 r3
/-- a list in a tree: where it stands -/
theorem cel_of {P : Par} {Hi H : Hp} {σ : L2.St} {ρ : Env} {A : Nat → List Addr} {z : VI.D} {j : Nat} {es : List VI.D} (R : RelA P io Hi H σ ρ A) (h : celAt i z ρ = some (j, es)) :
    ∃ cs k a vs as b xs, ρ.at i = .t cs ∧ z = .int k ∧ A i = a :: as ∧ sAt σ i = some (.ref a) ∧ H a = some (.lst vs) ∧ Cels P.K P.cl.fn Hi H vs cs as ∧ cs[j]? = some (.l es) ∧ atI vs k = some (.ref b) ∧ vs[j]? = some (.ref b) ∧ b ∈ as ∧ H b = some (.lst xs) ∧ i < ρ.length := by
  obtain ⟨cs, k, q, rfl, hk, hj⟩ := celAt_some h
  have s := R.sl i
  rw [q] at s
  obtain ⟨a, vs, as, h1, h2, h3, h4⟩ := s
  have nd := R.nd i
  rw [h1] at nd
  obtain ⟨b, xs, k1, k2, k3, k4, k5⟩ := h4.at_l hj (List.nodup_cons.mp nd).2
  refine ⟨cs, k, a, vs, as, b, xs, q, rfl, h1, h2, h3, h4, hj, ?_, k1, k2, k3, at_lt (by rw [q]; exact fun w => nomatch w)⟩
  unfold atI
  rw [h4.len, hk]
  exact k1
/-- .. and is changed, behind what was reckoned with the tree out of sight -/
theorem cel_mut {P : Par} {Hi Hi2 H H2 : Hp} {σ : L2.St} {ρ ρ2 : Env} {A A2 : Nat → List Addr} {j : Nat} {es es' : List VI.D} {cs : List Cel} {a b : Addr} {vs : List V} {as : List Addr} (R : RelA P io Hi H σ ρ A) (hi : i < ρ.length) (q : ρ.at i = .t cs) (h1 : A i = a :: as) (h3 : H a = some (.lst vs)) (hj : cs[j]? = some (.l es)) (hb : vs[j]? = some (.ref b))
    (e : Ex Hi Hi2) (R2 : RelA { P with B := frzH P.B H (A i) } io Hi2 H2 σ ρ2 A2) :
    ∃ xs, H2 b = some (.lst xs) ∧ Reps P.K P.cl.fn Hi2 xs es ∧ ∀ xs', Reps P.K P.cl.fn Hi2 xs' es' → ∃ A', RelA P io Hi2 (upd H2 b (.lst xs')) σ ((ρ2.set i (ρ.at i)).set i (.t (cs.set j (.l es')))) A' := by
  have R3 := R.unhide hi e R2
  have hl2 : i < (ρ2.set i (ρ.at i)).length := by rw [← R3.len, R.len]; exact hi
  have hl2' : i < ρ2.length := by rw [List.length_set] at hl2; exact hl2
  have s := R3.sl i
  rw [at_set hl2', if_pos rfl, if_pos rfl, q, h1] at s
  obtain ⟨a', vs', as', g1, g2, g3, g4⟩ := s
  injection g1 with g1 g1'
  subst g1; subst g1'
  have e2 : H2 a = some (.lst vs) := by
    refine R2.b a _ ?_
    show frzH P.B H (A i) a = some (.lst vs)
    unfold frzH
    rw [if_pos (by rw [h1]; exact List.mem_cons_self)]
    exact h3
  have g3' : H2 a = some (.lst vs') := g3
  rw [e2] at g3'
  injection g3' with g3'; injection g3' with g3'
  subst g3'
  have nd := R.nd i
  rw [h1] at nd
  obtain ⟨b', xs, k1, k2, k3, k4, k5⟩ := g4.at_l hj (List.nodup_cons.mp nd).2
  have hbb : b' = b := by
    rw [hb] at k1
    injection k1 with k1; injection k1 with k1
    exact k1.symm
  subst hbb
  have hba : a ≠ b' := fun z => (List.nodup_cons.mp nd).1 (by rw [z]; exact k2)
  refine ⟨xs, k3, k4, fun xs' r' => ⟨_, R3.mut (s' := .t (cs.set j (.l es'))) (l' := a :: as) hl2 ⟨a, vs, as, rfl, g2, ?_, k5 xs' es' r'⟩ (fun p o hp ho => ?_) (fun c hc => .inl ?_) nd⟩⟩
  · rw [upd_ne hba]; exact e2
  · rw [upd_ne fun z => hp (by rw [if_pos rfl, h1, z]; exact List.mem_cons_of_mem _ k2)]; exact ho
  · rw [if_pos rfl, h1]; exact hc
theorem setC_some {j : Nat} {c : Cel} {ρ ρ' : Env} {cs : List Cel} (hi : i < ρ'.length) (q : ρ.at i = .t cs) : setC i j c (ρ'.set i (ρ.at i)) = some (.nx ((ρ'.set i (ρ.at i)).set i (.t (cs.set j c)))) := by
  unfold setC
  rw [at_set hi, if_pos rfl, q]
theorem snd_appP {k : Expr} {ik : E} {px pt p3 : Pos} (hi : X.N[i]? = some x) (hv : Vis X.env.scope x) (hd : (x == ("__debug__" : Str)) = false) (hcd : (x == ("__classdict__" : Str)) = false) (hns : PlainIx k) (hp : plainX a = true) (hl : (p3.endLine == pos.line) = true)
    (hfew : ((backTo pos (starEach [a] X.env)).all (fun x => !x.1) && (backToKw pos (keywordEach [] X.env)).all (fun x => x.1.isSome) && decide (([a] : List Expr).length + ([] : List Keyword).length + (if ([] : List Keyword).isEmpty then 0 else 1) < 30)) = true)
    (hk : PE X k (tE X cl io W Γ ik)) (ha : PE X a (tE X cl io W Γ ia)) : PS X (.Expr (.Call (.Attribute (.Subscript (.Name x px) k pt) "append" p3) [a] [] pos) p) (tS X cl io W Γ fu (.appP i ik ia)) := by
  refine PS.imp (ps_expr (pe_bm PySem.F.plainAttrs_list PySem.F.slot_list_append PySem.F.type_list_append mt_append (pe_ix ix_list (pe_var hi hv hd hcd) hk hns) (pa_cons ha pa_nil (star_cons hp)) rfl hfew hl (star_cons hp) rfl) rfl) ?_
  rintro D σ H ⟨B, Hi0, pin, Hi, ρ, A, R, h⟩
  rw [evS] at h
  by_cases ho : isOwn (ρ.at i) = true
  · rw [if_pos ho] at h
    obtain ⟨a0, _, _, ha0⟩ := (R.sl i).root ho
    refine ⟨.ref a0, sAt_some ha0, B, Hi0, pin, Hi, ρ, A, R, ?_⟩
    refine FinS.sbnd h fun zv Hi1 H1 ρ1 A1 z e1 R1 r1 h1 => ?_
    cases q2 : celAt i z ρ1 with
    | none => rw [q2] at h1; exact h1.elim
    | some je =>
      obtain ⟨j, es⟩ := je
      rw [q2] at h1
      obtain ⟨cs, kk, a', vs, as, b, xs, g1, rfl, g3, g4, g5, g6, g7, g8, g9, g10, g11, g12⟩ := cel_of R1 q2
      rw [ha0] at g4
      cases g4
      cases r1
      refine ⟨a0, vs, kk, .ref b, rfl, rfl, .inl (.inl g5), g8, ?_⟩
      refine ⟨.inl ⟨rfl, xs, .inl (.inl g11)⟩, _, Hi0, pin, Hi1, _, _, R1.hide g12, ?_⟩
      refine hide_fin R1 h1 fun v Hi2 H2 ρ2 A2 d e2 R2 r2 h2 => ?_
      obtain ⟨ys, t1, t2, t3⟩ := cel_mut (es' := es ++ [d]) R1 g12 g1 g3 g5 g7 g9 e2 R2
      by_cases hc : es.length < sizeLine
      · rw [if_pos hc, setC_some (by rw [← R2.len, R1.len]; exact g12) g1] at h2
        obtain ⟨A3, R3⟩ := t3 (ys ++ [v]) (t2.snoc r2)
        exact ⟨b, ys, v, rfl, rfl, t1, by rw [t2.len]; exact hc, h2 _ Hi2 _ A3 (Ex.refl _) R3⟩
      · rw [if_neg hc] at h2
        exact h2.elim
  · rw [if_neg ho] at h
    exact h.elim
theorem snd_setP {k k2 : Expr} {ik ik2 : E} {px pt pt2 : Pos} (hi : X.N[i]? = some x) (hv : Vis X.env.scope x) (hd : (x == ("__debug__" : Str)) = false) (hcd : (x == ("__classdict__" : Str)) = false) (hns : PlainIx k) (hns2 : noSlice k2 = true)
    (hw : swapsWithSole [.Subscript (.Subscript (.Name x px) k pt) k2 pt2] a pos.line X.env = pure false) (ha : PE X a (tE X cl io W Γ ia)) (hk : PE X k (tE X cl io W Γ ik)) (hk2 : PE X k2 (tE X cl io W Γ ik2)) :
    PS X (.Assign [.Subscript (.Subscript (.Name x px) k pt) k2 pt2] a pos) (tS X cl io W Γ fu (.setP i ik ik2 ia)) := by
  refine PS.imp (ps_asg ha (pg_sub (pe_ix ix_list (pe_var hi hv hd hcd) hk hns) hk2 set_list (subAssign hns2)) hw subStores rfl) ?_
  rintro D σ H ⟨B, Hi0, pin, Hi, ρ, A, R, h⟩
  refine ⟨B, Hi0, pin, Hi, ρ, A, R, ?_⟩
  rw [evS] at h
  refine h.sbnd fun v Hi0' H0' ρ0 A0' d e0 R0 r0 h0 => ?_
  by_cases ho : isOwn (ρ0.at i) = true
  · rw [if_pos ho] at h0
    obtain ⟨a0, _, _, ha0⟩ := (R0.sl i).root ho
    refine ⟨.ref a0, sAt_some ha0, B, Hi0, pin, Hi0', ρ0, A0', R0, ?_⟩
    refine FinS.sbnd h0 fun zv Hi1 H1 ρ1 A1 z e1 R1 r1 h1 => ?_
    cases q2 : celAt i z ρ1 with
    | none => rw [q2] at h1; exact h1.elim
    | some je =>
      obtain ⟨j, es⟩ := je
      rw [q2] at h1
      obtain ⟨cs, kk, a', vs, as, b, xs, g1, rfl, g3, g4, g5, g6, g7, g8, g9, g10, g11, g12⟩ := cel_of R1 q2
      rw [ha0] at g4
      cases g4
      cases r1
      refine ⟨a0, vs, kk, .ref b, rfl, rfl, .inl (.inl g5), g8, ?_⟩
      refine ⟨_, Hi0, pin, Hi1, _, _, R1.hide g12, ?_⟩
      refine hide_fin R1 h1 fun zv2 Hi2 H2 ρ2 A2 z2 e2 R2 r2 h2 => ?_
      unfold setPS at h2
      cases z2 with
      | int q =>
        have h2 : FinS ⟨X.K, cl, B, Hi0, pin⟩ io W D Hi2 (match ixN es.length q with | some m => setC i j (.l (es.set m d)) (ρ2.set i (ρ1.at i)) | none => none) := h2
        cases q3 : ixN es.length q with
        | none => rw [q3] at h2; exact h2.elim
        | some m =>
          rw [q3] at h2
          have h2 : FinS ⟨X.K, cl, B, Hi0, pin⟩ io W D Hi2 (setC i j (.l (es.set m d)) (ρ2.set i (ρ1.at i))) := h2
          rw [setC_some (by rw [← R2.len, R1.len]; exact g12) g1] at h2
          obtain ⟨ys, t1, t2, t3⟩ := cel_mut (es' := es.set m d) R1 g12 g1 g3 g5 g7 g9 e2 R2
          obtain ⟨A3, R3⟩ := t3 (ys.set m v) (t2.set m (Rep.mono (e1.trans e2) _ _ r0))
          cases r2
          exact ⟨b, ys, q, m, rfl, rfl, t1, by rw [t2.len]; exact q3, h2 _ Hi2 _ A3 (Ex.refl _) R3⟩
      | _ => exact h2.elim
  · rw [if_neg ho] at h0
    exact h0.elim
/-- a field of our own instance -/
theorem snd_setF {c0 : Nat} {f : Str} {px pt : Pos} (hi : X.N[i]? = some x) (hv : Vis X.env.scope x) (hd : (x == ("__debug__" : Str)) = false) (hcd : (x == ("__classdict__" : Str)) = false) (hc : Cls X.K (cl.fn c0) ∧ NoAttr X.K (cl.fn c0) f)
    (hs : swapsWith a (some (.Attribute (.Name x px) f pt)) pos.line X.env = pure false) (ha : PE X a (tE X cl io W Γ ia)) :
    PS X (.Assign [.Attribute (.Name x px) f pt] a pos) (tS X cl io W Γ fu (.setF i c0 f ia)) := by
  refine PS.imp (ps_fld (pe_var hi hv hd hcd) ha hs) ?_
  rintro D σ H ⟨B, Hi0, pin, Hi, ρ, A, R, h⟩
  refine ⟨B, Hi0, pin, Hi, ρ, A, R, ?_⟩
  rw [evS] at h
  refine h.sbnd fun v Hi1 H1 ρ1 A1 d e1 R1 r1 h1 => ?_
  unfold setFS at h1
  cases q : ρ1.at i with
  | o c fs =>
    rw [q] at h1
    have s := R1.sl i
    rw [q] at s
    obtain ⟨a', dx, ws, as, k1, k2, k3, k4⟩ := s
    have g1 : FinS ⟨X.K, cl, B, Hi0, pin⟩ io W D Hi1 (if c = c0 ∧ fs.length < 1000 then some (.nx (ρ1.set i (.o c (putC f (.d d) fs)))) else none) := h1
    by_cases hl : c = c0 ∧ fs.length < 1000
    · rw [if_pos hl] at g1
      obtain ⟨rfl, hl⟩ := hl
      obtain ⟨as', t1, t2⟩ := k4.put (f := f) r1
      have nd := R1.nd i
      rw [k1] at nd
      have na := (List.nodup_cons.mp nd).1
      refine ⟨.ref a', sAt_some k2, a', _, dx, ws, rfl, k3, hc.1, hc.2, by rw [k4.len]; exact hl, ?_⟩
      refine g1 _ _ _ _ (Ex.refl _) (R1.mut (s' := .o c (putC f (.d d) fs)) (l' := a' :: as') (at_lt (by rw [q]; exact fun w => nomatch w)) ⟨a', dx, _, as', rfl, k2, upd_same, ?_⟩ (fun p o hp ho => ?_) (fun b hb => .inl ?_) ?_)
      · exact t1.mono (Ex.refl _) fun b hb o ho => by rw [upd_ne fun z => na (by rw [← z]; exact t2.subset hb)]; exact ho
      · rw [upd_ne fun z => hp (by rw [k1, z]; exact List.mem_cons_self)]; exact ho
      · rw [k1]
        rcases List.mem_cons.mp hb with hb | hb
        · rw [hb]; exact List.mem_cons_self
        · exact List.mem_cons_of_mem _ (t2.subset hb)
      · exact List.nodup_cons.mpr ⟨fun hb => na (t2.subset hb), (List.nodup_cons.mp nd).2.sublist t2⟩
    · rw [if_neg hl] at g1
      exact g1.elim
  | _ => rw [q] at h1; exact h1.elim
end
end VI
set_option maxHeartbeats 2000000
/-! An own exception class, far over ValueError: its __init__ says super().__init__(text) and keeps its one argument. -/
namespace VX
open PySem PySem.W PySem.Calls PyProof.Rows L2
/-- the shape of such a def -/
structure Ini where
  fI : Addr
  cc : Addr
  cda : Addr
  name : Str
  qual : Str
  scope : Scope
  a1 : Arg
  a2 : Arg
  f : Str
  m : Str
  jm : Nat
  p0 : Pos
  p1 : Pos
  p2 : Pos
  p3 : Pos
  p4 : Pos
  p5 : Pos
  p6 : Pos
  p7 : Pos
  p8 : Pos
  p9 : Pos
  kV : Value
  doc : Value
  pm : Value
  an : Option Addr
  ct : Value
def Ini.params (I : Ini) : Arguments := { posonlyargs := [], args := [I.a1, I.a2], vararg := none, kwonlyargs := [], kw_defaults := [], kwarg := none, defaults := [] }
def Ini.body (I : Ini) : List Stmt := [.Expr (.Call (.Attribute (.Call (.Name "super" I.p0) [] [] I.p1) "__init__" I.p2) [.Constant (.str I.m) I.jm I.p3] [] I.p4) I.p5,
  .Assign [.Attribute (.Name I.a1.arg I.p6) I.f I.p7] (.Name I.a2.arg I.p8) I.p9]
def Ini.fd (I : Ini) : FuncData := ksFn I.name I.qual I.params I.body I.scope .none I.kV I.doc I.pm I.an (.ref I.cda) I.ct I.cc
/-- what the written part says of it -/
structure IniOk (K : PySem.W.Frag) (prog : Program) (mg : Str → Option Value) (C : Addr) (I : Ini) : Prop where
  top : (prog.main.scope.names.lookup ("super" : Str)).isSome = false
  T : OexC K C
  iC : findIn K (.ref C) "__init__" = some (some (.ref I.fI))
  tI : typeIn K (.ref I.fI) = some (.type "function")
  lk : ∃ oc od osl, K.lookup I.fI = some ⟨oc, od, .func I.fd, osl⟩
  hcd : codeIn K (.ref I.cda) I.qual = true
  code : ∃ c d vs sl tf, K.lookup I.cda = some ⟨c, d, .fields vs, sl⟩ ∧ vs[2]? = some (.str prog.main.file tf)
  cell : ∃ c d sl, K.lookup I.cc = some ⟨c, d, .cell (some (.ref C)), sl⟩
  dbg1 : (I.a1.arg == ("__debug__" : Str)) = false
  dbg2 : (I.a2.arg == ("__debug__" : Str)) = false
  ne : I.a1.arg ≠ I.a2.arg
  noc : ∀ x ∈ I.scope.names, x.2 ≠ .cell
  co : I.scope.isCoroutine = false
  gen : I.scope.isGenerator = false
  kind : I.scope.kind = .function
  ks : I.scope.names.lookup ("super" : Str) = some .globalImplicit
  kc : I.scope.names.lookup ("__class__" : Str) = some .free
  k1 : I.scope.names.lookup I.a1.arg = some .local
  k2 : I.scope.names.lookup I.a2.arg = some .local
  mro : mroIn K C (.ref C) = some true
  sup : ks_superIn K C C "__init__" = some (some (.builtin "ValueError.__init__"))
  sub : subIn K (.ref C) (.type "ValueError") = some true
  opq : nsIn K cStatics "thirdparty.any" = some none
  noSup : mg "super" = none
  line : (I.p2.endLine == I.p4.line) = true
  noF : findIn K (.ref C) I.f = some none
section
variable {prog : Program} {w : World} {K : PySem.W.Frag} {mg : Str → Option Value} {base : Heap} {C e : Addr} {I : Ini} {A : Around}
theorem ini_bind (h : I.a1.arg ≠ I.a2.arg) (u v : Value) : bindArgs I.fd ⟨[u, v], []⟩ = pure [(I.a1.arg, u), (I.a2.arg, v)] := by
  have e1 : (I.a1.arg == I.a1.arg) = true := beq_self_eq_true _
  have e2 : (I.a2.arg == I.a2.arg) = true := beq_self_eq_true _
  have e3 : (I.a2.arg == I.a1.arg) = false := by simpa using Ne.symm h
  have e0 : seqItems? I.fd.defaults = pure none := rfl
  unfold bindArgs
  rw [e0]
  simp [Ini.fd, Ini.params, List.lookup, e1, e2, e3]
theorem mro_clsIn {s : Shared} {cd : ClassData} (X : K.In s.heap) (hc : clsIn K C = some cd) : ∃ oD, s.heap.get? C = some oD ∧ oD.data = .cls cd := by
  unfold clsIn at hc
  split at hc
  · rename_i c d cd' sl ho
    cases hc
    exact ⟨_, X _ _ ho, rfl⟩
  · cases hc
theorem mcall_eq {p0 p1 p2 p3 p4 : Pos} {m : Str} {j : Nat} (env : PySem.Env) (h : (p2.endLine == p4.line) = true) : eval (.Call (.Attribute (.Call (.Name "super" p0) [] [] p1) "__init__" p2) [.Constant (.str m) j p3] [] p4) env = (do
      let ov ← attributeBase (.Call (.Name "super" p0) [] [] p1) "__init__" env (eval (.Call (.Name "super" p0) [] [] p1) env)
      standAt p2.atName
      let (f, first) ← holding [ov] (getMethod ov "__init__" (do return (← importBound (.Call (.Name "super" p0) [] [] p1) env).getD true))
      callWith p4 f first (backTo p4 (starEach [.Constant (.str m) j p3] env)) []) := by
  rw [eval]
  unfold methodCall
  have e1 : methodCallForm ([Expr.Constant (.str m) j p3].length + ([] : List Keyword).length) (backTo p4 (starEach [.Constant (.str m) j p3] env)) (backToKw p4 (keywordEach [] env)) = true := rfl
  have e2 : methodCallPos true (.Call (.Name "super" p0) [] [] p1) env p2 p4 = pure p4 := by
    unfold methodCallPos
    rw [h]
    rfl
  rw [e1, e2]
  rfl
theorem ini_run (O : IniOk K prog mg C I) (M : Mod K mg base) {hp : Heap} {g : Array GenState} {d : Drawn} {t : Nat} {os : OsState} {t0 : Addr} {v : Value} {R : Result → Shared → Prop}
    (hb : ∀ b o, base.get? b = some o → hp.get? b = some o) (hdep : A.depth < recursionLimit) (he : hp.get? e = some (HandSPX.excO C t0)) (hbe : base.get? e = none)
    (hq : ∀ h' tk' dx t1, (∀ b o, b ≠ e → hp.get? b = some o → h'.get? b = some o) → hp.objs.size ≤ dx → dx ≠ e →
      h'.get? e = some { cls := .ref C, dict := some dx, data := .fields #[.ref t1, .none, .none, .none, .bool false, .none] } → h'.Ns1 dx (fun y => if y = I.f then some v else none) → R (.ok (.ret .none)) ⟨h', g, d, tk', os⟩) :
    codeAny (model prog w) A (.call (.ref I.fI) ⟨[.ref e, v], []⟩) R ⟨hp, g, d, t, os⟩ := by
  obtain ⟨oc, od, osl, lk⟩ := O.lk
  obtain ⟨c1, d1, vs, sl1, tf, lc, hvs⟩ := O.code
  obtain ⟨c2, d2, sl2, lcell⟩ := O.cell
  obtain ⟨nm, q, N, bs, bm, sn, sub, ab, col, dd, k0, k1, k2, k3, k5, hC, hbm⟩ := O.T.cls
  have hcl : PySem.W.clsIn K C = some { name := nm, bases := bs, mro := .ref C :: bm, ns := N, qualname := q, hasDict := true, slotNames := sn, subclasses := sub, abstract := ab, collection := col, hasDel := false } := by unfold PySem.W.clsIn; rw [hC] <;> rfl
  have X0 : K.In hp := M.kin.keeps hb
  have ne0 : ∀ {b : Addr} {o : Obj}, hp.get? b = some o → b ≠ hp.objs.size := fun {b o} z => Nat.ne_of_lt (Heap.lt_size z)
  refine ks_codeAny_call_defAt (fd := I.fd) (body := I.body) (binds := [(I.a1.arg, .ref e), (I.a2.arg, v)]) hdep (X0 _ _ lk) rfl (M.nolimit.keeps hb) (codeRec_of X0 O.hcd) rfl (BindsTo.of_eq (ini_bind O.ne _ _)) O.noc (fun x hx => ?_) (fun h₁ hns hk => ?_) O.co O.gen O.kind
  · rcases List.mem_cons.mp hx with rfl | hx
    · exact O.k1
    · rw [List.mem_singleton.mp hx]
      exact O.k2
  · have l1 : ([(I.a1.arg, Value.ref e), (I.a2.arg, v)] : List (Str × Value)).reverse.lookup I.a1.arg = some (.ref e) := by
      have z : (I.a1.arg == I.a2.arg) = false := by simpa using O.ne
      simp [List.lookup, z]
    have l2 : ([(I.a1.arg, Value.ref e), (I.a2.arg, v)] : List (Str × Value)).reverse.lookup I.a2.arg = some v := by
      simp [List.lookup]
    have hb1 : ∀ b o, base.get? b = some o → h₁.get? b = some o := fun b o z => hk b o (hb b o z)
    have X1 : K.In h₁ := M.kin.keeps hb1
    obtain ⟨mb, hmb, hboot⟩ := M.blt
    have hC1 := X1 _ _ hC
    have he1 := hk _ _ he
    unfold Ini.body
    have hint : interactive (callEnv I.fd hp.objs.size I.fI) = false := by
      show (I.scope.kind == .module && _) = false
      rw [O.kind]
      rfl
    refine ks_wpAt_execs_cons (ks_wpAt_Expr_any (hi := hint) (ks_wpAt_MethodCall (he := mcall_eq _ O.line) (ks_wpAt_super_base (f := I.fI) (cc := I.cda) (ar := I.a1) O.ks O.kc (by decide) rfl (X1 _ _ lk) rfl rfl rfl (X1 _ _ lc) rfl hvs (beq_self_eq_true _) O.top ?_)))
    refine ks_loadName_global O.kind O.ks (Calls.loadGlobal_builtin (M.glob.keeps hb1) O.noSup (hmb.keeps hb1) ((hboot _ (by decide)).trans PyProof.Rows.Boot.«super») ⟨rfl, ?_⟩)
    refine wpAny_loadName_free O.kind O.kc rfl ⟨_, X1 _ _ lcell, rfl⟩ ?_
    refine wpAny_loadName_local O.kind O.k1 hns l1 ?_
    refine ks_wpAny_isType_cls hC1 rfl ⟨rfl, ?_⟩
    refine ks_wpAny_call_super hC1 rfl he1 rfl (fun c z => nomatch z) (looks_mroIn X1 O.mro) (fun h2 hso k2 => ?_)
    have X2 : K.In h2 := X1.keeps k2
    have hI2 : Looks (model prog w) h2 (isInstance (.ref e) (.type "ValueError")) true := (InstAt.type (C := C) (ox := HandSPX.excO C t0) (od := none) ⟨k2 _ _ he1, rfl, rfl, trivial⟩).andThen (looks_subIn X2 O.sub)
    have hsup := O.sup
    unfold ks_superIn at hsup
    rw [hcl] at hsup
    have heC : e ≠ C := fun z => by
      rw [z] at he
      have y := X0 _ _ hC
      rw [he] at y
      cases y
    refine kxs_getMethod kxs_ValueError hso (looks_opaque X2 O.opq) (l₀ := .ref C :: bm) (fun A Q E s k q => wpAny_bind ((looks_clsIn X2 hcl) A _ E s k (wpAny_pure q))) rfl X2 hsup hI2 heC (by decide) ?_
    refine kxs_callWith (i := "ValueError.__init__") (x := e) rfl ?_
    refine Calls.evalArgs_plain (Calls.spliced_cons (Calls.Constant_str (k := I.jm) (pos := I.p3) (Calls.spliced_nil ⟨Heap.get?_push_at rfl rfl, ?_⟩)))
    have k3 : ∀ b o, h₁.get? b = some o → (h2.push (kxs_mw "ValueError.__init__" e)).get? b = some o := fun b o z => Heap.get?_push_of_some _ (k2 b o z)
    have he3 := k3 _ _ he1
    have hC3 := k3 _ _ hC1
    have hu : (h2.push (kxs_mw "ValueError.__init__" e)).get? h2.objs.size = some (kxs_mw "ValueError.__init__" e) := Heap.get?_push_at rfl rfl
    refine wpAny_call (codeAny_of_tree ?_)
    show wpAny _ _ (callAny (.ref h2.objs.size) ⟨[.str I.m _], []⟩) _ _ _
    unfold callAny
    refine wpAny_bind (wpAny_load hu ?_)
    simp only [kxs_mw, show (Value.type "method-wrapper" == Value.type "method" || Value.type "method-wrapper" == Value.type "builtin_function_or_method" || Value.type "method-wrapper" == Value.type "method-wrapper") = true by decide, if_true]
    refine KFB.if_so (by decide) ?_
    refine wpAny_bind (check_bound_init PySem.F.excBase_ValueError.toExcCallFacts hC3 he3 rfl ?_)
    refine wpAny_bind (wpAny_pure (wpAny_pure ?_))
    refine ⟨plainId_quiet PySem.F.excBase_ValueError.init.plain _, codeAny_builtin PySem.F.excBase_ValueError.initEntry ?_⟩
    refine exc_init_tree (cls := .ref C) (t0 := t0) (dv := none) (c2 := .none) (c3 := .none) (b4 := .bool false) he3 (by rw [sizeLine_eq]; show 1 ≤ 16777216; decide) (fun h4 k4 e4 _ => ?_)
    have k5 : ∀ b o, b ≠ e → h₁.get? b = some o → h4.get? b = some o := fun b o n z => k4 b o n (k3 b o z)
    have hLe : hp.objs.size ≠ e := fun z => ne0 he z.symm
    have nbe : ∀ {b : Addr} {o : Obj}, base.get? b = some o → b ≠ e := fun {b o} z y => by
      rw [y, hbe] at z
      cases z
    have X4 : K.In h4 := M.kin.keeps fun b o z => k5 b o (nbe z) (hb1 b o z)
    have hns4 : h4.Ns hp.objs.size (fun x => ([(I.a1.arg, Value.ref e), (I.a2.arg, v)] : List (Str × Value)).reverse.lookup x) := hns.at fun o z => k5 _ o hLe z
    refine ks_wpAt_execs_cons (ks_wpAt_Assign_Attr (wpAt_of_wpAny (ldc (fd := I.fd) O.kind O.k2 hns4 l2 (ldc (fd := I.fd) O.kind O.k1 hns4 l1 ?_ O.dbg1) O.dbg2)))
    refine PySem.W.set_plain X4 (od := none) ⟨e4, rfl, rfl, trivial⟩ O.T.sa ?_
    refine PySem.HandSPX.exc_osa X4 e4 hcl (show PySem.HandSPX.refsVE (.ref C :: bm) = true from hbm) rfl O.noF (fun h5 tk' dx k6 dn dne hx hn => ?_)
    refine wpAt_of_wpAny (wpAny_pure ?_)
    refine hq h5 tk' dx _ (fun b o n z => k6 b o n (k5 b o n (hk b o z))) (Nat.le_trans ?_ dn) dne hx hn
    rcases Nat.lt_or_ge h4.objs.size hp.objs.size with z | z
    · exfalso
      obtain ⟨oL, _, _, hL, _⟩ := hns
      have y : hp.objs.size < h4.objs.size := Heap.lt_size (k5 _ _ hLe (show h₁.get? hp.objs.size = some oL from hL))
      exact Nat.lt_asymm y z
    · exact z
end
end VX
namespace VX
open PySem L2 PySem.Spec PyProof.Rows
/-- C(e), the class's own __init__ keeping it as f -/
def tMkS (C : Addr) (f : Str) (ta : TA) : L2.St → Hp → XK → Prop := fun σ H Q => ta σ H fun vs H1 => ∃ v, vs = [v] ∧ ∀ d, H1 d = none → Q (.ref C) (some d) (upd H1 d (.xd [(f, v)]))
theorem pmk_sup {X : Cx} {x : Str} {C : Addr} {I : Ini} {k : Nat} {e : Expr} {es : List Expr} {ta : TA} {p pos : Pos} (O : IniOk X.K X.prog X.mg C I) (hr : Room (k + 2) X.A) (hg : Gl X x) (hm : X.mg x = some (.ref C)) (ha : PA X (e :: es) ta)
    (hdb : (x == ("__debug__" : Str)) = false := by decide) (he : starEach (e :: es) X.env = (false, eval e X.env) :: starEach es X.env := by rfl) (hpl : (backTo pos (starEach es X.env)).any (·.1) = false := by rfl) :
    PMk X (.Call (.Name x p) (e :: es) [] pos) (tMkS C I.f ta) := by
  intro pins s σ H Q J h
  obtain ⟨nm, q, N, bs, bm, sn, sub, ab, col, dd, k0, k1, k2, k3, k5, hC, hbm⟩ := O.T.cls
  refine wpAny_Call_Name_kw (ld_glob J hg hm ?_ hdb)
  refine PySem.W.callWith_K (h₀ := X.base) J.ok.mod.kin O.T.kC (thn (ha.run pos pins s σ H _ J h) fun us s1 ⟨vs, H1, I1, r1, v, hv, q1⟩ => ⟨I1.kIn, ?_⟩) he hpl
  subst hv
  show wpAny _ _ (call (.ref C) us) _ _ _
  obtain ⟨hp, g, dr, tk, os⟩ := s1
  cases r1 with
  | @cons _ u _ ur ru rn =>
  cases rn
  have hsz : hp.objs.size ≤ hp.objs.size + 1 := Nat.le_succ _
  have hn : H1 (hp.objs.size + 1) = none := I1.hok.fresh hsz
  have kk : ∀ b o, hp.get? b = some o → ((hp.push (PySem.W.kdv_tup [u])).push (PySem.HandSPX.excO C hp.objs.size)).get? b = some o := fun b o z => Heap.get?_push_of_some _ (Heap.get?_push_of_some _ z)
  have hget : ((hp.push (PySem.W.kdv_tup [u])).push (PySem.HandSPX.excO C hp.objs.size)).get? (hp.objs.size + 1) = some (PySem.HandSPX.excO C hp.objs.size) := by heap_get
  have I2 : Inv X pins σ (upd H1 (hp.objs.size + 1) (exo (hp.objs.size + 1) C none)) ⟨(hp.push (PySem.W.kdv_tup [u])).push (PySem.HandSPX.excO C hp.objs.size), g, dr, tk, os⟩ :=
    I1.laid (t' := tk) (a := hp.objs.size + 1) (o := exo (hp.objs.size + 1) C none) (h' := (hp.push (PySem.W.kdv_tup [u])).push (PySem.HandSPX.excO C hp.objs.size)) kk hsz (exo_ok hget)
  have hbase : X.base.get? (hp.objs.size + 1) = none := by
    cases z : X.base.get? (hp.objs.size + 1) with
    | none => rfl
    | some o => exact absurd (Heap.lt_size (I1.bk _ _ z)) (Nat.not_lt.mpr hsz)
  refine wpAny_call (PySem.HandSPX.call_own F.excBase_ValueError (fun Y => PySem.HandSPX.refsVE_contains Y bm hbm) (I1.kIn _ _ hC) (PySem.W.looks_findIn I1.kIn O.iC) (fun self => PySem.W.bind_fn I1.kIn self O.tI) (by rw [sizeLine_eq]; show 1 ≤ 16777216; decide)
    (ini_run O J.ok.mod I2.bk (hr.make C [u] []).depth hget hbase fun h' tk' dx t1 kp dn dne hx hns => ?_))
  have dn2 : hp.objs.size ≤ dx := by
    have y := dn
    rw [Heap.size_push, Heap.size_push] at y
    omega
  have hnd : H1 dx = none := I1.hok.fresh dn2
  have ed : H1 (hp.objs.size + 1) = none := hn
  have e0 : upd H1 (hp.objs.size + 1) (exo (hp.objs.size + 1) C none) (hp.objs.size + 1) = some (exo (hp.objs.size + 1) C none) := upd_same
  have hnd2 : upd H1 (hp.objs.size + 1) (exo (hp.objs.size + 1) C none) dx = none := by rw [upd_ne dne]; exact hnd
  have nd : ∀ {b : Addr} {o : Obj}, ((hp.push (PySem.W.kdv_tup [u])).push (PySem.HandSPX.excO C hp.objs.size)).get? b = some o → b ≠ dx := fun {b o} z => Nat.ne_of_lt (Nat.lt_of_lt_of_le (Heap.lt_size z) dn)
  have na : ∀ {b : Addr}, upd H1 (hp.objs.size + 1) (exo (hp.objs.size + 1) C none) b = none → b ≠ hp.objs.size + 1 := fun {b} n z => by
    rw [z, e0] at n
    cases n
  have un : Un (frs X.stack) [] (upd H1 (hp.objs.size + 1) (exo (hp.objs.size + 1) C none)) (upd (upd (upd H1 (hp.objs.size + 1) (exo (hp.objs.size + 1) C none)) dx (exd dx [(I.f, v)])) (hp.objs.size + 1) (exo (hp.objs.size + 1) C (some dx))) ((hp.push (PySem.W.kdv_tup [u])).push (PySem.HandSPX.excO C hp.objs.size)) h' := {
    keep := fun b o z n _ _ => kp b o (na n) z
    slot := fun b o z n _ _ => ⟨o.slots, kp b o (na n) z⟩
    free := fun b o z n _ => by rw [upd_ne (na n), upd_ne (nd z)]; exact n
    there := fun b o z _ => by
      by_cases hb : b = hp.objs.size + 1
      · exact ⟨_, by rw [hb]; exact hx⟩
      · exact ⟨o, kp b o hb z⟩
    tups := fun b xs z => by rw [upd_ne (at_ne e0 z exo_tup), upd_ne (ne_of_none z hnd2)]; exact z
    frzs := fun b o y z => by rw [upd_ne (at_ne e0 z exo_frz), upd_ne (ne_of_none z hnd2)]; exact z
    tbls := fun b ps z => ⟨#[], by rw [upd_ne (at_ne e0 z exo_tbl), upd_ne (ne_of_none z hnd2), z]; simp⟩ }
  have hok : HOk X.prog X.w (upd (upd (upd H1 (hp.objs.size + 1) (exo (hp.objs.size + 1) C none)) dx (exd dx [(I.f, v)])) (hp.objs.size + 1) (exo (hp.objs.size + 1) C (some dx))) h' := fun b o z => by
    by_cases hb : b = hp.objs.size + 1
    · subst hb
      rw [upd_same] at z
      cases z
      exact exo_ok hx
    · rw [upd_ne hb] at z
      by_cases hd : b = dx
      · subst hd
        rw [upd_same] at z
        cases z
        exact exd_ok hns (relO_put (fs := []) ru fun _ => True.intro)
      · rw [upd_ne hd] at z
        exact (I2.hok b o z).stay (fun c y hc zz => kp c y (by
            rcases hc with hc | hc
            · rw [hc]
              exact hb
            · exact at_ne e0 hc exo_own) zz)
          (fun c hc => by rw [upd_ne (at_ne e0 hc exo_own), upd_ne (ne_of_none hc hnd2)]; exact hc) (fun c xs hc => by rw [upd_ne (at_ne e0 hc exo_tup), upd_ne (ne_of_none hc hnd2)]; exact hc)
  have fin : upd (del (upd (upd (upd H1 (hp.objs.size + 1) (exo (hp.objs.size + 1) C none)) dx (exd dx [(I.f, v)])) (hp.objs.size + 1) (exo (hp.objs.size + 1) C (some dx))) (hp.objs.size + 1)) dx (.xd [(I.f, v)]) = upd H1 dx (.xd [(I.f, v)]) := by
    funext b
    by_cases hd : b = dx
    · rw [hd, upd_same, upd_same]
    · rw [upd_ne hd, upd_ne hd]
      by_cases hb : b = hp.objs.size + 1
      · rw [hb, del_same, ed]
      · rw [del_ne hb, upd_ne hb, upd_ne hd, upd_ne hb]
  refine ⟨rfl, mk_end (os2 := os) (fs := [(I.f, v)]) (raises_own O.T.exC O.T.tyC) I1 hsz kk un hok rfl I1.bare upd_same ?_ hnd ?_⟩
  · rw [upd_ne dne, upd_same]
  · rw [fin]
    exact q1 dx hnd
end VX
set_option maxHeartbeats 2000000
/-! try with several except clauses, each with a name or without. -/
namespace VX
open PySem L2 PySem.Spec PyProof.Rows
abbrev HdW := Value × Option Nat × (Addr → Value → Option Addr → TS)
def endsX : Option Nat → Ends → Ends
  | none, D => D
  | some i, D => { nx := fun τ G => D.nx (τ.set i none) G, rt := D.rt, bk := fun τ G => D.bk (τ.set i none) G, ct := fun τ G => D.ct (τ.set i none) G }
def slotX : Option Nat → Addr → L2.St → L2.St
  | none, _, τ => τ
  | some i, a, τ => τ.set i (some (.ref a))
/-- what the clauses, one behind the other, wish of an exception that leaves the body -/
def wMix (K : PySem.W.Frag) (Wo : WX) (D : Ends) : List HdW → WX
  | [] => Wo
  | (c, o, ts) :: r => fun cls d τ G => ∃ b, PySem.W.exmOne K cls c = some b ∧ (b = true → ∀ a, G a = none → ts a cls d (endsX o D) (slotX o a τ) G) ∧ (b = false → wMix K Wo D r cls d τ G)
inductive HMix (X : Cx) : List ExceptHandler → List HdW → Prop
  | nil : HMix X [] []
  | plain {x : Str} {c : Value} {ts : Addr → Value → Option Addr → TS} {st : Stmt} {su : List Stmt} {p q : Pos} {hds : List ExceptHandler} {l : List HdW} (nm : Names X x c)
      (ok : ∀ (a : Addr) (oe : Obj) (cls : Value) (d : Option Addr) (pn : List (Addr × Obj)), Zc cls d oe → (∃ vs, oe.data = .fields vs) → PSs (X.suite a ((a, oe) :: pn)) (st :: su) (ts a cls d)) (r : HMix X hds l) :
      HMix X (.ExceptHandler (some (.Name x p)) none (st :: su) q :: hds) ((c, none, ts) :: l)
  | named {x n : Str} {i : Nat} {c : Value} {ts : Addr → Value → Option Addr → TS} {st : Stmt} {su : List Stmt} {p q : Pos} {hds : List ExceptHandler} {l : List HdW} (nm : Names X x c) (at_ : X.N[i]? = some n) (lo : X.env.kindOf n = some .local)
      (ok : ∀ (a : Addr) (oe : Obj) (cls : Value) (d : Option Addr) (pn : List (Addr × Obj)), Zc cls d oe → (∃ vs, oe.data = .fields vs) → PSs (X.suite a ((a, oe) :: pn)) (st :: su) (ts a cls d)) (r : HMix X hds l) :
      HMix X (.ExceptHandler (some (.Name x p)) (some n) (st :: su) q :: hds) ((c, some i, ts) :: l)
section
variable {X : Cx} {body : List Stmt} {h₀ : ExceptHandler} {hds : List ExceptHandler} {l : List HdW} {pos : Pos} {tb : WX → TS} {Wo : WX}
theorem ps_try_mix (sk : X.stack = X.env :: X.outer) (fr : X.env.frame = some X.env.locals) (nd : X.N.Nodup) (tk : Takes X Wo)
    (bo : ∀ (W : WX) (pn : List (Addr × Obj)) (xe : Value → Shared → Prop), Takes (X.tr pn xe) W → PassesOwn (model X.prog X.w) X.A X.env xe → PSs (X.tr pn xe) body (tb W))
    (hm : HMix X (h₀ :: hds) l) : PS X (.Try body (h₀ :: hds) [] [] pos) (fun D τ G => tb (wMix X.K Wo D l) D τ G) := by
  refine ⟨fun pins s τ G D J h => ?_⟩
  have ok := J.ok
  have frs_ : X.A.frames = some (X.env :: X.outer) := by rw [ok.frames, sk]
  refine wpAny_Try_except ?_
  refine wpAny_mono ((bo (wMix X.K Wo D l) (X.pn ++ pins) (fun e s₁ => wpAny (model X.prog X.w) X.A (noteFrame e X.env) (fun _ s₂ => wpAny (model X.prog X.w) X.A (setFlight e none) (fun _ s₃ =>
    wpAny (model X.prog X.w) X.A (handleBy e X.env (h₀ :: hds)) (SP X pins D) X.xe s₃) X.xe s₂) X.xe s₁) (fun u s' air => ?_) PassesOwn.looking).run [] s τ G D (J.toTry _) h) (fun f s1 done => ?_) (fun _ _ z => z)
  · obtain ⟨a, B, sI, pins2, τ2, G2, cls, d, rfl, J2, nb, up, sky, na, os, ag, wish⟩ := air
    have I2 : Inv X pins τ2 G2 sI := J2.ofTry ok
    have sky2 : Sky B (X.env :: X.outer) a (Zc cls d) X.env.locals s'.heap := by rw [← sk]; exact sky
    show wpAny (model X.prog X.w) X.A (noteFrame (.ref a) X.env) _ _ _
    refine Sky.land Zc.steady frs_ fr sky2 fun h3 fl up3 => ?_
    have I3 : Inv X pins τ2 G2 { s' with heap := h3 } := I2.landed nb fl.1 (up.trans up3) os ag
    obtain ⟨oe3, vs3, at3, z3, d3⟩ := fl.there
    have noFrame : a ∉ frs (X.env :: X.outer) := fun hmem => by
      obtain ⟨_, o2, at2, hnf⟩ := fl.2.2.1.mem hmem
      rw [at3] at at2; cases at2
      exact hnf _ d3
    have nL : a ≠ X.env.locals := fun z => noFrame (List.mem_filterMap.mpr ⟨X.env, List.mem_cons_self, by rw [fr, z]⟩)
    have nF : a ∉ X.fs := fun hmem => by
      obtain ⟨e, h1, h2⟩ := List.mem_filterMap.mp hmem
      exact noFrame (List.mem_filterMap.mpr ⟨e, List.mem_cons_of_mem _ h1, h2⟩)
    have S3 := I3.suite at3 d3 na nL nF
    have look : ∀ {x : Str} {c : Value} {p : Pos} {Q : Value → Shared → Prop} {E : Value → Shared → Prop}, Names X x c → Q c { s' with heap := h3 } → wpAny (model X.prog X.w) (X.A.mark (some (.ref a))) (eval (.Name x p) X.env) Q E { s' with heap := h3 } := fun {x c p Q E} nm q => by
      obtain ⟨g1, g2, g3 | ⟨g3, g4, g5⟩⟩ := nm
      · exact ld_glob (X := X.suite a ((a, oe3) :: (X.pn ++ pins))) S3 g1 g3 q g2
      · exact ld_blt (X := X.suite a ((a, oe3) :: (X.pn ++ pins))) S3 g1 g3 g4 q g5 g2
    have LT : PySem.W.Looks (model X.prog X.w) h3 (typeOf (.ref a)) cls := fun A Q E s k q => wpAny_typeOf_ref (k _ _ at3) (by rw [z3.1]; exact q)
    have go : ∀ {hd2 : List ExceptHandler} {l2 : List HdW}, HMix X hd2 l2 → wMix X.K Wo D l2 cls d τ2 G2 → wpAny (model X.prog X.w) X.A (handleBy (.ref a) X.env hd2) (SP X pins D) X.xe { s' with heap := h3 } := by
      intro hd2 l2 hk
      induction hk with
      | nil =>
        intro w
        refine wpAny_handleBy_nil ?_
        obtain ⟨_, _, _, oe, vs, T, _, _, he, _, hd, h1, _⟩ := id fl
        unfold PySem.passOn
        refine wpAny_bind (wpAny_field he hd h1 ?_)
        rw [if_neg (show ¬ ((Value.ref T == Value.none) = true) from by simp)]
        have on : wpAny (model X.prog X.w) X.A (setFlight (.ref a) X.env.frame) (fun _ s4 => wpAny (model X.prog X.w) X.A (throw (.ref a) : Sem Flow) (SP X pins D) X.xe s4) X.xe { s' with heap := h3 } := by
          rw [fr]
          refine HandSPX.setFlight_upZ fl fun h4 held up4 => wpAny_throw (tk _ _ ?_)
          exact ⟨a, B, sI, pins, τ2, G2, cls, d, rfl, I2, nb, (up.trans up3).trans up4, .inr (.inr (by rw [sk]; exact held)), na, os, ag, w⟩
        first
          | exact wpAny_bind (wpAny_pure (wpAny_bind on))
          | exact wpAny_bind on
      | @plain x c ts st su p q hd3 l3 nm sok r ih =>
        intro w
        obtain ⟨b, b1, yes, no⟩ := w
        refine wpAny_handleBy_cons (codeAny_handlers_test ?_) (by intro q; cases q)
        refine look nm ((PySem.W.exm_one (M := model X.prog X.w) (I3.kIn) LT b1).here ?_)
        cases b with
        | false => exact ih (no rfl)
        | true =>
          refine codeAny_handlers_suite ?_
          refine HandSPX.lands_againZ fl fun h4 fl4 up4 => ?_
          have I4 : Inv X pins τ2 G2 { s' with heap := h4 } := I2.landed nb fl4.1 ((up.trans up3).trans up4) os ag
          obtain ⟨oe4, vs4, at4, z4, d4⟩ := fl4.there
          refine wpAny_mono ((sok a oe4 cls d (X.pn ++ pins) z4 ⟨_, d4⟩).run [] _ _ G2 _ (I4.suite at4 d4 na nL nF) (yes rfl a na)) (fun f s6 hsp => ?_) (fun _ _ z => False.elim z)
          cases f <;> obtain ⟨_, _, S6, _⟩ := id hsp <;> first
            | (obtain ⟨_, _, S6, q6⟩ := hsp; exact ⟨_, _, S6.unsuite ok, q6⟩)
            | (obtain ⟨v6, _, _, S6, r6, q6⟩ := hsp; exact ⟨v6, _, _, S6.unsuite ok, r6, q6⟩)
      | @named x n i c ts st su p q hd3 l3 nm at_ lo sok r ih =>
        intro w
        obtain ⟨b, b1, yes, no⟩ := w
        refine wpAny_handleBy_cons (codeAny_handlers_test ?_) (by intro q; cases q)
        refine look nm ((PySem.W.exm_one (M := model X.prog X.w) (I3.kIn) LT b1).here ?_)
        cases b with
        | false => exact ih (no rfl)
        | true =>
          refine codeAny_handlers_suite_as ?_
          refine HandSPX.lands_againZ fl fun h4 fl4 up4 => ?_
          have I4 : Inv X pins τ2 G2 { s' with heap := h4 } := I2.landed nb fl4.1 ((up.trans up3).trans up4) os ag
          obtain ⟨oe4, vs4, at4, z4, d4⟩ := fl4.there
          refine store_ok (X := X.suite a ((a, oe4) :: (X.pn ++ pins))) (v := .ref a) (I4.suite at4 d4 na nL nF) nd at_ (.inl lo) rfl (fun s5 S5 => ?_) (.inr lo)
          refine wpAny_mono ((sok a oe4 cls d (X.pn ++ pins) z4 ⟨_, d4⟩).run [] s5 _ G2 _ S5 (yes rfl a na)) (fun f s6 hsp => ?_) (fun _ _ z => False.elim z)
          have off : ∀ {τ6 : L2.St} {G6 : Hp} {Q : Shared → Prop}, Inv (X.suite a ((a, oe4) :: (X.pn ++ pins))) [] τ6 G6 s6 → (∀ s7, Inv X pins (τ6.set i none) G6 s7 → Q s7) →
              wpAny (model X.prog X.w) X.A (do bindName X.env n .none; unbindBehindTheSuite X.env n q) (fun _ s7 => Q s7) X.xe s6 := fun {τ6 G6 Q} S6 hq => gone_ok (S6.unsuite ok) nd at_ lo hq
          cases f with
          | next => obtain ⟨_, _, S6, q6⟩ := hsp; exact off S6 fun s7 J7 => ⟨_, _, J7, q6⟩
          | brk => obtain ⟨_, _, S6, q6⟩ := hsp; exact off S6 fun s7 J7 => ⟨_, _, J7, q6⟩
          | cont => obtain ⟨_, _, S6, q6⟩ := hsp; exact off S6 fun s7 J7 => ⟨_, _, J7, q6⟩
          | ret u => obtain ⟨_, _, _, S6, r6, q6⟩ := hsp; exact off S6 fun s7 J7 => ⟨_, _, _, J7, r6, q6⟩
    exact go hm wish
  · cases f with
    | next => obtain ⟨_, _, J2, q⟩ := done; exact wpAny_execs_nil ⟨_, _, J2.ofTry ok, q⟩
    | brk => obtain ⟨_, _, J2, q⟩ := done; exact ⟨_, _, J2.ofTry ok, q⟩
    | cont => obtain ⟨_, _, J2, q⟩ := done; exact ⟨_, _, J2.ofTry ok, q⟩
    | ret u => obtain ⟨_, _, _, J2, r, q⟩ := done; exact ⟨_, _, _, J2.ofTry ok, r, q⟩
end
end VX
set_option maxHeartbeats 4000000
/-! isinstance of a caught error that has a dict. -/
namespace VX
open PySem PySem.Spec PySem.Calls PyProof.Rows PySem.W
section
variable {prog : Program} {w : World} {A : Around} {E : Value → Shared → Prop} {s : Shared} {K : PySem.W.Frag} {y G : Addr} {oy : Obj} {od : Option Obj}
theorem find_dataD {nm : Str} {a g : Value} (h1 : (clsIn K G).isSome = true) (h2 : findIn K (.ref G) nm = some (some a)) (h3 : specialIn K a "__get__" = some (some g)) (h4 : takesIn K a = some true) : findObj K G od nm = some (.bind g a) := by
  obtain ⟨cd, h1⟩ := Option.isSome_iff_exists.mp h1
  simp only [findObj, h1, h2, h3, h4, Option.bind_some]
theorem class_of_exc {Q : Option Value → Shared → Prop} (C : L2.ExcC K G) (X : K.In s.heap) (J : InstAt s.heap y oy G od) (h : Q (some (.ref G)) { s with toks := s.toks + 1 }) : wpAny (model prog w) A (getAttr? (.ref y) "__class__") Q E s := by
  have fo : findObj K G od "__class__" = some (.bind (.builtin "getset_descriptor.__get__") (.builtin "object.__class__")) := find_dataD (by obtain ⟨cd, hc, _⟩ := any_some C.hd; rw [hc]; rfl) C.ha C.hn C.ht
  obtain ⟨hp, g, d, t, os⟩ := s
  have k0 := J.type (M := model prog w)
  have k1 := looks_findIn (M := model prog w) X C.hg
  have k2 := looks_findIn (M := model prog w) X C.hk
  have k3 := looks_find (M := model prog w) X J fo
  have sb : Looks (model prog w) hp (isInstance (.ref y) (.type "BaseException")) true := k0.andThen (looks_subIn X C.hs)
  have n0 : (false && onTheHeap (Value.builtin "BaseException.__getattribute__")) = false := rfl
  have n2 : (Value.builtin "BaseException.__getattribute__" == Value.builtin "object.__getattribute__") = false := by decide +kernel
  have n1 : (onTheHeap (Value.ref G) && Value.builtin "BaseException.__getattribute__" == Value.builtin "object.__getattribute__") = false := by rw [n2] <;> rfl
  unfold getAttr?
  unfold getAttrBy?
  unfold getAttrBy
  refine wpAny_bind (wpAny_mkText (wpAny_bind (wpAny_attempt (wpAny_holding (wpAny_bind (k0.at (wpAny_bind (k1.at ?_))))))))
  show wpAny _ _ (if (onTheHeap (Value.ref G) && Value.builtin "BaseException.__getattribute__" == Value.builtin "object.__getattribute__") = true then _ else _) _ _ _
  rw [n1, if_neg Bool.false_ne_true]
  unfold getAttrByItsOwn
  unfold hookBefore
  refine wpAny_bind ?_
  rw [if_pos (show onTheHeap (Value.ref G) = true from rfl)]
  refine k2.at ?_
  refine wpAny_bind (wpAny_attempt (wpAny_holding ?_))
  unfold callGetattribute
  rw [n0, if_neg Bool.false_ne_true]
  unfold boundAndCalled
  rw [PySem.F.excAttr_ValueError.ga.bind (.ref y)]
  refine wpAny_bind (wpAny_pure ?_)
  show wpAny _ _ (call (.builtin "BaseException.__getattribute__") [.ref y, .str "__class__" t]) _ _ _
  refine wpAny_call (codeAny_call_builtin PySem.F.excAttr_ValueError.ga.plain PySem.F.entry_bexc_ga ?_)
  refine @check_slot (model prog w) _ _ ⟨hp, g, d, t + 1, os⟩ "BaseException.__getattribute__" "BaseException" "__getattribute__" (.ref y) [.str "__class__" t] [] _ (by decide +kernel) (by decide +kernel) sb (PySem.F.args_bexc_ga (.ref y) (.str "__class__" t)) ?_
  unfold Builtin.«object.__getattribute__»
  refine wpAny_bind (wpAny_of_eq (a := ((Value.ref y : Value), [Value.str "__class__" t])) (by first | rfl | (simp only [slotArgs]; rfl)) ?_)
  refine wpAny_bind (wpAny_pure (wpAny_bind (k0.at (wpAny_bind (k3.at ?_)))))
  show wpAny _ _ (holding [Value.builtin "object.__class__"] (call (.builtin "getset_descriptor.__get__") [.builtin "object.__class__", .ref y, .ref G]) >>= ret) _ _ _
  refine wpAny_bind (wpAny_holding (wpAny_call (class_get (s := ⟨hp, g, d, t + 1, os⟩) (ox := oy) (od := od) X J C.hm ?_)))
  refine wpAny_pure ?_
  show wpAny _ _ (handedOut (.ref G)) _ _ _
  rw [handedOut_of (v := .ref G) rfl]
  first
    | exact wpAny_pure (wpAny_pure h)
    | exact wpAny_pure h
    | exact wpAny_pure (wpAny_bind (wpAny_pure (wpAny_pure h)))
theorem kit_excD (C : L2.ExcC K G) : KitX K (.ref y) (.ref G) (fun h => ∃ od, InstAt h y oy G od) where
  ty := fun _ _ _ ⟨_, J⟩ => J.type
  it := fun _ _ X _ => by
    obtain ⟨cdG, hcG, _⟩ := any_some C.hd
    unfold clsIn at hcG
    split at hcG
    · rename_i _ _ _ _ ho
      intro A' Q' E' s' k q
      unfold isType
      unfold loadHead
      exact wpAny_bind (wpAny_loadPart (k _ _ (X _ _ ho)) (wpAny_pure q))
    · cases hcG
  ne := fun h tp dd its n sl X htp => by
    obtain ⟨cdG, hcG, _⟩ := any_some C.hd
    refine Bool.eq_false_iff.mpr fun q => ?_
    obtain rfl : G = tp := Value.ref.inj (beq_iff_eq.mp q)
    unfold clsIn at hcG
    split at hcG
    · rename_i _ _ _ _ ho
      have z := (X _ _ ho).symm.trans htp
      cases z
    · cases hcG
  ca := fun X ⟨_, J⟩ k => class_of_exc C X J k
end
end VX
namespace VX
open PySem L2 PySem.Spec PyProof.Rows
/-- isinstance(e, c), e held by the suite, its fields in the dict at d -/
theorem call_isD {X : Cx} {a D d : Addr} {oe : Obj} {pn : List (Addr × Obj)} (C : ExcC X.K D) (hz : Zc (.ref D) (some d) oe) (hf : ∃ vs, oe.data = .fields vs) :
    CallR (X.suite a ((a, oe) :: pn)) (.builtin "isinstance") (fun xs H Q => (∃ fs, H d = some (.xd fs)) ∧ rIsE X.K D a xs H Q) := by
  intro pins s σ H xs us Q I r h
  obtain ⟨⟨fs, hd⟩, c, cv, b, rfl, hcv, e, q⟩ := h
  cases r with
  | cons rx rr =>
    cases rr with
    | cons rt rr =>
      cases rr
      cases rx
      obtain rfl := hcv _ rt
      obtain ⟨hget, _⟩ := I.pin (a, oe) (List.mem_append.mpr (.inl List.mem_cons_self))
      obtain ⟨vs, hv⟩ := hf
      have hx : ObjOk X.prog X.w H s.heap d (.xd fs) := I.hok d _ hd
      obtain ⟨mA, hns, _⟩ := hx
      obtain ⟨od, ho, _⟩ := lookIn_ns hns
      have J : PySem.W.InstAt s.heap a oe D (some od) := ⟨hget, hz.1, by unfold PySem.W.notCls; rw [hv] <;> rfl, by rw [hz.2]; exact ho⟩
      exact PySem.W.kia_one (kit_excD C) I.kIn ⟨_, J⟩ e (fun z => nomatch z) fun tk => ⟨.bl b, H, I.kept (t' := tk) fun _ _ z => z, rfl, q⟩
end VX
set_option maxHeartbeats 2000000
/-! Exceptions: raise, try, what an except suite reads. -/
namespace VI
open PySem L2 Evl VX
section
variable {X : Cx} {cl : Cl} {io : List Nat} {W : WX} {Γ : Gam} {fu : Nat} {a b c : Expr} {ia ib ic : E} {pos p : Pos} {st : Stmt} {rest sb sc : List Stmt} {s1 s2 : S} {x : Str} {i : Nat}
theorem snd_rse {k n : Nat} {I : Ini} {f : Str} {pos2 : Pos} (hc : X.calm = true) (tk : Takes X W) (O : IniOk X.K X.prog X.mg (cl.fn n) I) (hf : I.f = f) (hr : Room (k + 2) X.A) (hg : Gl X x) (hm : X.mg x = some (.ref (cl.fn n))) (hd : (x == ("__debug__" : Str)) = false)
    (hp : plainX a = true) (ha : PE X a (tE X cl io W Γ ia)) : PS X (.Raise (some (.Call (.Name x p) [a] [] pos2)) none pos) (tS X cl io W Γ fu (.rse n f ia)) := by
  refine PS.imp (ps_raise hc tk (pmk_sup O hr hg hm (pa_cons ha pa_nil (star_cons hp)) hd (star_cons hp) rfl)) ?_
  rintro D σ H ⟨B, Hi0, pin, Hi, ρ, A, R, h⟩
  refine ⟨B, Hi0, pin, Hi, ρ, A, R, ?_⟩
  rw [evS] at h
  refine h.sbnd fun v Hi1 H1 ρ1 A1 d e1 R1 r1 h1 => ⟨v, rfl, fun dx hdx => ?_⟩
  obtain ⟨A2, R2⟩ := Rel.newD (o := .xd [(f, v)]) ⟨A1, R1⟩ hdx
  have e2 : Ex Hi1 (upd Hi1 dx (.xd [(f, v)])) := Ex.new (Rel.hfree ⟨A1, R1⟩ hdx)
  rw [hf]
  exact h1 dx _ σ _ _ A2 e2 R2 upd_same (.cons (Rep.mono e2 _ _ r1) .nil)
/-! the exception at hand -/
theorem snd_xf {Y : Cx} {ax d : Addr} {n : Nat} {w : List (Str × D)} {oe : Obj} {pn : List (Addr × Obj)} {f : Str} (hxa : cl.xa = some ⟨i, n, ax, d, w⟩) (hcur : Γ.cur = some (i, n, w)) (T : XfC Y.K (cl.fn n)) (hno : PySem.W.findIn Y.K (.ref (cl.fn n)) f = some none)
    (hz : Zc (.ref (cl.fn n)) (some d) oe) (hf : ∃ vs, oe.data = .fields vs) (hN : Y.N[i]? = some x) (hv : Vis Y.env.scope x) (hd : (x == ("__debug__" : Str)) = false) (hcd : (x == ("__classdict__" : Str)) = false) :
    PE (Y.suite ax ((ax, oe) :: pn)) (.Attribute (.Name x p) f pos) (tE (Y.suite ax ((ax, oe) :: pn)) cl io W Γ (.xf i f)) := by
  refine PE.imp (pe_xf T hno hz hf (pe_var (X := Y.suite ax ((ax, oe) :: pn)) hN hv hd hcd)) ?_
  rintro σ H Q ⟨B, Hi0, pin, Hi, ρ, A, R, h⟩
  unfold evE at h
  rw [hcur] at h
  have h' : FinG ⟨Y.K, cl, B, Hi0, pin⟩ io W Hi σ RV Q (if i = i then ok1 (w.lookup f) ρ else none) := h
  rw [if_pos rfl] at h'
  obtain ⟨dv, hl, h2⟩ := ok1_some h'
  obtain ⟨hp, fs, hfs, hr⟩ := R.xo _ hxa
  obtain ⟨v, e1, e2⟩ := repF_get hr hl
  refine ⟨.ref ax, sAt_some (R.pn _ hp).1, rfl, rfl, d, fs, v, rfl, R.i _ _ (R.i0 _ _ hfs), e1, ?_⟩
  exact h2.ok R (Rep.mono R.i0 _ _ e2)
theorem snd_xis {Y : Cx} {ax d : Addr} {n : Nat} {w : List (Str × D)} {oe : Obj} {pn : List (Addr × Obj)} {t : XT} {tv : V} {cv : Value} {e2 : Expr} {p1 : Pos} (hxa : cl.xa = some ⟨i, n, ax, d, w⟩) (hcur : Γ.cur = some (i, n, w)) (T : ExcC Y.K (cl.fn n))
    (hk : PySem.W.kitOne Y.K (.ref (cl.fn n)) cv = some (hitX n t)) (htv : ∀ u, RelV tv u → u = cv) (hpt : PE (Y.suite ax ((ax, oe) :: pn)) e2 (tC tv)) (hpl : plainX e2 = true)
    (hg : Gl Y "isinstance") (hm : Y.mg "isinstance" = none) (hz : Zc (.ref (cl.fn n)) (some d) oe) (hf : ∃ vs, oe.data = .fields vs) (hN : Y.N[i]? = some x) (hv : Vis Y.env.scope x) (hd : (x == ("__debug__" : Str)) = false) (hcd : (x == ("__classdict__" : Str)) = false) :
    PE (Y.suite ax ((ax, oe) :: pn)) (.Call (.Name "isinstance" p) [.Name x p1, e2] [] pos) (tE (Y.suite ax ((ax, oe) :: pn)) cl io W Γ (.xis i [t])) := by
  refine PE.imp (pe_callB (call_isD (X := Y) T hz hf) hg hm (by decide +kernel) (pa_cons (pe_var (X := Y.suite ax ((ax, oe) :: pn)) hN hv hd hcd) (pa_cons hpt pa_nil (star_cons hpl)) rfl) (he := rfl) (hpl := star_any (by rw [List.all_cons, hpl]; rfl))) ?_
  rintro σ H Q ⟨B, Hi0, pin, Hi, ρ, A, R, h⟩
  unfold evE at h
  rw [hcur] at h
  have h' : FinG ⟨Y.K, cl, B, Hi0, pin⟩ io W Hi σ RV Q (if i = i then some (.ok (.bl ([t].any (hitX n))) ρ) else none) := h
  rw [if_pos rfl] at h'
  obtain ⟨hp, fs, hfs, hr⟩ := R.xo _ hxa
  have e : [t].any (hitX n) = hitX n t := by simp
  refine ⟨.ref ax, sAt_some (R.pn _ hp).1, ⟨fs, R.i _ _ (R.i0 _ _ hfs)⟩, tv, cv, hitX n t, rfl, htv, hk, ?_⟩
  rw [← e]
  exact h'.ok R (.bl _)
/-! into the suite, and out of it -/
def Ain (A : Nat → List Addr) (i : Nat) : Nat → List Addr := fun k => if k = i then [] else A k
theorem suite_in {P : Par} {Hi H : Hp} {σ : L2.St} {ρ : Env} {A : Nat → List Addr} {n : Nat} {ax dx : Addr} {fs : List (Str × V)} {w : List (Str × D)} (R : RelA P io Hi H σ ρ A) (hi : i < ρ.length) (hn : i ∉ io) (hx : Hi dx = some (.xd fs)) (hr : RepF P.K P.cl Hi fs w) :
    RelA ⟨P.K, ⟨P.cl.fn, P.cl.sp, some ⟨i, n, ax, dx, w⟩⟩, P.B, Hi, (i, ax) :: P.pin⟩ (i :: io) Hi H (σ.set i (some (.ref ax))) (ρ.set i .no) (Ain A i) where
  b := R.b
  i := R.i
  i0 := Ex.refl _
  fr := fun _ _ h => h
  len := by rw [List.length_set, List.length_set]; exact R.len
  sl := fun j => by
    rw [sAt_set (by rw [R.len]; exact hi), at_set hi]
    unfold Ain
    by_cases e : j = i
    · rw [if_pos e, if_pos e, if_pos e]; rfl
    · rw [if_neg e, if_neg e, if_neg e]
      exact R.sl j
  ow := fun j a ha => by
    unfold Ain at ha
    split at ha
    · cases ha
    · exact R.ow j a ha
  nd := fun j => by
    unfold Ain
    split
    · exact List.nodup_nil
    · exact R.nd j
  dj := fun j k hjk a ha => by
    unfold Ain at ha ⊢
    split at ha
    · cases ha
    · split
      · exact List.not_mem_nil
      · exact R.dj j k hjk a ha
  pn := fun p hp => by
    rcases List.mem_cons.mp hp with rfl | hp
    · exact ⟨by rw [sAt_set (by rw [R.len]; exact hi), if_pos rfl], List.mem_cons_self⟩
    · obtain ⟨h1, h2⟩ := R.pn p hp
      refine ⟨?_, List.mem_cons_of_mem _ h2⟩
      rw [sAt_set (by rw [R.len]; exact hi), if_neg]
      · exact h1
      · intro e; rw [e] at h2; exact hn h2
  xo := fun z hz => by
    cases hz
    exact ⟨List.mem_cons_self, fs, hx, hr⟩
theorem suite_out {P P2 : Par} {Hi0 Hi H : Hp} {σ : L2.St} {ρ : Env} {A : Nat → List Addr} (hK : P2.K = P.K) (hfn : P2.cl.fn = P.cl.fn) (hB : P2.B = P.B) (h0 : P2.Hi0 = Hi0) (hpin : ∀ p ∈ P.pin, p ∈ P2.pin) (e0 : Ex P.Hi0 Hi0) (f0 : ∀ p, P.B p ≠ none → Hi0 p ≠ none → P.Hi0 p ≠ none)
    (x0 : ∀ z, P.cl.xa = some z → (z.i, z.a) ∈ P.pin ∧ ∃ fs, P.Hi0 z.d = some (.xd fs) ∧ RepF P.K P.cl P.Hi0 fs z.w)
    (hio : ∀ p ∈ P.pin, p.1 ∈ io) (hn : i ∉ io) (hi : i < ρ.length) (R : RelA P2 (i :: io) Hi H σ ρ A) : RelA P io Hi H (σ.set i none) (ρ.set i .no) (Ain A i) where
  b := fun p o h => R.b p o (by rw [hB]; exact h)
  i := R.i
  i0 := fun p o h => R.i0 p o (by rw [h0]; exact e0 p o h)
  fr := fun p h1 h2 => f0 p h1 (by have := R.fr p (by rw [hB]; exact h1) h2; rw [h0] at this; exact this)
  len := by rw [List.length_set, List.length_set]; exact R.len
  sl := fun j => by
    rw [sAt_set (by rw [R.len]; exact hi), at_set hi]
    unfold Ain
    by_cases e : j = i
    · rw [if_pos e, if_pos e, if_pos e]; rfl
    · rw [if_neg e, if_neg e, if_neg e]
      have := R.sl j
      cases q : ρ.at j <;> rw [q] at this <;> (unfold SlotOk at this ⊢; rw [hK, hfn] at this; exact this) 
  ow := fun j a ha => by
    unfold Ain at ha
    split at ha
    · cases ha
    · have := R.ow j a ha
      rw [hB] at this
      exact this
  nd := fun j => by
    unfold Ain
    split
    · exact List.nodup_nil
    · exact R.nd j
  dj := fun j k hjk a ha => by
    unfold Ain at ha ⊢
    split at ha
    · cases ha
    · split
      · exact List.not_mem_nil
      · exact R.dj j k hjk a ha
  pn := fun p hp => by
    have h2 := hio p hp
    refine ⟨?_, h2⟩
    rw [sAt_set (by rw [R.len]; exact hi), if_neg]
    · exact (R.pn p (hpin p hp)).1
    · intro e; rw [e] at h2; exact hn h2
  xo := x0
/-! try -/
def valT (cl : Cl) : XT → Value
  | .own c => .ref (cl.fn c)
  | .sup x => cl.sp x
def tsP (K : PySem.W.Frag) (cl : Cl) (io : List Nat) (Γ : Gam) (fu : Nat) (s : S) : Addr → Value → Option Addr → TS := fun _ _ _ => tSt K cl io W0 (evS ⟨Γ.fn, none⟩ fu s)
def tsN (K : PySem.W.Frag) (cl : Cl) (io : List Nat) (Γ : Gam) (fu m i : Nat) (s : S) : Addr → Value → Option Addr → TS := fun a cls d D σ H =>
  ∃ n dx w, cls = .ref (cl.fn n) ∧ d = some dx ∧ n < m ∧ tSt K ⟨cl.fn, cl.sp, some ⟨i, n, a, dx, w⟩⟩ (i :: io) W0 (evS ⟨Γ.fn, some (i, n, w)⟩ fu s) D σ H
def lOf (K : PySem.W.Frag) (cl : Cl) (io : List Nat) (Γ : Gam) (fu m : Nat) : S → List HdW
  | .hnd t none s r => (valT cl t, none, tsP K cl io Γ fu s) :: lOf K cl io Γ fu m r
  | .hnd t (some i) s r => (valT cl t, some i, tsN K cl io Γ fu m i s) :: lOf K cl io Γ fu m r
  | _ => []
inductive HdOk (X : Cx) (cl : Cl) (io : List Nat) (Γ : Gam) (fu m : Nat) : S → List ExceptHandler → Prop
  | nil : HdOk X cl io Γ fu m .nil []
  | plain {t : XT} {s r : S} {x : Str} {st : Stmt} {su : List Stmt} {p q : Pos} {hds : List ExceptHandler} (nm : Names X x (valT cl t)) (hit : ∀ n, n < m → PySem.W.exmOne X.K (.ref (cl.fn n)) (valT cl t) = some (hitX n t))
      (ok : ∀ (a : Addr) (oe : Obj) (pn : List (Addr × Obj)), PSs (X.suite a ((a, oe) :: pn)) (st :: su) (tSt X.K cl io W0 (evS ⟨Γ.fn, none⟩ fu s))) (r' : HdOk X cl io Γ fu m r hds) :
      HdOk X cl io Γ fu m (.hnd t none s r) (.ExceptHandler (some (.Name x p)) none (st :: su) q :: hds)
  | named {t : XT} {i : Nat} {s r : S} {x n : Str} {st : Stmt} {su : List Stmt} {p q : Pos} {hds : List ExceptHandler} (nm : Names X x (valT cl t)) (hit : ∀ n, n < m → PySem.W.exmOne X.K (.ref (cl.fn n)) (valT cl t) = some (hitX n t))
      (at_ : X.N[i]? = some n) (lo : X.env.kindOf n = some .local) (hn : i ∉ io)
      (ok : ∀ (a d : Addr) (k : Nat) (w : List (Str × D)) (oe : Obj) (pn : List (Addr × Obj)), Zc (.ref (cl.fn k)) (some d) oe → (∃ vs, oe.data = .fields vs) → k < m → PSs (X.suite a ((a, oe) :: pn)) (st :: su) (tSt X.K ⟨cl.fn, cl.sp, some ⟨i, k, a, d, w⟩⟩ (i :: io) W0 (evS ⟨Γ.fn, some (i, k, w)⟩ fu s)))
      (r' : HdOk X cl io Γ fu m r hds) : HdOk X cl io Γ fu m (.hnd t (some i) s r) (.ExceptHandler (some (.Name x p)) (some n) (st :: su) q :: hds)
theorem HdOk.mix {m : Nat} : ∀ {hh : S} {hds : List ExceptHandler}, HdOk X cl io Γ fu m hh hds → HMix X hds (lOf X.K cl io Γ fu m hh)
  | _, _, .nil => .nil
  | _, _, .plain nm hit ok r => .plain nm (fun a oe cls d pn _ _ => ok a oe pn) r.mix
  | _, _, .named nm hit at_ lo hn ok r => .named nm at_ lo (fun a oe cls d pn hz hf => ⟨fun pins s σ H D I h => by
      obtain ⟨k, dx, w, e1, e2, e3, h⟩ := h
      subst e1 e2
      exact (ok a dx k w oe pn hz hf e3).run pins s σ H D I h⟩) r.mix
theorem noX_of {P : Par} {D : Ends} {Hi : Hp} {o : Option SOut} (h : FinS P io W D Hi (noX o)) : FinS P io W0 D Hi o := by
  cases o with
  | none => exact h
  | some u => cases u <;> first | exact h | exact h.elim
theorem try_wish {m : Nat} {B Hi0 : Hp} {pin : List (Nat × Addr)} {D : Ends} {Hi H : Hp} {σ : L2.St} {ρ : Env} {A : Nat → List Addr} {c : Nat} {dx : Addr} {fs : List (Str × V)} {w : List (Str × VI.D)} (R : RelA ⟨X.K, cl, B, Hi0, pin⟩ io Hi H σ ρ A) (hx : Hi dx = some (.xd fs)) (hr : RepF X.K cl Hi fs w) (hc : c < m) :
    ∀ {hh : S} {hds : List ExceptHandler}, HdOk X cl io Γ fu m hh hds → FinS ⟨X.K, cl, B, Hi0, pin⟩ io W D Hi (evH Γ fu hh c w ρ) → wMix X.K W D (lOf X.K cl io Γ fu m hh) (.ref (cl.fn c)) (some dx) σ H
  | _, _, .nil, h => h dx fs σ Hi H A (Ex.refl _) R hx hr
  | _, _, .plain (t := t) (s := s) (r := r) nm hit ok r', h => by
    refine ⟨hitX c t, hit c hc, fun hb a ha => ?_, fun hb => ?_⟩
    · rw [evH, if_pos hb] at h
      exact ⟨B, Hi0, pin, Hi, ρ, A, R, noX_of h⟩
    · rw [evH, if_neg (by rw [hb]; exact Bool.false_ne_true)] at h
      exact try_wish R hx hr hc r' h
  | _, _, .named (t := t) (i := i) (s := s) (r := r) nm hit at_ lo hn ok r', h => by
    refine ⟨hitX c t, hit c hc, fun hb a ha => ?_, fun hb => ?_⟩
    · rw [evH, if_pos hb] at h
      by_cases hi : i < ρ.length
      · rw [if_pos hi] at h
        refine ⟨c, dx, w, rfl, rfl, hc, B, Hi, (i, a) :: pin, Hi, ρ.set i .no, Ain A i, suite_in R hi hn hx hr, ?_⟩
        have out : ∀ {σ' : L2.St} {Hi' H' : Hp} {ρ' : Env} {A' : Nat → List Addr}, RelA ⟨X.K, ⟨cl.fn, cl.sp, some ⟨i, c, a, dx, w⟩⟩, B, Hi, (i, a) :: pin⟩ (i :: io) Hi' H' σ' ρ' A' → RelA ⟨X.K, cl, B, Hi0, pin⟩ io Hi' H' (σ'.set i none) (ρ'.set i .no) (Ain A' i) ∧ i < ρ'.length := fun {σ' Hi' H' ρ' A'} R' => by
          have h1 := (R'.pn (i, a) List.mem_cons_self).1
          have hi' : i < ρ'.length := by
            rw [← R'.len]
            exact (List.getElem?_eq_some_iff.mp (sAt_some h1)).1
          exact ⟨suite_out (P := ⟨X.K, cl, B, Hi0, pin⟩) (P2 := ⟨X.K, ⟨cl.fn, cl.sp, some ⟨i, c, a, dx, w⟩⟩, B, Hi, (i, a) :: pin⟩) rfl rfl rfl rfl (fun p hp => List.mem_cons_of_mem _ hp) R.i0 R.fr R.xo (fun p hp => (R.pn p hp).2) hn hi' R', hi'⟩
        cases q : evS ⟨Γ.fn, some (i, c, w)⟩ fu s (ρ.set i .no) with
        | none => rw [q] at h; exact h
        | some o =>
          rw [q] at h
          cases o with
          | nx ρ1 => exact fun σ' Hi' H' A' e R' => h _ Hi' H' _ e (out R').1
          | bk ρ1 => exact fun σ' Hi' H' A' e R' => h _ Hi' H' _ e (out R').1
          | ct ρ1 => exact fun σ' Hi' H' A' e R' => h _ Hi' H' _ e (out R').1
          | ex c2 w2 ρ1 => exact h.elim
          | ret r1 ρ1 =>
            intro v σ' Hi' H' A' e R' hret
            obtain ⟨R2, hi'⟩ := out R'
            refine h v _ Hi' H' _ e R2 ?_
            cases r1 with
            | no => exact hret
            | v d => exact hret
            | _ =>
              obtain ⟨j, j1, j2, j3⟩ := hret
              have hji : j ≠ i := fun z => j1 (by rw [z]; exact List.mem_cons_self)
              refine ⟨j, fun z => j1 (List.mem_cons_of_mem _ z), ?_, ?_⟩
              · rw [at_set hi', if_neg hji]; exact j2
              · rw [sAt_set (by rw [R'.len]; exact hi'), if_neg hji]; exact j3
      · rw [if_neg hi] at h
        exact h.elim
    · rw [evH, if_neg (by rw [hb]; exact Bool.false_ne_true)] at h
      exact try_wish R hx hr hc r' h
theorem snd_try {m : Nat} {hh : S} {h₀ : ExceptHandler} {hds : List ExceptHandler} (sk : X.stack = X.env :: X.outer) (fr : X.env.frame = some X.env.locals) (nd : X.N.Nodup) (tk : Takes X W)
    (bo : ∀ (W : WX) (pn : List (Addr × Obj)) (xe : Value → Shared → Prop), Takes (X.tr pn xe) W → PassesOwn (model X.prog X.w) X.A X.env xe → PSs (X.tr pn xe) sb (tSt X.K cl io W (evS Γ fu s1)))
    (hm : HdOk X cl io Γ fu m hh (h₀ :: hds)) : PS X (.Try sb (h₀ :: hds) [] [] pos) (tS X cl io W Γ fu (.tryx m s1 hh)) := by
  refine PS.imp (ps_try_mix (tb := fun W => tSt X.K cl io W (evS Γ fu s1)) sk fr nd tk bo hm.mix) ?_
  rintro D σ H ⟨B, Hi0, pin, Hi, ρ, A, R, h⟩
  refine ⟨B, Hi0, pin, Hi, ρ, A, R, ?_⟩
  rw [evS] at h
  cases q : evS Γ fu s1 ρ with
  | none => rw [q] at h; exact h
  | some o =>
    rw [q] at h
    cases o with
    | nx ρ1 => exact h
    | bk ρ1 => exact h
    | ct ρ1 => exact h
    | ret r ρ1 => exact h
    | ex c w ρ1 =>
      intro dx fs σ' Hi' H' A' e R' hx hr
      have h' : FinS ⟨X.K, cl, B, Hi0, pin⟩ io W D Hi (if c < m then evH Γ fu hh c w ρ1 else none) := h
      by_cases hc : c < m
      · rw [if_pos hc] at h'
        exact try_wish R' hx hr hc hm (FinS.mono e h')
      · rw [if_neg hc] at h'
        exact h'.elim
end
end VI
set_option maxHeartbeats 2000000
/-! A name and a comprehension on one line; the stores whose value may be one. -/
namespace VI
open PySem L2 Evl RT RZ
section
variable {X : Cx} {cl : Cl} {io : List Nat} {W : WX} {Γ : Gam} {fu : Nat} {i : Nat} {x : Str} {a : Expr} {p pos : Pos}
theorem asg_of {ia : E} (hn : i ∉ io) (ha : PS X (.Assign [.Name x p] a pos) (tAsg (tE X cl io W Γ ia) (gName i))) : PS X (.Assign [.Name x p] a pos) (tS X cl io W Γ fu (.asg i ia)) := by
  refine PS.imp ha ?_
  rintro D σ H ⟨B, Hi0, pin, Hi, ρ, A, R, h⟩
  refine ⟨B, Hi0, pin, Hi, ρ, A, R, ?_⟩
  rw [evS] at h
  exact h.sbnd fun v Hi1 H1 ρ1 A1 d e1 R1 r1 h1 => setS_of hn R1 r1 h1
theorem newL_of {il : L} (hn : i ∉ io) (ha : PS X (.Assign [.Name x p] a pos) (tAsg (tL X cl io W Γ il) (gName i))) : PS X (.Assign [.Name x p] a pos) (tS X cl io W Γ fu (.newL i il)) := by
  refine PS.imp ha ?_
  rintro D σ H ⟨B, Hi0, pin, Hi, ρ, A, R, h⟩
  refine ⟨B, Hi0, pin, Hi, ρ, A, R, ?_⟩
  rw [evS] at h
  refine h.sbnd fun v Hi1 H1 ρ1 A1 d e1 R1 r1 h1 => ?_
  unfold setS at h1
  by_cases hc : i < ρ1.length
  · rw [if_pos hc] at h1
    obtain ⟨q, vs, rfl, h2, h3, h4, h5, h6⟩ := r1
    obtain ⟨A', R'⟩ := RelA.setL R1 (by rw [R1.len]; exact hc) hn h2 h4 h5 h6 h3
    exact h1 _ Hi1 H1 A' (Ex.refl _) R'
  · rw [if_neg hc] at h1
    exact h1.elim
theorem newT_of {nm : NM} (hn : i ∉ io) (ha : PS X (.Assign [.Name x p] a pos) (tAsg (tN X cl io W Γ nm) (gName i))) : PS X (.Assign [.Name x p] a pos) (tS X cl io W Γ fu (.newT i nm)) := by
  refine PS.imp ha ?_
  rintro D σ H ⟨B, Hi0, pin, Hi, ρ, A, R, h⟩
  refine ⟨B, Hi0, pin, Hi, ρ, A, R, ?_⟩
  rw [evS] at h
  exact h.sbnd fun v Hi1 H1 ρ1 A1 d e1 R1 r1 h1 => setT_of hn R1 r1 h1
/-- what a comprehension needs -/
structure LcOk (X : Cx) (cl : Cl) (io : List Nat) (W : WX) (Γ : Gam) (tg iter : Expr) (scope : Scope) (ownN : List (Str × Nat)) (it : I) (p : Pt) : Prop where
  calm : X.calm = true
  N : X.N.Nodup
  it : PI X tg iter (tI X cl io W Γ it)
  ok : BlkOk X.N X.env.scope scope ownN
  g : ∀ (s : Shared) (H : Hp) (C : Addr) (k : List (Str × Addr)) (fp : List Addr), PtOk (X.blk s H scope (compEnvC scope k C X.env) fp) io p tg
  s : ∀ x, foldedSetIterable iter X.env x = pure x
  pt : ∀ i ∈ ptS p, i ∈ ownN.map (·.2)
  io : ∀ i ∈ ownN.map (·.2), i ∉ io
variable {elt tg iter cnd : Expr} {scope : Scope} {ownN : List (Str × Nat)} {it : I} {pt : Pt} {ic ie : E} {il : L} {py spos : Pos}
abbrev Blks (X : Cx) (scope : Scope) (f : Cx → Prop) : Prop := ∀ (s : Shared) (H : Hp) (C : Addr) (k : List (Str × Addr)) (fp : List Addr), f (X.blk s H scope (compEnvC scope k C X.env) fp)
theorem lc_imp (O : LcOk X cl io W Γ tg iter scope ownN it pt) (σ : L2.St) (H : Hp) (Q : VK) (h : tL X cl io W Γ (.lc (ownN.map (·.2)) it pt ie) σ H Q) : tLc (tI X cl io W Γ it) (gP X.K pt) tYes (tG X.K cl io W0 RV (evE Γ ie)) (ownN.map (·.2)) σ H Q := by
  refine lc_of (evc := fun ρ => some (.ok true ρ)) (eve := evE Γ ie) O.pt O.io ?_ σ H Q ?_
  · rintro σ H Q ⟨B, Hi0, pin, Hi, ρ, A, R, h⟩
    exact h.ok R rfl
  · obtain ⟨B, Hi0, pin, Hi, ρ, A, R, h⟩ := h
    refine ⟨B, Hi0, pin, Hi, ρ, A, R, ?_⟩
    unfold evL at h
    exact h
theorem lci_imp (O : LcOk X cl io W Γ tg iter scope ownN it pt) (σ : L2.St) (H : Hp) (Q : VK) (h : tL X cl io W Γ (.lci (ownN.map (·.2)) it pt ic ie) σ H Q) : tLc (tI X cl io W Γ it) (gP X.K pt) (tG X.K cl io W0 RT (evT Γ ic)) (tG X.K cl io W0 RV (evE Γ ie)) (ownN.map (·.2)) σ H Q := by
  refine lc_of (evc := evT Γ ic) (eve := evE Γ ie) O.pt O.io (fun _ _ _ h => h) σ H Q ?_
  obtain ⟨B, Hi0, pin, Hi, ρ, A, R, h⟩ := h
  refine ⟨B, Hi0, pin, Hi, ρ, A, R, ?_⟩
  unfold evL at h
  exact h
theorem lcN_imp (O : LcOk X cl io W Γ tg iter scope ownN it pt) (σ : L2.St) (H : Hp) (Q : VK) (h : tN X cl io W Γ (.lc (ownN.map (·.2)) it pt il) σ H Q) : tLc (tI X cl io W Γ it) (gP X.K pt) tYes (tG X.K cl io W0 RL (evL Γ il)) (ownN.map (·.2)) σ H Q := by
  refine lcN_of (evl := evL Γ il) O.pt O.io σ H Q ?_
  obtain ⟨B, Hi0, pin, Hi, ρ, A, R, h⟩ := h
  refine ⟨B, Hi0, pin, Hi, ρ, A, R, ?_⟩
  unfold evN at h
  exact h
theorem LcOk.pg (O : LcOk X cl io W Γ tg iter scope ownN it pt) (s : Shared) (H : Hp) (C : Addr) (k : List (Str × Addr)) (fp : List Addr) : PG (X.blk s H scope (compEnvC scope k C X.env) fp) tg (gP X.K pt) :=
  pg_pt (X := X.blk s H scope (compEnvC scope k C X.env) fp) (p := pt) O.calm O.N (O.g s H C k fp)
theorem snd_lc' (O : LcOk X cl io W Γ tg iter scope ownN it pt) (he : Blks X scope fun Y => PE Y elt (tE Y cl io W0 Γ ie)) : PE X (.ListComp elt [⟨tg, iter, [], 0⟩] scope pos) (tL X cl io W Γ (.lc (ownN.map (·.2)) it pt ie)) :=
  PE.imp (pe_lc (g := gP X.K pt) O.calm O.N O.it O.ok O.pg (fun s H C k fp => pts_nil) he O.s) fun σ H Q h => lc_imp O σ H Q h
theorem snd_lci' (O : LcOk X cl io W Γ tg iter scope ownN it pt) (ht : Blks X scope fun Y => PT Y cnd (tT Y cl io W0 Γ ic)) (he : Blks X scope fun Y => PE Y elt (tE Y cl io W0 Γ ie)) : PE X (.ListComp elt [⟨tg, iter, [cnd], 0⟩] scope pos) (tL X cl io W Γ (.lci (ownN.map (·.2)) it pt ic ie)) :=
  PE.imp (pe_lc (g := gP X.K pt) O.calm O.N O.it O.ok O.pg (fun s H C k fp => pts_one (ht s H C k fp)) he O.s) fun σ H Q h => lci_imp O σ H Q h
theorem snd_lcN' (O : LcOk X cl io W Γ tg iter scope ownN it pt) (he : Blks X scope fun Y => PE Y elt (tL Y cl io W0 Γ il)) : PE X (.ListComp elt [⟨tg, iter, [], 0⟩] scope pos) (tN X cl io W Γ (.lc (ownN.map (·.2)) it pt il)) :=
  PE.imp (pe_lc (g := gP X.K pt) O.calm O.N O.it O.ok O.pg (fun s H C k fp => pts_nil) he O.s) fun σ H Q h => lcN_imp O σ H Q h
/-- name = [..] on one line -/
structure SwOk (X : Cx) (i : Nat) (y : Str) (py pos : Pos) (scope : Scope) : Prop where
  hi : X.N[i]? = some y
  loc : X.env.scope.names.lookup y = some .local
  kind : X.env.scope.kind = .function
  line : (py.line == pos.line) = true
  own : (scope.names.any fun (n, k) => n == y && (k == .local || k == .cell)) = false
theorem ps_lc' (S : SwOk X i x py pos scope) (O : LcOk X cl io W Γ tg iter scope ownN it pt) (he : Blks X scope fun Y => PE Y elt (tE Y cl io W0 Γ ie)) :
    PS X (.Assign [.Name x py] (.ListComp elt [⟨tg, iter, [], 0⟩] scope pos) spos) (tAsg (tL X cl io W Γ (.lc (ownN.map (·.2)) it pt ie)) (gName i)) :=
  PS.imp (ps_setLc (g := gP X.K pt) O.calm O.N S.hi S.loc (sw_true S.kind S.loc S.line S.own) O.it O.ok O.pg (fun s H C k fp => pts_nil) he O.s) fun D σ H h => lc_imp O σ H _ h
theorem ps_lci' (S : SwOk X i x py pos scope) (O : LcOk X cl io W Γ tg iter scope ownN it pt) (ht : Blks X scope fun Y => PT Y cnd (tT Y cl io W0 Γ ic)) (he : Blks X scope fun Y => PE Y elt (tE Y cl io W0 Γ ie)) :
    PS X (.Assign [.Name x py] (.ListComp elt [⟨tg, iter, [cnd], 0⟩] scope pos) spos) (tAsg (tL X cl io W Γ (.lci (ownN.map (·.2)) it pt ic ie)) (gName i)) :=
  PS.imp (ps_setLc (g := gP X.K pt) O.calm O.N S.hi S.loc (sw_true S.kind S.loc S.line S.own) O.it O.ok O.pg (fun s H C k fp => pts_one (ht s H C k fp)) he O.s) fun D σ H h => lci_imp O σ H _ h
theorem ps_lcN' (S : SwOk X i x py pos scope) (O : LcOk X cl io W Γ tg iter scope ownN it pt) (he : Blks X scope fun Y => PE Y elt (tL Y cl io W0 Γ il)) :
    PS X (.Assign [.Name x py] (.ListComp elt [⟨tg, iter, [], 0⟩] scope pos) spos) (tAsg (tN X cl io W Γ (.lc (ownN.map (·.2)) it pt il)) (gName i)) :=
  PS.imp (ps_setLc (g := gP X.K pt) O.calm O.N S.hi S.loc (sw_true S.kind S.loc S.line S.own) O.it O.ok O.pg (fun s H C k fp => pts_nil) he O.s) fun D σ H h => lcN_imp O σ H _ h
/-- a list that is assigned as a value -/
theorem asg_ofL {il : L} (ha : PS X (.Assign [.Name x p] a pos) (tAsg (tL X cl io W Γ il) (gName i))) : PS X (.Assign [.Name x p] a pos) (tAsg (tE X cl io W Γ (.ofL il)) (gName i)) :=
  PS.imp ha fun D σ H h => ofL_imp σ H _ h
end
end VI
set_option maxHeartbeats 2000000
/-! The check that a term of the language is the program's text, and the soundness as a whole. -/
namespace VI
open PySem L2 Evl VX
structure Fn where
  name : Str
  io : List Nat
  np : Nat
  glob : Bool
structure CI where
  name : Str
  f : Str
/-- an ordinary class: its name, its number, its methods, properties and fields, its maker -/
structure KI where
  name : Str
  cn : Nat
  meths : List (Str × Nat)
  props : List (Str × Nat)
  flds : List Str
  mks : List (Nat × List Str)
structure Ctx where
  N : List Str
  sc : Scope
  io : List Nat
  fns : List Fn
  free : List Str
  gcds : List Str
  cls : List CI
  sups : List Str
  flds : List Str
  glos : List (Str × D)
  ks : List KI
  su : Bool
  blk : Bool
  cur : Option Nat
/-- an except suite's -/
def Ctx.suite (C : Ctx) : Option Nat → Ctx
  | none => { C with fns := [], ks := [], su := true, cur := none }
  | some i => { C with io := i :: C.io, fns := [], ks := [], su := true, cur := some i }
def relS (scope sc : Scope) : Scope := { scope with names := scope.names.map fun (n, k) => if (k == NameKind.free && sc.kind == .function && sc.names.lookup n == some NameKind.cell) then (n, NameKind.cell) else (n, k) }
/-- a comprehension's block's -/
def Ctx.inBlk (C : Ctx) (scope : Scope) : Ctx := { C with sc := relS scope C.sc, blk := true, cur := none }
def Ctx.ownN (C : Ctx) (own : List Nat) : List (Str × Nat) := own.map fun i => ((C.N[i]?).getD Str.empty, i)
theorem ownN_map {C : Ctx} (own : List Nat) : (C.ownN own).map (·.2) = own := by
  unfold Ctx.ownN
  rw [List.map_map]
  exact List.map_id' own
def eqAtom : D → D → Bool
  | .non, .non => true
  | .bl a, .bl b => decide (a = b)
  | .int a, .int b => decide (a = b)
  | .str a, .str b => decide (a = b)
  | _, _ => false
theorem eqAtom_eq {a b : D} (h : eqAtom a b = true) : a = b := by
  cases a <;> cases b <;> first | rfl | (cases h; done) | (have e := of_decide_eq_true h; rw [e])
def Ctx.vis (C : Ctx) (x : Str) : Bool := decide (C.sc.names.lookup x = some .local) || decide (C.sc.names.lookup x = some .cell) || decide (C.sc.names.lookup x = some .free)
def Ctx.loc (C : Ctx) (x : Str) : Bool := decide (C.sc.names.lookup x = some .local)
def Ctx.name (C : Ctx) (i : Nat) (x : Str) : Bool := decide (C.N[i]? = some x) && C.vis x && !(x == ("__debug__" : Str)) && !(x == ("__classdict__" : Str))
def Ctx.glob (C : Ctx) (x : Str) : Bool := decide (C.sc.names.lookup x = some .globalImplicit)
def Ctx.blt (C : Ctx) (x y : Str) : Bool := decide (x = y) && C.glob x && decide (x ∈ C.free)
def Ctx.fn (C : Ctx) (f : Nat) (x : Str) : Bool := C.glob x && !(x == ("__debug__" : Str)) && match C.fns[f]? with
  | some g => decide (g.name = x) && g.glob
  | none => false
def Ctx.cel (C : Ctx) (x : Str) : Bool := decide (C.sc.names.lookup x = some .cell)
/-- a name that is stored -/
def Ctx.tgI (C : Ctx) (i : Nat) (x : Str) : Bool := decide (C.N[i]? = some x) && (C.loc x || (!C.blk && C.cel x)) && decide (i ∉ C.io)
def tgts (C : Ctx) : List Nat → List Expr → Bool
  | [], [] => true
  | i :: is, .Name x _ :: es => C.tgI i x && tgts C is es
  | _, _ => false
def mtP (C : Ctx) : Pt → Expr → Bool
  | .n i, .Name x _ => C.tgI i x
  | .t is, .Tuple es _ _ => tgts C is es
  | _, _ => false
def Ctx.hasFld (C : Ctx) (c : Nat) (f : Str) : Bool := C.ks.any fun k => decide (k.cn = c) && decide (f ∈ k.flds)
def Ctx.hasMeth (C : Ctx) (c f : Nat) (m : Str) : Bool := C.ks.any fun k => decide (k.cn = c) && decide ((m, f) ∈ k.meths)
def Ctx.hasProp (C : Ctx) (c f : Nat) (m : Str) : Bool := C.ks.any fun k => decide (k.cn = c) && decide ((m, f) ∈ k.props)
def Ctx.hasMk (C : Ctx) (c f : Nat) (x : Str) (ks : List Str) : Bool := C.ks.any fun k => decide (k.cn = c) && decide (k.name = x) && decide ((f, ks) ∈ k.mks)
def isFnK : ScopeKind → Bool
  | .function => true
  | _ => false
def isLC : Expr → Bool
  | .ListComp _ _ _ _ => true
  | _ => false
def isBO : Expr → Bool
  | .BoolOp _ _ _ => true
  | _ => false
def isTup : Expr → Bool
  | .Tuple _ _ _ => true
  | _ => false
def noComp : Expr → Bool
  | .ListComp _ _ _ _ => false
  | .SetComp _ _ _ _ => false
  | .DictComp _ _ _ _ _ => false
  | _ => true
def noSet : Expr → Bool
  | .Set _ _ _ => false
  | _ => true
def noTup : Expr → Bool
  | .Tuple _ _ _ => false
  | _ => true
def isName : Expr → Bool
  | .Name _ _ => true
  | .Attribute _ _ _ => true
  | .Subscript _ _ _ => true
  | _ => false
/-- a term whose test is its value's truth, or a chain of not, and, or of such -/
def tst : E → Bool
  | .ifx _ _ _ => false
  | .not a => tst a
  | .and a b => tst a && tst b
  | .or a b => tst a && tst b
  | .peek a => tst a
  | .ofL _ => false
  | _ => true
def Ctx.hasGlo (C : Ctx) (x : Str) (d : D) : Bool := C.glos.any fun p => decide (p.1 = x) && eqAtom p.2 d
def Ctx.tg (C : Ctx) (y : Str) : XT → Bool
  | .own c => (match C.cls[c]? with | some ci => decide (ci.name = y) | none => false)
  | .sup z => decide (y = z) && decide (z ∈ C.sups)
/-- a class that an except clause or isinstance names -/
def Ctx.target (C : Ctx) (t : XT) : Expr → Bool
  | .Name y _ => C.glob y && !(y == ("__debug__" : Str)) && C.tg y t
  | _ => false
def tyName (C : Ctx) (t : Ty) : Expr → Bool
  | .Name x _ => C.blt x (Str.ofString t.name)
  | _ => false
def tyNames (C : Ctx) : List Ty → List Expr → Bool
  | [], [] => true
  | t :: ts, e :: es => tyName C t e && tyNames C ts es
  | _, _ => false
/-- a comprehension, but for its parts -/
def Ctx.lcB (C : Ctx) (own : List Nat) (p : Pt) (tg iter : Expr) (scope : Scope) : Bool :=
  !C.su && blkC C.N C.sc scope (C.ownN own) && noSet iter && mtP (C.inBlk scope) p tg && ((ptS p).all fun i => decide (i ∈ own)) && (own.all fun i => decide (i ∉ C.io))
mutual
def mtE (C : Ctx) : E → Expr → Bool
  | .var i, e0 => match e0 with
    | .Name x _ => C.name i x
    | _ => false
  | .cst d, e0 => match e0 with
    | .Constant k _ _ => match constD k with | some d' => eqAtom d' d | none => false
    | _ => false
  | .tup a, e0 => match e0 with
    | .Tuple es _ _ => mtA C a es
    | _ => false
  | .bin op a b, e0 => match e0 with
    | .BinOp x o y _ => decide (o = opA op) && mtE C a x && mtE C b y
    | _ => false
  | .neg a, e0 => match e0 with
    | .UnaryOp .USub x _ => mtE C a x
    | _ => false
  | .cmp op a b, e0 => match e0 with
    | .Compare x [o] [y] _ => decide (o = cmA op) && mtE C a x && mtE C b y
    | _ => false
  | .eqq ne a b, e0 => match e0 with
    | .Compare x [o] [y] _ => decide (o = if ne then .NotEq else .Eq) && mtE C a x && mtE C b y
    | _ => false
  | .isN ne a, e0 => match e0 with
    | .Compare x [o] [.Constant .none _ _] _ => decide (o = if ne then .IsNot else .Is) && mtE C a x
    | _ => false
  | .and a b, e0 => match e0 with
    | .BoolOp .And (x :: y :: r) p => (mtE C a x && match r with
      | [] => mtE C b y
      | _ => mtE C b (.BoolOp .And (y :: r) p))
    | _ => false
  | .or a b, e0 => match e0 with
    | .BoolOp .Or (x :: y :: r) p => (mtE C a x && match r with
      | [] => mtE C b y
      | _ => mtE C b (.BoolOp .Or (y :: r) p))
    | _ => false
  | .not a, e0 => match e0 with
    | .UnaryOp .Not x _ => mtE C a x
    | _ => false
  | .ifx c a b, e0 => match e0 with
    | .IfExp z x y _ => tst c && mtE C c z && mtE C a x && mtE C b y
    | _ => false
  | .call f a, e0 => match e0 with
    | .Call (.Name x _) (e :: es) [] _ => C.fn f x && (e :: es).all plainX && mtA C a (e :: es)
    | _ => false
  | .isT a ts, e0 => match e0 with
    | .Call (.Name x _) [e, t] [] _ => (C.blt x "isinstance" && plainX e && mtE C a e && match t with
      | .Tuple es _ _ => tyNames C ts es && decide (ts.length ≤ sizeLine)
      | t => match ts with | [u] => tyName C u t | _ => false)
    | _ => false
  | .len a, e0 => match e0 with
    | .Call (.Name x _) [e] [] _ => C.blt x "len" && plainX e && mtE C a e
    | _ => false
  | .lenl i, e0 => match e0 with
    | .Call (.Name x _) [.Name y _] [] _ => C.blt x "len" && C.name i y
    | _ => false
  | .abs a, e0 => match e0 with
    | .Call (.Name x _) [e] [] _ => C.blt x "abs" && plainX e && mtE C a e
    | _ => false
  | .int1 a, e0 => match e0 with
    | .Call (.Name x _) [e] [] _ => C.blt x "int" && plainX e && mtE C a e
    | _ => false
  | .min2 a b, e0 => match e0 with
    | .Call (.Name x _) [e, e'] [] _ => !C.su && C.blt x "min" && plainX e && plainX e' && mtE C a e && mtE C b e'
    | _ => false
  | .max2 a b, e0 => match e0 with
    | .Call (.Name x _) [e, e'] [] _ => !C.su && C.blt x "max" && plainX e && plainX e' && mtE C a e && mtE C b e'
    | _ => false
  | .gcd a b, e0 => match e0 with
    | .Call (.Name x _) [e, e'] [] _ => C.glob x && !(x == ("__debug__" : Str)) && decide (x ∈ C.gcds) && plainX e && plainX e' && mtE C a e && mtE C b e'
    | _ => false
  | .bits a, e0 => match e0 with
    | .Call (.Attribute e n p2) [] [] p => decide (n = "bit_length") && isName e && (p2.endLine == p.line) && mtE C a e
    | _ => false
  | .ix a b, e0 => match e0 with
    | .Subscript x y _ => noSlice y && mtE C a x && mtE C b y
    | _ => false
  | .pop i, e0 => match e0 with
    | .Call (.Attribute (.Name x _) n p3) [] [] p => decide (n = "pop") && C.name i x && (p3.endLine == p.line)
    | _ => false
  | .tupOf a, e0 => match e0 with
    | .Call (.Name x _) [e] [] _ => C.blt x "tuple" && plainX e && mtE C a e
    | _ => false
  | .ofL l, e => mtL C l e
  | .glo x d, e0 => match e0 with
    | .Name y _ => decide (y = x) && C.glob y && !(y == ("__debug__" : Str)) && C.hasGlo x d
    | _ => false
  | .inn ne a b, e0 => match e0 with
    | .Compare x [o] [y] _ => decide (o = if ne then .NotIn else .In) && !(behindInMarks o y) && mtE C a x && mtE C b y
    | _ => false
  | .strI a, e0 => match e0 with
    | .Call (.Name x _) [e] [] _ => C.blt x "str" && plainX e && mtE C a e
    | _ => false
  | .startsw a b, e0 => match e0 with
    | .Call (.Attribute e n p2) [v] [] p => decide (n = "startswith") && isName e && plainX v && (p2.endLine == p.line) && mtE C a e && mtE C b v
    | _ => false
  | .partn a b, e0 => match e0 with
    | .Call (.Attribute e n p2) [v] [] p => decide (n = "partition") && isName e && plainX v && (p2.endLine == p.line) && mtE C a e && mtE C b v
    | _ => false
  | .slF a b, e0 => match e0 with
    | .Subscript x (.Slice (some l) none none _) _ => mtE C a x && mtE C b l
    | _ => false
  | .slT a b, e0 => match e0 with
    | .Subscript x (.Slice none (some l) none _) _ => mtE C a x && mtE C b l
    | _ => false
  | .fst r, e0 => match e0 with
    | .JoinedStr (e1 :: e2 :: es) _ => mtF C r (e1 :: e2 :: es)
    | _ => false
  | .xf i f, e0 => match e0 with
    | .Attribute (.Name x _) f' _ => decide (C.cur = some i) && C.name i x && decide (f' = f) && decide (f ∈ C.flds)
    | _ => false
  | .xis i ts, e0 => match e0 with
    | .Call (.Name fn _) [.Name x _, e2] [] _ => C.blt fn "isinstance" && decide (C.cur = some i) && C.name i x && plainX e2 && match ts with
      | [t] => C.target t e2
      | _ => false
    | _ => false
  | .slB a b c, e0 => match e0 with
    | .Subscript x (.Slice (some l) (some r) none _) _ => mtE C a x && mtE C b l && mtE C c r
    | _ => false
  | .peek a, e0 => !isBO e0 && mtE C a e0
  | .un o a, e0 => match e0 with
    | .Call (.Name x _) [e] [] _ => !C.su && C.blt x o.name && plainX e && mtE C a e
    | _ => false
  | .chn o1 o2 a b c, e0 => match e0 with
    | .Compare x [p1, p2] [y, z] _ => decide (p1 = cmA o1) && decide (p2 = cmA o2) && mtE C a x && mtE C b y && mtE C c z
    | _ => false
  | .fld a f cs, e0 => match e0 with
    | .Attribute e f' _ => decide (f' = f) && isName e && (cs.all fun c => C.hasFld c f) && mtE C a e
    | _ => false
  | .dis k m tb a r, e0 => (match k with
    | .meth => (match e0 with
      | .Call (.Attribute e m' p2) es [] p => decide (m' = m) && isName e && (p2.endLine == p.line) && es.all plainX && decide (es.length < 30) && (tb.all fun q => C.hasMeth q.1 q.2 m) && mtE C a e && mtA C r es
      | _ => false)
    | .prop => (match e0 with
      | .Attribute e m' _ => decide (m' = m) && isName e && (tb.all fun q => C.hasProp q.1 q.2 m) && (match r with | .nil => true | _ => false) && mtE C a e
      | _ => false))
  | .mk c f r ks kr, e0 => match e0 with
    | .Call (.Name x _) (e :: es) kws _ => C.glob x && !(x == ("__debug__" : Str)) && C.hasMk c f x ks && (e :: es).all plainX && decide (kwNames kws = some ks) && mtA C r (e :: es) && mtK C kr kws
    | _ => false
  | .isC _ _, _ => false
  | .ixl i a, e0 => match e0 with
    | .Subscript (.Name x _) y _ => noSlice y && C.name i x && mtE C a y
    | _ => false
def mtK (C : Ctx) : A → List Keyword → Bool
  | .nil, e0 => match e0 with
    | [] => true
    | _ => false
  | .cons a r, e0 => match e0 with
    | k :: ks => mtE C a k.value && mtK C r ks
    | _ => false
  | .io _ _, _ => false
/-- what is walked: the target, the iterable -/
def mtI (C : Ctx) : I → Expr → Expr → Bool
  | .seq a, _, e0 => mtE C a e0
  | .rng1 a, _, e0 => match e0 with
    | .Call (.Name x _) [e] [] _ => C.blt x "range" && plainX e && mtE C a e
    | _ => false
  | .rng2 a b, _, e0 => match e0 with
    | .Call (.Name x _) [e, e'] [] _ => C.blt x "range" && plainX e && plainX e' && mtE C a e && mtE C b e'
    | _ => false
  | .rng3 a b c, _, e0 => match e0 with
    | .Call (.Name x _) [e, e', e2] [] _ => C.blt x "range" && plainX e && plainX e' && plainX e2 && mtE C a e && mtE C b e' && mtE C c e2
    | _ => false
  | .zip a b, tg, e0 => match e0 with
    | .Call (.Name x _) [e, e'] [] _ => isTup tg && C.blt x "zip" && plainX e && plainX e' && mtE C a e && mtE C b e'
    | _ => false
  | .enm a, tg, e0 => match e0 with
    | .Call (.Name x _) [e] [] _ => isTup tg && C.blt x "enumerate" && plainX e && mtE C a e
    | _ => false
  | .rev a, _, e0 => match e0 with
    | .Call (.Name x _) [e] [] _ => C.blt x "reversed" && plainX e && mtE C a e
    | _ => false
def mtA (C : Ctx) : A → List Expr → Bool
  | .nil, e0 => match e0 with
    | [] => true
    | _ => false
  | .cons a r, e0 => match e0 with
    | e :: es => plainX e && mtE C a e && mtA C r es
    | _ => false
  | .io i r, e0 => match e0 with
    | .Name x _ :: es => C.name i x && mtA C r es
    | _ => false
def mtF (C : Ctx) : A → List Expr → Bool
  | .nil, e0 => match e0 with
    | [] => true
    | _ => false
  | .cons a r, e0 => match e0 with
    | .FormattedValue v c none _ :: es => decide (c = -1) && mtE C a v && mtF C r es
    | .Constant k _ _ :: es => (match k, a with
      | .str z, .cst (.str z') => decide (z = z')
      | _, _ => false) && mtF C r es
    | _ => false
  | .io _ _, _ => false
def mtL (C : Ctx) : L → Expr → Bool
  | .splt a b, e0 => match e0 with
    | .Call (.Attribute e n p2) [v] [] p => decide (n = "split") && isName e && plainX v && (p2.endLine == p.line) && mtE C a e && mtE C b v
    | _ => false
  | .disp a, e0 => match e0 with
    | .List es _ => mtA C a es
    | _ => false
  | .listOf a, e0 => match e0 with
    | .Call (.Name x _) [e] [] _ => C.blt x "list" && plainX e && mtE C a e
    | _ => false
  | .callL f a, e0 => match e0 with
    | .Call (.Name x _) (e :: es) [] _ => C.fn f x && (e :: es).all plainX && mtA C a (e :: es)
    | _ => false
  | .lc own it p a, e0 => match e0 with
    | .ListComp elt [⟨tg, iter, [], 0⟩] scope _ => C.lcB own p tg iter scope && mtI C it tg iter && mtE (C.inBlk scope) a elt
    | _ => false
  | .lci own it p c a, e0 => match e0 with
    | .ListComp elt [⟨tg, iter, [cnd], 0⟩] scope _ => C.lcB own p tg iter scope && mtI C it tg iter && tst c && mtE (C.inBlk scope) c cnd && mtE (C.inBlk scope) a elt
    | _ => false
  | .cat a b, e0 => match e0 with
    | .BinOp x .Add y _ => mtE C a x && mtE C b y
    | _ => false
  | .rep a b, e0 => match e0 with
    | .BinOp x .Mult y _ => mtE C a x && mtE C b y
    | _ => false
  | .slF a b, e0 => match e0 with
    | .Subscript x (.Slice (some l) none none _) _ => mtE C a x && mtE C b l
    | _ => false
  | .slT a b, e0 => match e0 with
    | .Subscript x (.Slice none (some l) none _) _ => mtE C a x && mtE C b l
    | _ => false
  | .slB a b c, e0 => match e0 with
    | .Subscript x (.Slice (some l) (some r) none _) _ => mtE C a x && mtE C b l && mtE C c r
    | _ => false
  | .srt a, e0 => match e0 with
    | .Call (.Name x _) [e] [] _ => C.blt x "sorted" && plainX e && mtE C a e
    | _ => false
  | .rng1 a, e0 => match e0 with
    | .Call (.Name x _) [.Call (.Name y _) [e] [] _] [] _ => !C.su && C.blt x "list" && C.blt y "range" && plainX e && mtE C a e
    | _ => false
  | .rng2 a b, e0 => match e0 with
    | .Call (.Name x _) [.Call (.Name y _) [e, e'] [] _] [] _ => !C.su && C.blt x "list" && C.blt y "range" && plainX e && plainX e' && mtE C a e && mtE C b e'
    | _ => false
  | .peek l, e0 => !isLC e0 && mtL C l e0
  | .slFl i a, e0 => match e0 with
    | .Subscript (.Name x _) (.Slice (some l) none none _) _ => C.name i x && mtE C a l
    | _ => false
  | .slTl i a, e0 => match e0 with
    | .Subscript (.Name x _) (.Slice none (some l) none _) _ => C.name i x && mtE C a l
    | _ => false
  | .slBl i a b, e0 => match e0 with
    | .Subscript (.Name x _) (.Slice (some l) (some r) none _) _ => C.name i x && mtE C a l && mtE C b r
    | _ => false
end
def mtN (C : Ctx) : NM → Expr → Bool
  | .lc own it p l, e0 => match e0 with
    | .ListComp elt [⟨tg, iter, [], 0⟩] scope _ => C.lcB own p tg iter scope && mtI C it tg iter && mtL (C.inBlk scope) l elt
    | _ => false
/-- a value that may be a comprehension -/
def mtO (C : Ctx) : E → Expr → Bool
  | .ofL l, e0 => isLC e0 && mtL C l e0
  | _, _ => false
mutual
def mtS (C : Ctx) : S → Stmt → Bool
  | .pass, e0 => match e0 with
    | .Pass _ => true
    | _ => false
  | .asg i e, e0 => match e0 with
    | .Assign [.Name x _] v _ => C.tgI i x && ((noComp v && mtE C e v) || (!C.su && isFnK C.sc.kind && mtO C e v))
    | _ => false
  | .newL i l, e0 => match e0 with
    | .Assign [.Name x _] v _ => C.tgI i x && ((noComp v && mtL C l v) || (!C.su && isFnK C.sc.kind && isLC v && mtL C l v))
    | _ => false
  | .asgT is e, e0 => match e0 with
    | .Assign [.Tuple ts _ _] v _ => !C.su && tgts C is ts && noComp v && noTup v && mtE C e v
    | _ => false
  | .par i j a b, e0 => match e0 with
    | .Assign [.Tuple [.Name x px, .Name y py] _ _] (.Tuple [v, u] _ _) _ => !C.su && (decide (C.N[i]? = some x) && decide (C.N[j]? = some y) && decide (i ≠ j) && decide (x ≠ y) && C.loc x && C.loc y && decide (i ∉ C.io) && decide (j ∉ C.io) &&
        plainX v && plainX u && (py.line == px.line) && !([v, u].all (foldedForSure 8)) && !([v, u].all (constantsAlone 8)) && mtE C a v && mtE C b u)
    | _ => false
  | .app i e, e0 => match e0 with
    | .Expr (.Call (.Attribute (.Name x _) n p3) [v] [] p) _ => decide (n = "append") && C.name i x && plainX v && (p3.endLine == p.line) && mtE C e v
    | _ => false
  | .rev i, e0 => match e0 with
    | .Expr (.Call (.Attribute (.Name x _) n p3) [] [] p) _ => decide (n = "reverse") && C.name i x && (p3.endLine == p.line)
    | _ => false
  | .ite c a b, e0 => match e0 with
    | .If z s t _ => tst c && mtE C c z && mtB C a s && mtB C b t
    | _ => false
  | .for p it b, e0 => match e0 with
    | .For tg v s [] _ => !C.su && noSet v && mtP C p tg && mtI C it tg v && mtB C b s
    | _ => false
  | .newT i n, e0 => match e0 with
    | .Assign [.Name x _] v _ => !C.su && isFnK C.sc.kind && C.tgI i x && mtN C n v
    | _ => false
  | .setI i k e, e0 => match e0 with
    | .Assign [.Subscript (.Name x _) y _] v _ => C.name i x && noComp v && noSlice y && mtE C k y && mtE C e v
    | _ => false
  | .setP i k k2 e, e0 => match e0 with
    | .Assign [.Subscript (.Subscript (.Name x _) y _) z _] v _ => C.name i x && noComp v && noSlice y && noSlice z && mtE C k y && mtE C k2 z && mtE C e v
    | _ => false
  | .setF i c f e, e0 => match e0 with
    | .Assign [.Attribute (.Name x _) f' _] v _ => C.name i x && decide (f' = f) && noComp v && C.hasFld c f && mtE C e v
    | _ => false
  | .appP i k e, e0 => match e0 with
    | .Expr (.Call (.Attribute (.Subscript (.Name x _) y _) n p3) [v] [] p) _ => decide (n = "append") && C.name i x && noSlice y && plainX v && (p3.endLine == p.line) && mtE C k y && mtE C e v
    | _ => false
  | .aug op i e, e0 => match e0 with
    | .AugAssign (.Name x _) o v _ => decide (o = opA op) && C.tgI i x && (match op with | .add => true | .sub => true | _ => false) && mtE C e v
    | _ => false
  | .exp e, e0 => match e0 with
    | .Expr v _ => noComp v && mtE C e v
    | _ => false
  | .whl c b, e0 => match e0 with
    | .While z s [] _ => !C.su && tst c && mtE C c z && mtB C b s
    | _ => false
  | .whlL i b, e0 => match e0 with
    | .While (.Name x _) s [] _ => !C.su && C.name i x && mtB C b s
    | _ => false
  | .ret e, e0 => match e0 with
    | .Return (some v) _ => mtE C e v
    | _ => false
  | .retL i, e0 => match e0 with
    | .Return (some (.Name x _)) _ => C.name i x && decide (i ∉ C.io)
    | _ => false
  | .brk, e0 => match e0 with
    | .Break _ => true
    | _ => false
  | .cnt, e0 => match e0 with
    | .Continue _ => true
    | _ => false
  | .nev, _ => true
  | .rse c f e, e0 => match e0 with
    | .Raise (some (.Call (.Name x _) [v] [] _)) none _ => !C.su && (match C.cls[c]? with | some ci => decide (ci.name = x) && decide (ci.f = f) | none => false) && C.glob x && !(x == ("__debug__" : Str)) && plainX v && mtE C e v
    | _ => false
  | .tryx m b h, e0 => match e0 with
    | .Try s (h0 :: hs) [] [] _ => !C.su && !C.blk && decide (C.cur = none) && decide (m ≤ C.cls.length) && mtB C b s && mtH C m h (h0 :: hs)
    | _ => false
  | _, _ => false
def mtH (C : Ctx) (m : Nat) : S → List ExceptHandler → Bool
  | .nil, e0 => match e0 with
    | [] => true
    | _ => false
  | .hnd t o s r, e0 => match e0 with
    | .ExceptHandler (some (.Name x p)) n (st :: su) _ :: hds => C.target t (.Name x p) && mtB (C.suite o) s (st :: su) && mtH C m r hds && (match o, n with
      | none, none => true
      | some i, some y => decide (C.N[i]? = some y) && C.loc y && decide (i ∉ C.io)
      | _, _ => false)
    | _ => false
  | _, _ => false
def mtB (C : Ctx) : S → List Stmt → Bool
  | .nil, e0 => match e0 with
    | [] => true
    | _ => false
  | .seq a b, e0 => match e0 with
    | s :: r => mtS C a s && mtB C b r
    | _ => false
  | _, _ => false
end
def okT (cls : List CI) (sups : List Str) : XT → Prop
  | .own c => c < cls.length
  | .sup x => x ∈ sups
/-- what the classes bear -/
structure ClsOk (K : PySem.W.Frag) (prog : Program) (mg : Str → Option Value) (cl : Cl) (cls : List CI) (sups flds : List Str) : Prop where
  own : ∀ n c, cls[n]? = some c → mg c.name = some (.ref (cl.fn n)) ∧ ∃ I, IniOk K prog mg (cl.fn n) I ∧ I.f = c.f
  ex : ∀ n, n < cls.length → XfC K (cl.fn n) ∧ ExcC K (cl.fn n)
  fld : ∀ n, n < cls.length → ∀ f ∈ flds, PySem.W.findIn K (.ref (cl.fn n)) f = some none
  sup : ∀ x ∈ sups, (mg x = some (cl.sp x) ∨ (mg x = none ∧ bootBuiltins x = some (cl.sp x) ∧ x ≠ "__name__")) ∧ ∃ tv : V, (∀ u, RelV tv u → u = cl.sp x) ∧ RelV tv (cl.sp x)
  hit : ∀ n t, n < cls.length → okT cls sups t → PySem.W.exmOne K (.ref (cl.fn n)) (valT cl t) = some (hitX n t) ∧ PySem.W.kitOne K (.ref (cl.fn n)) (valT cl t) = some (hitX n t)
/-- what an ordinary class bears -/
structure KOk (X : Cx) (cl : Cl) (fns : Nat → List Slot → Option FOut) (k : KI) : Prop where
  cls : Cls X.K (cl.fn k.cn)
  flds : ∀ f ∈ k.flds, NoAttr X.K (cl.fn k.cn) f
  meths : ∀ q ∈ k.meths, ∃ (fa : Addr) (io' : List Nat) (np : Nat), Meth X.K (cl.fn k.cn) q.1 fa ∧ FnAt X cl fa [] io' np (fns q.2)
  props : ∀ q ∈ k.props, ∃ (fp fa : Addr) (io' : List Nat) (np : Nat), PropOf X.K (cl.fn k.cn) q.1 fp fa ∧ FnAt X cl fa [] io' np (fns q.2)
  mks : ∀ q ∈ k.mks, X.mg k.name = some (.ref (cl.fn k.cn)) ∧ ∃ (g : Addr) (io' : List Nat) (np : Nat), Mk X.K (cl.fn k.cn) g ∧ FnAt X cl g q.2 io' np (fns q.1) ∧ q.2.length + 1 ≤ np
/-- what the frame must bear -/
structure CxOk (X : Cx) (C : Ctx) (cl : Cl) (W : WX) (Γ : Gam) : Prop where
  N : X.N = C.N
  sc : X.env.scope = C.sc
  kind : X.env.blockKind = .function
  nd : C.N.Nodup
  calm : C.su = false → X.calm = true
  pass : C.su = false → PassesOwn (model X.prog X.w) X.A X.env X.xe
  sk : C.blk = false → X.stack = X.env :: X.outer
  fr : C.blk = false → X.env.frame = some X.env.locals
  room : C.su = false → ∃ k, Room (k + 2) X.A
  cls : ClsOk X.K X.prog X.mg cl C.cls C.sups C.flds
  cur : ∀ i, C.cur = some i → ∃ (Y : Cx) (ax d : Addr) (n : Nat) (w : List (Str × D)) (oe : Obj) (pn : List (Addr × Obj)), X = Y.suite ax ((ax, oe) :: pn) ∧ cl.xa = some ⟨i, n, ax, d, w⟩ ∧ Γ.cur = some (i, n, w) ∧ Zc (.ref (cl.fn n)) (some d) oe ∧ (∃ vs, oe.data = .fields vs) ∧ n < C.cls.length
  tk : Takes X W
  fn : C.blk = false → ∀ x, X.fn x = true
  units : X.A.units + 65 < cLine
  glo : ∀ p ∈ C.glos, ∃ v u, X.mg p.1 = some u ∧ RelV v u ∧ ∀ K (cf : Nat → Addr) Hi, Rep K cf Hi v p.2
  free : ∀ x ∈ C.free, X.mg x = none
  gcd : ∀ x ∈ C.gcds, X.mg x = some (.builtin "math.gcd")
  fns : ∀ f g, C.fns[f]? = some g → g.glob = true → FnHas X cl g.name g.io g.np (Γ f)
  ks : ∀ k ∈ C.ks, KOk X cl Γ.fn k
section
variable {X : Cx} {C : Ctx} {cl : Cl} {W : WX} {Γ : Gam}
theorem CxOk.name (O : CxOk X C cl W Γ) {i : Nat} {x : Str} (h : C.name i x = true) : X.N[i]? = some x ∧ Vis X.env.scope x ∧ (x == ("__debug__" : Str)) = false ∧ (x == ("__classdict__" : Str)) = false := by
  unfold Ctx.name Ctx.vis at h
  simp only [Bool.and_eq_true, Bool.or_eq_true, decide_eq_true_eq, Bool.not_eq_true'] at h
  obtain ⟨⟨⟨h1, h2⟩, h3⟩, h4⟩ := h
  refine ⟨by rw [O.N]; exact h1, ?_, h3, h4⟩
  rw [O.sc]
  rcases h2 with (h2 | h2) | h2
  · exact .inl h2
  · exact .inr (.inl h2)
  · exact .inr (.inr h2)
theorem CxOk.glob (O : CxOk X C cl W Γ) {x : Str} (h : C.glob x = true) : Gl X x := by
  show X.env.scope.names.lookup x = some .globalImplicit
  rw [O.sc]
  exact of_decide_eq_true h
theorem CxOk.blt (O : CxOk X C cl W Γ) {x y : Str} (h : C.blt x y = true) : x = y ∧ Gl X y ∧ X.mg y = none := by
  unfold Ctx.blt at h
  simp only [Bool.and_eq_true, decide_eq_true_eq] at h
  obtain ⟨⟨h1, h2⟩, h3⟩ := h
  subst h1
  exact ⟨rfl, O.glob h2, O.free _ h3⟩
theorem CxOk.has (O : CxOk X C cl W Γ) {f : Nat} {x : Str} (h : C.fn f x = true) : ∃ io np, FnHas X cl x io np (Γ f) ∧ Gl X x ∧ (x == ("__debug__" : Str)) = false := by
  unfold Ctx.fn at h
  simp only [Bool.and_eq_true, Bool.not_eq_true'] at h
  obtain ⟨⟨h1, h2⟩, h3⟩ := h
  cases q : C.fns[f]? with
  | none => rw [q] at h3; cases h3
  | some g =>
    rw [q] at h3
    simp only [Bool.and_eq_true, decide_eq_true_eq] at h3
    have e : g.name = x := h3.1
    have h4 := O.fns f g q h3.2
    rw [e] at h4
    exact ⟨_, _, h4, O.glob h1, h2⟩
theorem CxOk.loc (O : CxOk X C cl W Γ) {x : Str} (h : C.loc x = true) : Loc X.env.scope x := by
  refine .inl ?_
  rw [O.sc]
  exact of_decide_eq_true h
theorem CxOk.u64 (O : CxOk X C cl W Γ) : X.A.units + 64 < cLine := by have := O.units; omega
theorem CxOk.tgt (O : CxOk X C cl W Γ) {t : XT} {e : Expr} (h : C.target t e = true) : ∃ y p, e = .Name y p ∧ Names X y (valT cl t) ∧ okT C.cls C.sups t ∧ ∃ tv : V, (∀ u, RelV tv u → u = valT cl t) ∧ PE X e (tC tv) := by
  cases e <;> try (exact absurd h Bool.false_ne_true)
  rename_i y p
  have h' : (C.glob y && !(y == ("__debug__" : Str)) && C.tg y t) = true := h
  simp only [Bool.and_eq_true, Bool.not_eq_true'] at h'
  obtain ⟨⟨h1, h2⟩, h3⟩ := h'
  cases t with
  | own c =>
    replace h3 : (match C.cls[c]? with | some ci => decide (ci.name = y) | none => false) = true := h3
    cases q : C.cls[c]? with
    | none => rw [q] at h3; cases h3
    | some ci =>
      rw [q] at h3
      have e1 : ci.name = y := of_decide_eq_true h3
      obtain ⟨m1, _⟩ := O.cls.own c ci q
      rw [e1] at m1
      exact ⟨y, p, rfl, ⟨O.glob h1, h2, .inl m1⟩, (List.getElem?_eq_some_iff.mp q).1, .ref (cl.fn c), fun u r => r, pe_glob (O.glob h1) m1 rfl h2⟩
  | sup z =>
    have h3' : (decide (y = z) && decide (z ∈ C.sups)) = true := h3
    simp only [Bool.and_eq_true, decide_eq_true_eq] at h3'
    obtain ⟨rfl, hz⟩ := h3'
    obtain ⟨m1, tv, t1, t2⟩ := O.cls.sup y hz
    refine ⟨y, p, rfl, ⟨O.glob h1, h2, m1⟩, hz, tv, t1, ?_⟩
    rcases m1 with m1 | ⟨m1, m2, m3⟩
    · exact pe_glob (O.glob h1) m1 t2 h2
    · exact pe_bltn (O.glob h1) m1 m2 t2 m3 h2
theorem tyName_of (O : CxOk X C cl W Γ) {t : Ty} {e : Expr} (h : tyName C t e = true) : ∃ p2, e = .Name (Str.ofString t.name) p2 ∧ Gl X (Str.ofString t.name) ∧ X.mg (Str.ofString t.name) = none := by
  cases e <;> try (cases h; done)
  rename_i x p2
  obtain ⟨h1, h2, h3⟩ := O.blt (show C.blt x (Str.ofString t.name) = true from h)
  subst h1
  exact ⟨p2, rfl, h2, h3⟩
theorem tyNames_of (O : CxOk X C cl W Γ) : ∀ {ts : List Ty} {es : List Expr}, tyNames C ts es = true → TyArgs X ts es
  | [], [], _ => .nil
  | [], _ :: _, h => by cases h
  | _ :: _, [], h => by cases h
  | t :: ts, e :: es, h => by
    unfold tyNames at h
    rw [Bool.and_eq_true] at h
    exact .cons (tyName_of O h.1) (tyNames_of O h.2)
theorem CxOk.tgI (O : CxOk X C cl W Γ) {i : Nat} {x : Str} (h : C.tgI i x = true) : X.N[i]? = some x ∧ Loc X.env.scope x ∧ (X.fn x = true ∨ X.env.scope.names.lookup x = some .local) ∧ i ∉ C.io := by
  unfold Ctx.tgI Ctx.loc Ctx.cel at h
  simp only [Bool.and_eq_true, Bool.or_eq_true, decide_eq_true_eq, Bool.not_eq_true'] at h
  obtain ⟨⟨h1, h2⟩, h3⟩ := h
  refine ⟨by rw [O.N]; exact h1, ?_, ?_, h3⟩
  · rcases h2 with h2 | ⟨_, h2⟩
    · exact .inl (by rw [O.sc]; exact h2)
    · exact .inr (by rw [O.sc]; exact h2)
  · rcases h2 with h2 | ⟨hb, _⟩
    · exact .inr (by rw [O.sc]; exact h2)
    · exact .inl (O.fn hb _)
theorem tgts_of (O : CxOk X C cl W Γ) : ∀ {is : List Nat} {es : List Expr}, tgts C is es = true → Targets X C.io is es
  | [], [], _ => .nil
  | [], _ :: _, h => by unfold tgts at h; cases h
  | _ :: _, [], h => by unfold tgts at h; cases h
  | i :: is, e :: es, h => by
    cases e <;> try (exact absurd h (by unfold tgts; exact Bool.false_ne_true))
    unfold tgts at h
    rw [Bool.and_eq_true] at h
    obtain ⟨h1, h2, h3, h4⟩ := O.tgI h.1
    exact .cons h1 h2 h3 h4 (tgts_of O h.2)
theorem mtP_of (O : CxOk X C cl W Γ) {p : Pt} {tg : Expr} (h : mtP C p tg = true) : PtOk X C.io p tg := by
  cases p with
  | n i =>
    cases tg <;> try (exact absurd h (by unfold mtP; exact Bool.false_ne_true))
    obtain ⟨h1, h2, h3, h4⟩ := O.tgI (show C.tgI i _ = true from h)
    exact .n h1 h2 h3 h4
  | t is =>
    cases tg <;> try (exact absurd h (by unfold mtP; exact Bool.false_ne_true))
    exact .t (tgts_of O (show tgts C is _ = true from h))
theorem FnHas.cast {Y : Cx} {x : Str} {io : List Nat} {np : Nat} {g : List Slot → Option FOut} (h : FnHas X cl x io np g) (e1 : Y.prog = X.prog) (e2 : Y.w = X.w) (e3 : Y.K = X.K) (e4 : Y.mg = X.mg) (e5 : Y.base = X.base) (e6 : Y.A = X.A) : FnHas Y cl x io np g := by
  obtain ⟨h1, h2⟩ := h
  exact ⟨by rw [e1, e2, e3, e4, e5, e6]; exact h1, h2⟩
theorem FnAt.cast {Y : Cx} {fa : Addr} {kw : List Str} {io : List Nat} {np : Nat} {g : List Slot → Option FOut} (h : FnAt X cl fa kw io np g) (e1 : Y.prog = X.prog) (e2 : Y.w = X.w) (e3 : Y.K = X.K) (e4 : Y.mg = X.mg) (e5 : Y.base = X.base) (e6 : Y.A = X.A) : FnAt Y cl fa kw io np g := by
  obtain ⟨h1, h2⟩ := h
  exact ⟨by rw [e1, e2, e3, e4, e5, e6]; exact h1, h2⟩
theorem KOk.cast {Y : Cx} {fns : Nat → List Slot → Option FOut} {k : KI} (h : KOk X cl fns k) (e1 : Y.prog = X.prog) (e2 : Y.w = X.w) (e3 : Y.K = X.K) (e4 : Y.mg = X.mg) (e5 : Y.base = X.base) (e6 : Y.A = X.A) : KOk Y cl fns k where
  cls := by rw [e3]; exact h.cls
  flds := by rw [e3]; exact h.flds
  meths := fun q hq => by
    obtain ⟨a, b, c, d, e⟩ := h.meths q hq
    exact ⟨a, b, c, by rw [e3]; exact d, e.cast e1 e2 e3 e4 e5 e6⟩
  props := fun q hq => by
    obtain ⟨p, a, b, c, d, e⟩ := h.props q hq
    exact ⟨p, a, b, c, by rw [e3]; exact d, e.cast e1 e2 e3 e4 e5 e6⟩
  mks := fun q hq => by
    obtain ⟨z, a, b, c, d, e, f⟩ := h.mks q hq
    exact ⟨by rw [e4]; exact z, a, b, c, by rw [e3]; exact d, e.cast e1 e2 e3 e4 e5 e6, f⟩
theorem CxOk.inBlk (O : CxOk X C cl W Γ) (hs : C.su = false) {scope : Scope} (hk : scope.kind = .function) (s : Shared) (H : Hp) (Ca : Addr) (k : List (Str × Addr)) (fp : List Addr) : CxOk (X.blk s H scope (compEnvC scope k Ca X.env) fp) (C.inBlk scope) cl W0 Γ where
  N := O.N
  sc := by
    show relabel scope X.env = relS scope C.sc
    rw [← O.sc]
    rfl
  kind := by
    show (if scope.kind.isAnnotationScope then ScopeKind.function else scope.kind) = .function
    rw [hk]
    rfl
  nd := O.nd
  calm := O.calm
  pass := fun _ => PassesOwn.never
  sk := fun h => nomatch h
  fr := fun h => nomatch h
  room := O.room
  cls := O.cls
  cur := fun i h => nomatch h
  tk := takesW0'
  fn := fun h => nomatch h
  units := O.units
  glo := O.glo
  free := O.free
  gcd := O.gcd
  fns := fun f g h hg => (O.fns f g h hg).cast rfl rfl rfl rfl rfl rfl
  ks := fun k h => (O.ks k h).cast rfl rfl rfl rfl rfl rfl
theorem folded_of {e : Expr} {env : PySem.Env} (h : noSet e = true) : ∀ u, foldedSetIterable e env u = pure u := by
  cases e <;> first | (intro _; rfl) | (cases h; done)
/-- what a comprehension needs -/
theorem lcB_of (O : CxOk X C cl W Γ) {own : List Nat} {it : I} {p : Pt} {tg iter : Expr} {scope : Scope} (h : C.lcB own p tg iter scope = true) (hi : PI X tg iter (tI X cl C.io W Γ it)) :
    C.su = false ∧ scope.kind = .function ∧ LcOk X cl C.io W Γ tg iter scope (C.ownN own) it p := by
  unfold Ctx.lcB at h
  simp only [Bool.and_eq_true, Bool.not_eq_true', List.all_eq_true, decide_eq_true_eq] at h
  obtain ⟨⟨⟨⟨⟨h1, h2⟩, h3⟩, h4⟩, h5⟩, h6⟩ := h
  have ok := blkOk_by h2
  exact ⟨h1, ok.kind, O.calm h1, by rw [O.N]; exact O.nd, hi, by rw [O.N, O.sc]; exact ok, fun s H Ca k fp => mtP_of (O.inBlk h1 ok.kind s H Ca k fp) h4, folded_of h3, fun i hi => by rw [ownN_map]; exact h5 i hi, fun i hi => h6 i (by rw [ownN_map] at hi; exact hi)⟩
theorem lookup_mem {α β : Type} [BEq α] [LawfulBEq α] {c : α} {f : β} : ∀ {tb : List (α × β)}, tb.lookup c = some f → (c, f) ∈ tb
  | [], h => by cases h
  | (a, b) :: r, h => by
    rw [List.lookup_cons] at h
    cases q : (c == a) with
    | true =>
      rw [q] at h
      cases h
      rw [eq_of_beq q]
      exact List.mem_cons_self
    | false =>
      rw [q] at h
      exact List.mem_cons_of_mem _ (lookup_mem h)
theorem CxOk.hasFld (O : CxOk X C cl W Γ) {c : Nat} {f : Str} (h : C.hasFld c f = true) : Cls X.K (cl.fn c) ∧ NoAttr X.K (cl.fn c) f := by
  obtain ⟨k, hk, h2⟩ := List.any_eq_true.mp h
  simp only [Bool.and_eq_true, decide_eq_true_eq] at h2
  obtain ⟨rfl, h2⟩ := h2
  exact ⟨(O.ks k hk).cls, (O.ks k hk).flds f h2⟩
theorem CxOk.hasMeth (O : CxOk X C cl W Γ) {c f : Nat} {m : Str} (h : C.hasMeth c f m = true) : ∃ (fa : Addr) (io' : List Nat) (np : Nat), Cls X.K (cl.fn c) ∧ Meth X.K (cl.fn c) m fa ∧ FnAt X cl fa [] io' np (Γ f) := by
  obtain ⟨k, hk, h2⟩ := List.any_eq_true.mp h
  simp only [Bool.and_eq_true, decide_eq_true_eq] at h2
  obtain ⟨rfl, h2⟩ := h2
  obtain ⟨a, b, c, d, e⟩ := (O.ks k hk).meths _ h2
  exact ⟨a, b, c, (O.ks k hk).cls, d, e⟩
theorem CxOk.hasProp (O : CxOk X C cl W Γ) {c f : Nat} {m : Str} (h : C.hasProp c f m = true) : ∃ (fp fa : Addr) (io' : List Nat) (np : Nat), Cls X.K (cl.fn c) ∧ PropOf X.K (cl.fn c) m fp fa ∧ FnAt X cl fa [] io' np (Γ f) := by
  obtain ⟨k, hk, h2⟩ := List.any_eq_true.mp h
  simp only [Bool.and_eq_true, decide_eq_true_eq] at h2
  obtain ⟨rfl, h2⟩ := h2
  obtain ⟨p, a, b, c, d, e⟩ := (O.ks k hk).props _ h2
  exact ⟨p, a, b, c, (O.ks k hk).cls, d, e⟩
theorem CxOk.hasMk (O : CxOk X C cl W Γ) {c f : Nat} {x : Str} {ks : List Str} (h : C.hasMk c f x ks = true) : X.mg x = some (.ref (cl.fn c)) ∧ ∃ (g : Addr) (io' : List Nat) (np : Nat), Mk X.K (cl.fn c) g ∧ FnAt X cl g ks io' np (Γ f) ∧ ks.length + 1 ≤ np := by
  obtain ⟨k, hk, h2⟩ := List.any_eq_true.mp h
  simp only [Bool.and_eq_true, decide_eq_true_eq] at h2
  obtain ⟨⟨rfl, rfl⟩, h2⟩ := h2
  exact (O.ks k hk).mks _ h2
theorem mtA_nil {r : A} (h : mtA C r [] = true) : r = .nil := by
  cases r with
  | nil => rfl
  | cons a r => unfold mtA at h; cases h
  | io i r => unfold mtA at h; cases h
theorem plainIx_of {b : Expr} (h : noSlice b = true) : PlainIx b := by
  cases b <;> first | (intro _ _; rfl) | (cases h; done)
theorem abase_of {e : Expr} {n : Str} {env : PySem.Env} {t : Sem Value} (h : isName e = true) : attributeBase e n env t = t := by
  cases e <;> first | rfl | (cases h; done)
theorem boolOne {x : Expr} {op : BoolOp} {t : TE} {pos : Pos} (h : PE X x t) : PE X (.BoolOp op [x] pos) t := pe_one h
mutual
theorem mtE_ok {X : Cx} {C : Ctx} {cl : Cl} {W : WX} {Γ : Gam} (O : CxOk X C cl W Γ) : ∀ (ir : E) (e : Expr), mtE C ir e = true → PE X e (tE X cl C.io W Γ ir)
  | .var i, e, h => by
    unfold mtE at h
    split at h <;> first | (exact absurd h Bool.false_ne_true) | skip
    obtain ⟨h1, h2, h3, h4⟩ := O.name h
    exact snd_var h1 h2 h3 h4
  | .cst d, e, h => by
    unfold mtE at h
    split at h <;> first | (exact absurd h Bool.false_ne_true) | skip
    rename_i k j p
    cases q : constD k with
    | none => rw [q] at h; cases h
    | some d' =>
      rw [q] at h
      have e := eqAtom_eq h
      subst e
      exact snd_cst q
  | .tup a, e, h => by
    unfold mtE at h
    split at h <;> first | (exact absurd h Bool.false_ne_true) | skip
    exact snd_tup (mtA_ok O a _ h)
  | .bin op a b, e, h => by
    unfold mtE at h
    split at h <;> first | (exact absurd h Bool.false_ne_true) | skip
    simp only [Bool.and_eq_true, decide_eq_true_eq, Bool.not_eq_true'] at h
    obtain ⟨⟨h1, h2⟩, h3⟩ := h
    subst h1
    exact snd_bin (mtE_ok O a _ h2) (mtE_ok O b _ h3)
  | .neg a, e, h => by
    unfold mtE at h
    split at h <;> first | (exact absurd h Bool.false_ne_true) | skip
    exact snd_neg (mtE_ok O a _ h)
  | .cmp op a b, e, h => by
    unfold mtE at h
    split at h <;> first | (exact absurd h Bool.false_ne_true) | skip
    simp only [Bool.and_eq_true, decide_eq_true_eq, Bool.not_eq_true'] at h
    obtain ⟨⟨h1, h2⟩, h3⟩ := h
    subst h1
    exact snd_cmp (mtE_ok O a _ h2) (mtE_ok O b _ h3)
  | .eqq ne a b, e, h => by
    unfold mtE at h
    split at h <;> first | (exact absurd h Bool.false_ne_true) | skip
    simp only [Bool.and_eq_true, decide_eq_true_eq, Bool.not_eq_true'] at h
    obtain ⟨⟨h1, h2⟩, h3⟩ := h
    subst h1
    exact snd_eqq O.u64 (mtE_ok O a _ h2) (mtE_ok O b _ h3)
  | .isN ne a, e, h => by
    unfold mtE at h
    split at h <;> first | (exact absurd h Bool.false_ne_true) | skip
    simp only [Bool.and_eq_true, decide_eq_true_eq, Bool.not_eq_true'] at h
    obtain ⟨h1, h2⟩ := h
    subst h1
    exact snd_isN (mtE_ok O a _ h2)
  | .and a b, e, h => by
    unfold mtE at h
    split at h <;> first | (exact absurd h Bool.false_ne_true) | skip
    rename_i x y r p
    rw [Bool.and_eq_true] at h
    cases r with
    | nil => exact snd_and (mtE_ok O a _ h.1) (pe_one (mtE_ok O b _ h.2))
    | cons z r => exact snd_and (mtE_ok O a _ h.1) (mtE_ok O b _ h.2)
  | .or a b, e, h => by
    unfold mtE at h
    split at h <;> first | (exact absurd h Bool.false_ne_true) | skip
    rename_i x y r p
    rw [Bool.and_eq_true] at h
    cases r with
    | nil => exact snd_or (mtE_ok O a _ h.1) (pe_one (mtE_ok O b _ h.2))
    | cons z r => exact snd_or (mtE_ok O a _ h.1) (mtE_ok O b _ h.2)
  | .not a, e, h => by
    unfold mtE at h
    split at h <;> first | (exact absurd h Bool.false_ne_true) | skip
    exact snd_not (mtE_ok O a _ h)
  | .ifx c a b, e, h => by
    unfold mtE at h
    split at h <;> first | (exact absurd h Bool.false_ne_true) | skip
    simp only [Bool.and_eq_true, decide_eq_true_eq, Bool.not_eq_true'] at h
    obtain ⟨⟨⟨h0, h1⟩, h2⟩, h3⟩ := h
    exact snd_ifx (mtT_ok O c _ h0 h1) (mtE_ok O a _ h2) (mtE_ok O b _ h3)
  | .call f a, e, h => by
    unfold mtE at h
    split at h <;> first | (exact absurd h Bool.false_ne_true) | skip
    simp only [Bool.and_eq_true] at h
    obtain ⟨⟨h1, h2⟩, h3⟩ := h
    obtain ⟨io, np, F, h4, h5⟩ := O.has h1
    exact snd_call F O.tk h4 h5 h2 (mtA_ok O a _ h3)
  | .isT a ts, e, h => by
    unfold mtE at h
    split at h <;> first | (exact absurd h Bool.false_ne_true) | skip
    simp only [Bool.and_eq_true] at h
    obtain ⟨⟨⟨h1, h2⟩, h3⟩, h4⟩ := h
    obtain ⟨e1, h5, h6⟩ := O.blt h1
    subst e1
    split at h4
    · simp only [Bool.and_eq_true, decide_eq_true_eq] at h4
      exact snd_isTs h4.2 h5 h6 (tyNames_of O h4.1) h2 (mtE_ok O a _ h3)
    · split at h4
      · obtain ⟨p2, e2, h7, h8⟩ := tyName_of O h4
        subst e2
        exact snd_isT1 h5 h6 h7 h8 h2 (mtE_ok O a _ h3)
      · cases h4
  | .len a, e, h => by
    unfold mtE at h
    split at h <;> first | (exact absurd h Bool.false_ne_true) | skip
    simp only [Bool.and_eq_true] at h
    obtain ⟨⟨h1, h2⟩, h3⟩ := h
    obtain ⟨e1, h5, h6⟩ := O.blt h1
    subst e1
    exact snd_len h5 h6 h2 (mtE_ok O a _ h3)
  | .lenl i, e, h => by
    unfold mtE at h
    split at h <;> first | (exact absurd h Bool.false_ne_true) | skip
    rw [Bool.and_eq_true] at h
    obtain ⟨e1, h5, h6⟩ := O.blt h.1
    subst e1
    obtain ⟨h1, h2, h3, h4⟩ := O.name h.2
    exact snd_lenl h5 h6 h1 h2 h3 h4
  | .abs a, e, h => by
    unfold mtE at h
    split at h <;> first | (exact absurd h Bool.false_ne_true) | skip
    simp only [Bool.and_eq_true] at h
    obtain ⟨⟨h1, h2⟩, h3⟩ := h
    obtain ⟨e1, h5, h6⟩ := O.blt h1
    subst e1
    exact snd_abs h5 h6 h2 (mtE_ok O a _ h3)
  | .int1 a, e, h => by
    unfold mtE at h
    split at h <;> first | (exact absurd h Bool.false_ne_true) | skip
    simp only [Bool.and_eq_true] at h
    obtain ⟨⟨h1, h2⟩, h3⟩ := h
    obtain ⟨e1, h5, h6⟩ := O.blt h1
    subst e1
    exact snd_int1 h5 h6 h2 (mtE_ok O a _ h3)
  | .min2 a b, e, h => by
    unfold mtE at h
    split at h <;> first | (exact absurd h Bool.false_ne_true) | skip
    simp only [Bool.and_eq_true] at h
    obtain ⟨⟨⟨⟨⟨hs, h1⟩, h2⟩, h2'⟩, h3⟩, h4⟩ := h
    obtain ⟨e1, h5, h6⟩ := O.blt h1
    subst e1
    exact snd_min2 (O.calm (by simpa using hs)) h5 h6 h2 h2' (mtE_ok O a _ h3) (mtE_ok O b _ h4)
  | .max2 a b, e, h => by
    unfold mtE at h
    split at h <;> first | (exact absurd h Bool.false_ne_true) | skip
    simp only [Bool.and_eq_true] at h
    obtain ⟨⟨⟨⟨⟨hs, h1⟩, h2⟩, h2'⟩, h3⟩, h4⟩ := h
    obtain ⟨e1, h5, h6⟩ := O.blt h1
    subst e1
    exact snd_max2 (O.calm (by simpa using hs)) h5 h6 h2 h2' (mtE_ok O a _ h3) (mtE_ok O b _ h4)
  | .gcd a b, e, h => by
    unfold mtE at h
    split at h <;> first | (exact absurd h Bool.false_ne_true) | skip
    simp only [Bool.and_eq_true, decide_eq_true_eq, Bool.not_eq_true'] at h
    obtain ⟨⟨⟨⟨⟨⟨h1, h0⟩, h9⟩, h2⟩, h2'⟩, h3⟩, h4⟩ := h
    exact snd_gcd (O.glob h1) (O.gcd _ h9) h0 h2 h2' (mtE_ok O a _ h3) (mtE_ok O b _ h4)
  | .bits a, e, h => by
    unfold mtE at h
    split at h <;> first | (exact absurd h Bool.false_ne_true) | skip
    simp only [Bool.and_eq_true, decide_eq_true_eq] at h
    obtain ⟨⟨⟨h1, h2⟩, h3⟩, h4⟩ := h
    subst h1
    exact snd_bits (abase_of h2) h3 (mtE_ok O a _ h4)
  | .ix a b, e, h => by
    unfold mtE at h
    split at h <;> first | (exact absurd h Bool.false_ne_true) | skip
    simp only [Bool.and_eq_true] at h
    obtain ⟨⟨h1, h2⟩, h3⟩ := h
    exact snd_ix (plainIx_of h1) (mtE_ok O a _ h2) (mtE_ok O b _ h3)
  | .pop i, e, h => by
    unfold mtE at h
    split at h <;> first | (exact absurd h Bool.false_ne_true) | skip
    simp only [Bool.and_eq_true, decide_eq_true_eq] at h
    obtain ⟨⟨h1, h2⟩, h3⟩ := h
    subst h1
    obtain ⟨h4, h5, h6, h7⟩ := O.name h2
    exact snd_pop h3 h4 h5 h6 h7
  | .tupOf a, e, h => by
    unfold mtE at h
    split at h <;> first | (exact absurd h Bool.false_ne_true) | skip
    simp only [Bool.and_eq_true] at h
    obtain ⟨⟨h1, h2⟩, h3⟩ := h
    obtain ⟨e1, h5, h6⟩ := O.blt h1
    subst e1
    exact snd_tupOf h5 h6 h2 (mtE_ok O a _ h3)
  | .ofL l, e, h => snd_ofL (mtL_ok O l e (by unfold mtE at h; exact h))
  | .glo x d, e, h => by
    unfold mtE at h
    split at h <;> first | (exact absurd h Bool.false_ne_true) | skip
    simp only [Bool.and_eq_true, decide_eq_true_eq, Bool.not_eq_true'] at h
    obtain ⟨⟨⟨h1, h2⟩, h3⟩, h4⟩ := h
    subst h1
    obtain ⟨p, hp, h5⟩ := List.any_eq_true.mp h4
    simp only [Bool.and_eq_true, decide_eq_true_eq] at h5
    obtain ⟨e1, e2⟩ := h5
    have e3 := eqAtom_eq e2
    obtain ⟨v, u, g1, g2, g3⟩ := O.glo p hp
    subst e1 e3
    exact snd_glo (O.glob h2) g1 g2 g3 h3
  | .inn ne a b, e, h => by
    unfold mtE at h
    split at h <;> first | (exact absurd h Bool.false_ne_true) | skip
    simp only [Bool.and_eq_true, decide_eq_true_eq, Bool.not_eq_true'] at h
    obtain ⟨⟨⟨h1, h2⟩, h3⟩, h4⟩ := h
    subst h1
    exact snd_inn O.units (mtE_ok O a _ h3) (mtE_ok O b _ h4) h2
  | .strI a, e, h => by
    unfold mtE at h
    split at h <;> first | (exact absurd h Bool.false_ne_true) | skip
    simp only [Bool.and_eq_true] at h
    obtain ⟨⟨h1, h2⟩, h3⟩ := h
    obtain ⟨e1, h5, h6⟩ := O.blt h1
    subst e1
    exact snd_strI h5 h6 h2 (mtE_ok O a _ h3)
  | .startsw a b, e, h => by
    unfold mtE at h
    split at h <;> first | (exact absurd h Bool.false_ne_true) | skip
    simp only [Bool.and_eq_true, decide_eq_true_eq] at h
    obtain ⟨⟨⟨⟨⟨h1, h2⟩, h3⟩, h4⟩, h5⟩, h6⟩ := h
    subst h1
    exact snd_startsw (abase_of h2) h3 h4 (by rw [Few, star_cons h3]; rfl) (mtE_ok O a _ h5) (mtE_ok O b _ h6)
  | .partn a b, e, h => by
    unfold mtE at h
    split at h <;> first | (exact absurd h Bool.false_ne_true) | skip
    simp only [Bool.and_eq_true, decide_eq_true_eq] at h
    obtain ⟨⟨⟨⟨⟨h1, h2⟩, h3⟩, h4⟩, h5⟩, h6⟩ := h
    subst h1
    exact snd_partn (abase_of h2) h3 h4 (by rw [Few, star_cons h3]; rfl) (mtE_ok O a _ h5) (mtE_ok O b _ h6)
  | .slF a b, e, h => by
    unfold mtE at h
    split at h <;> first | (exact absurd h Bool.false_ne_true) | skip
    simp only [Bool.and_eq_true] at h
    exact snd_slF (mtE_ok O a _ h.1) (mtE_ok O b _ h.2)
  | .slT a b, e, h => by
    unfold mtE at h
    split at h <;> first | (exact absurd h Bool.false_ne_true) | skip
    simp only [Bool.and_eq_true] at h
    exact snd_slT (mtE_ok O a _ h.1) (mtE_ok O b _ h.2)
  | .fst r, e, h => by
    unfold mtE at h
    split at h <;> first | (exact absurd h Bool.false_ne_true) | skip
    exact snd_fst (mtF_ok O r _ h)
  | .xf i f, e, h => by
    unfold mtE at h
    split at h <;> first | (exact absurd h Bool.false_ne_true) | skip
    simp only [Bool.and_eq_true, decide_eq_true_eq] at h
    obtain ⟨⟨⟨h1, h2⟩, h3⟩, h4⟩ := h
    subst h3
    obtain ⟨h5, h6, h7, h8⟩ := O.name h2
    obtain ⟨Y, ax, d, n, w, oe, pn, rfl, e1, e2, e3, e4, e5⟩ := O.cur i h1
    exact snd_xf e1 e2 (O.cls.ex n e5).1 (O.cls.fld n e5 _ h4) e3 e4 h5 h6 h7 h8
  | .xis i ts, e, h => by
    unfold mtE at h
    split at h <;> first | (exact absurd h Bool.false_ne_true) | skip
    simp only [Bool.and_eq_true, decide_eq_true_eq] at h
    obtain ⟨⟨⟨⟨h0, h1⟩, h2⟩, h3⟩, h4⟩ := h
    split at h4 <;> first | (exact absurd h4 Bool.false_ne_true) | skip
    rename_i t
    obtain ⟨e0, g1, g2⟩ := O.blt h0
    subst e0
    obtain ⟨h5, h6, h7, h8⟩ := O.name h2
    obtain ⟨y, p, hy, _, hok, tv, t1, t2⟩ := O.tgt h4
    obtain ⟨Y, ax, d, n, w, oe, pn, rfl, e1, e2, e3, e4, e5⟩ := O.cur i h1
    exact snd_xis e1 e2 (O.cls.ex n e5).2 (O.cls.hit n t e5 hok).2 t1 t2 h3 g1 g2 e3 e4 h5 h6 h7 h8
  | .slB a b c, e, h => by
    unfold mtE at h
    split at h <;> first | (exact absurd h Bool.false_ne_true) | skip
    simp only [Bool.and_eq_true] at h
    exact snd_slB (mtE_ok O a _ h.1.1) (mtE_ok O b _ h.1.2) (mtE_ok O c _ h.2)
  | .peek a, e, h => by
    unfold mtE at h
    rw [Bool.and_eq_true] at h
    exact snd_peek (mtE_ok O a _ h.2)
  | .un o a, e, h => by
    unfold mtE at h
    split at h <;> first | (exact absurd h Bool.false_ne_true) | skip
    simp only [Bool.and_eq_true, Bool.not_eq_true'] at h
    obtain ⟨⟨⟨h0, h1⟩, h2⟩, h3⟩ := h
    obtain ⟨e1, h5, h6⟩ := O.blt h1
    subst e1
    exact snd_un (O.calm h0) h5 h6 h2 (mtE_ok O a _ h3)
  | .chn o1 o2 a b c, e, h => by
    unfold mtE at h
    split at h <;> first | (exact absurd h Bool.false_ne_true) | skip
    simp only [Bool.and_eq_true, decide_eq_true_eq] at h
    obtain ⟨⟨⟨⟨h1, h2⟩, h3⟩, h4⟩, h5⟩ := h
    subst h1 h2
    exact snd_chn (mtE_ok O a _ h3) (mtE_ok O b _ h4) (mtE_ok O c _ h5)
  | .fld a f cs, e, h => by
    unfold mtE at h
    split at h <;> first | (exact absurd h Bool.false_ne_true) | skip
    simp only [Bool.and_eq_true, decide_eq_true_eq, List.all_eq_true] at h
    obtain ⟨⟨⟨h1, h2⟩, h3⟩, h4⟩ := h
    subst h1
    exact snd_fld (mtE_ok O a _ h4) (abase_of h2) fun c hc => O.hasFld (h3 c hc)
  | .dis .meth m tb a r, e, h => by
    unfold mtE at h
    dsimp only at h
    split at h <;> first | (exact absurd h Bool.false_ne_true) | skip
    simp only [Bool.and_eq_true, decide_eq_true_eq] at h
    obtain ⟨⟨⟨⟨⟨⟨⟨h1, h2⟩, h3⟩, h4⟩, h5⟩, h6⟩, h7⟩, h8⟩ := h
    subst h1
    exact snd_meth O.tk (mtE_ok O a _ h7) (mtA_ok O r _ h8) h4 h5 (fun q => mtA_nil (by rw [q] at h8; exact h8)) (fun c f hq => O.hasMeth (List.all_eq_true.mp h6 _ (lookup_mem hq))) (abase_of h2) h3
  | .dis .prop m tb a r, e, h => by
    unfold mtE at h
    dsimp only at h
    split at h <;> first | (exact absurd h Bool.false_ne_true) | skip
    simp only [Bool.and_eq_true, decide_eq_true_eq] at h
    obtain ⟨⟨⟨⟨h1, h2⟩, h3⟩, h4⟩, h5⟩ := h
    subst h1
    cases r with
    | nil => exact snd_prop (mtE_ok O a _ h5) (abase_of h2) fun c f hq => O.hasProp (List.all_eq_true.mp h3 _ (lookup_mem hq))
    | cons _ _ => exact absurd h4 Bool.false_ne_true
    | io _ _ => exact absurd h4 Bool.false_ne_true
  | .mk c f r ks kr, e, h => by
    unfold mtE at h
    split at h <;> first | (exact absurd h Bool.false_ne_true) | skip
    simp only [Bool.and_eq_true, decide_eq_true_eq, Bool.not_eq_true'] at h
    obtain ⟨⟨⟨⟨⟨⟨h1, h2⟩, h3⟩, h4⟩, h5⟩, h6⟩, h7⟩ := h
    obtain ⟨m1, g, io', np, M, F, hn⟩ := O.hasMk h3
    exact snd_mk O.tk M F (O.glob h1) m1 h2 hn h4 h5 (mtA_ok O r _ h6) (mtK_ok O kr _ h7)
  | .isC _ _, e, h => absurd h (by unfold mtE; exact Bool.false_ne_true)
  | .ixl i a, e, h => by
    unfold mtE at h
    split at h <;> first | (exact absurd h Bool.false_ne_true) | skip
    simp only [Bool.and_eq_true] at h
    obtain ⟨⟨h1, h2⟩, h3⟩ := h
    obtain ⟨h4, h5, h6, h7⟩ := O.name h2
    exact snd_ixl h4 h5 h6 h7 (plainIx_of h1) (mtE_ok O a _ h3)
theorem mtK_ok {X : Cx} {C : Ctx} {cl : Cl} {W : WX} {Γ : Gam} (O : CxOk X C cl W Γ) : ∀ (ir : A) (e : List Keyword), mtK C ir e = true → PK X e (tA X cl C.io W Γ ir)
  | .nil, e, h => by
    unfold mtK at h
    split at h <;> first | (exact absurd h Bool.false_ne_true) | skip
    exact snd_knil
  | .cons a r, e, h => by
    unfold mtK at h
    split at h <;> first | (exact absurd h Bool.false_ne_true) | skip
    rw [Bool.and_eq_true] at h
    rename_i k ks
    obtain ⟨nm, kv, kp⟩ := k
    exact snd_kcons (mtE_ok O a _ h.1) (mtK_ok O r _ h.2)
  | .io _ _, e, h => absurd h (by unfold mtK; exact Bool.false_ne_true)
theorem mtI_ok {X : Cx} {C : Ctx} {cl : Cl} {W : WX} {Γ : Gam} (O : CxOk X C cl W Γ) : ∀ (ir : I) (tg e : Expr), mtI C ir tg e = true → PI X tg e (tI X cl C.io W Γ ir)
  | .seq a, tg, e, h => sndI_seq (mtE_ok O a _ (by unfold mtI at h; exact h))
  | .rng1 a, tg, e, h => by
    unfold mtI at h
    split at h <;> first | (exact absurd h Bool.false_ne_true) | skip
    simp only [Bool.and_eq_true] at h
    obtain ⟨⟨h1, h2⟩, h3⟩ := h
    obtain ⟨e1, h5, h6⟩ := O.blt h1
    subst e1
    exact sndI_rng1 h5 h6 h2 (mtE_ok O a _ h3)
  | .rng2 a b, tg, e, h => by
    unfold mtI at h
    split at h <;> first | (exact absurd h Bool.false_ne_true) | skip
    simp only [Bool.and_eq_true] at h
    obtain ⟨⟨⟨⟨h1, h2⟩, h2'⟩, h3⟩, h3'⟩ := h
    obtain ⟨e1, h5, h6⟩ := O.blt h1
    subst e1
    exact sndI_rng2 h5 h6 h2 h2' (mtE_ok O a _ h3) (mtE_ok O b _ h3')
  | .rng3 a b c, tg, e, h => by
    unfold mtI at h
    split at h <;> first | (exact absurd h Bool.false_ne_true) | skip
    simp only [Bool.and_eq_true] at h
    obtain ⟨⟨⟨⟨⟨⟨h1, h2⟩, h2'⟩, h2''⟩, h3⟩, h3'⟩, h3''⟩ := h
    obtain ⟨e1, h5, h6⟩ := O.blt h1
    subst e1
    exact sndI_rng3 h5 h6 h2 h2' h2'' (mtE_ok O a _ h3) (mtE_ok O b _ h3') (mtE_ok O c _ h3'')
  | .zip a b, tg, e, h => by
    unfold mtI at h
    split at h <;> first | (exact absurd h Bool.false_ne_true) | skip
    simp only [Bool.and_eq_true] at h
    obtain ⟨⟨⟨⟨⟨h0, h1⟩, h2⟩, h2'⟩, h3⟩, h3'⟩ := h
    obtain ⟨e1, h5, h6⟩ := O.blt h1
    subst e1
    cases tg <;> try (exact absurd h0 Bool.false_ne_true)
    exact sndI_zip h5 h6 h2 h2' (mtE_ok O a _ h3) (mtE_ok O b _ h3')
  | .enm a, tg, e, h => by
    unfold mtI at h
    split at h <;> first | (exact absurd h Bool.false_ne_true) | skip
    simp only [Bool.and_eq_true] at h
    obtain ⟨⟨⟨h0, h1⟩, h2⟩, h3⟩ := h
    obtain ⟨e1, h5, h6⟩ := O.blt h1
    subst e1
    cases tg <;> try (exact absurd h0 Bool.false_ne_true)
    exact sndI_enm h5 h6 h2 (mtE_ok O a _ h3)
  | .rev a, tg, e, h => by
    unfold mtI at h
    split at h <;> first | (exact absurd h Bool.false_ne_true) | skip
    simp only [Bool.and_eq_true] at h
    obtain ⟨⟨h1, h2⟩, h3⟩ := h
    obtain ⟨e1, h5, h6⟩ := O.blt h1
    subst e1
    exact sndI_rev h5 h6 h2 (mtE_ok O a _ h3)
theorem mtF_ok {X : Cx} {C : Ctx} {cl : Cl} {W : WX} {Γ : Gam} (O : CxOk X C cl W Γ) : ∀ (ir : A) (e : List Expr), mtF C ir e = true → FJ X cl C.io W Γ ir e
  | .nil, e, h => by
    unfold mtF at h
    split at h <;> first | (exact absurd h Bool.false_ne_true) | skip
    exact .nil
  | .cons a r, e, h => by
    unfold mtF at h
    split at h <;> first | (exact absurd h Bool.false_ne_true) | skip
    · simp only [Bool.and_eq_true, decide_eq_true_eq] at h
      obtain ⟨⟨h1, h2⟩, h3⟩ := h
      subst h1
      exact .val (mtE_ok O a _ h2) (mtF_ok O r _ h3)
    · rw [Bool.and_eq_true] at h
      obtain ⟨h1, h2⟩ := h
      split at h1
      · have e1 := of_decide_eq_true h1
        subst e1
        exact .txt (mtF_ok O r _ h2)
      · cases h1
  | .io _ _, e, h => absurd h (by unfold mtF; exact Bool.false_ne_true)
theorem mtT_ok {X : Cx} {C : Ctx} {cl : Cl} {W : WX} {Γ : Gam} (O : CxOk X C cl W Γ) : ∀ (ir : E) (e : Expr), tst ir = true → mtE C ir e = true → PT X e (tT X cl C.io W Γ ir)
  | .ifx _ _ _, _, h, _ => by cases h
  | .not a, e, ht, h => by
    unfold mtE at h
    split at h <;> first | (exact absurd h Bool.false_ne_true) | skip
    exact sndT_not (mtT_ok O a _ ht h)
  | .and a b, e, ht, h => by
    unfold mtE at h
    split at h <;> first | (exact absurd h Bool.false_ne_true) | skip
    rename_i x y r p
    rw [Bool.and_eq_true] at h
    have ht' : (tst a && tst b) = true := ht
    rw [Bool.and_eq_true] at ht'
    cases r with
    | nil => exact (sndT_and (mtT_ok O a _ ht'.1 h.1) (pw_and1 (mtT_ok O b _ ht'.2 h.2))).pt
    | cons z r => exact (sndT_and (mtT_ok O a _ ht'.1 h.1) (mtW_and O b ht'.2 h.2)).pt
  | .or a b, e, ht, h => by
    unfold mtE at h
    split at h <;> first | (exact absurd h Bool.false_ne_true) | skip
    rename_i x y r p
    rw [Bool.and_eq_true] at h
    have ht' : (tst a && tst b) = true := ht
    rw [Bool.and_eq_true] at ht'
    cases r with
    | nil => exact (sndT_or (mtT_ok O a _ ht'.1 h.1) (pw_or1 (mtT_ok O b _ ht'.2 h.2))).pt
    | cons z r => exact (sndT_or (mtT_ok O a _ ht'.1 h.1) (mtW_or O b ht'.2 h.2)).pt
  | .var i, e, ht, h => sndT_val (mtE_ok O _ _ h) (by
    unfold mtE at h
    split at h <;> first | (exact absurd h Bool.false_ne_true) | skip
    exact fun _ => rfl)
  | .cst d, e, ht, h => sndT_val (mtE_ok O _ _ h) (by
    unfold mtE at h
    split at h <;> first | (exact absurd h Bool.false_ne_true) | skip
    exact fun _ => rfl)
  | .tup a, e, ht, h => sndT_val (mtE_ok O _ _ h) (by
    unfold mtE at h
    split at h <;> first | (exact absurd h Bool.false_ne_true) | skip
    exact fun _ => rfl)
  | .bin op a b, e, ht, h => sndT_val (mtE_ok O _ _ h) (by
    unfold mtE at h
    split at h <;> first | (exact absurd h Bool.false_ne_true) | skip
    exact fun _ => rfl)
  | .neg a, e, ht, h => sndT_val (mtE_ok O _ _ h) (by
    unfold mtE at h
    split at h <;> first | (exact absurd h Bool.false_ne_true) | skip
    exact fun _ => rfl)
  | .call f a, e, ht, h => sndT_val (mtE_ok O _ _ h) (by
    unfold mtE at h
    split at h <;> first | (exact absurd h Bool.false_ne_true) | skip
    exact fun _ => rfl)
  | .isT a ts, e, ht, h => sndT_val (mtE_ok O _ _ h) (by
    unfold mtE at h
    split at h <;> first | (exact absurd h Bool.false_ne_true) | skip
    exact fun _ => rfl)
  | .len a, e, ht, h => sndT_val (mtE_ok O _ _ h) (by
    unfold mtE at h
    split at h <;> first | (exact absurd h Bool.false_ne_true) | skip
    exact fun _ => rfl)
  | .lenl i, e, ht, h => sndT_val (mtE_ok O _ _ h) (by
    unfold mtE at h
    split at h <;> first | (exact absurd h Bool.false_ne_true) | skip
    exact fun _ => rfl)
  | .abs a, e, ht, h => sndT_val (mtE_ok O _ _ h) (by
    unfold mtE at h
    split at h <;> first | (exact absurd h Bool.false_ne_true) | skip
    exact fun _ => rfl)
  | .int1 a, e, ht, h => sndT_val (mtE_ok O _ _ h) (by
    unfold mtE at h
    split at h <;> first | (exact absurd h Bool.false_ne_true) | skip
    exact fun _ => rfl)
  | .min2 a b, e, ht, h => sndT_val (mtE_ok O _ _ h) (by
    unfold mtE at h
    split at h <;> first | (exact absurd h Bool.false_ne_true) | skip
    exact fun _ => rfl)
  | .max2 a b, e, ht, h => sndT_val (mtE_ok O _ _ h) (by
    unfold mtE at h
    split at h <;> first | (exact absurd h Bool.false_ne_true) | skip
    exact fun _ => rfl)
  | .gcd a b, e, ht, h => sndT_val (mtE_ok O _ _ h) (by
    unfold mtE at h
    split at h <;> first | (exact absurd h Bool.false_ne_true) | skip
    exact fun _ => rfl)
  | .bits a, e, ht, h => sndT_val (mtE_ok O _ _ h) (by
    unfold mtE at h
    split at h <;> first | (exact absurd h Bool.false_ne_true) | skip
    exact fun _ => rfl)
  | .ix a b, e, ht, h => sndT_val (mtE_ok O _ _ h) (by
    unfold mtE at h
    split at h <;> first | (exact absurd h Bool.false_ne_true) | skip
    exact fun _ => rfl)
  | .pop i, e, ht, h => sndT_val (mtE_ok O _ _ h) (by
    unfold mtE at h
    split at h <;> first | (exact absurd h Bool.false_ne_true) | skip
    exact fun _ => rfl)
  | .tupOf a, e, ht, h => sndT_val (mtE_ok O _ _ h) (by
    unfold mtE at h
    split at h <;> first | (exact absurd h Bool.false_ne_true) | skip
    exact fun _ => rfl)
  | .cmp op a b, e, _, h => by
    unfold mtE at h
    split at h <;> first | (exact absurd h Bool.false_ne_true) | skip
    simp only [Bool.and_eq_true, decide_eq_true_eq, Bool.not_eq_true'] at h
    obtain ⟨⟨h1, h2⟩, h3⟩ := h
    subst h1
    exact sndT_cmp (mtE_ok O a _ h2) (mtE_ok O b _ h3)
  | .eqq ne a b, e, _, h => by
    unfold mtE at h
    split at h <;> first | (exact absurd h Bool.false_ne_true) | skip
    simp only [Bool.and_eq_true, decide_eq_true_eq, Bool.not_eq_true'] at h
    obtain ⟨⟨h1, h2⟩, h3⟩ := h
    subst h1
    exact sndT_eqq O.u64 (mtE_ok O a _ h2) (mtE_ok O b _ h3)
  | .isN ne a, e, _, h => by
    unfold mtE at h
    split at h <;> first | (exact absurd h Bool.false_ne_true) | skip
    simp only [Bool.and_eq_true, decide_eq_true_eq, Bool.not_eq_true'] at h
    obtain ⟨h1, h2⟩ := h
    subst h1
    exact sndT_isN (mtE_ok O a _ h2)
  | .ofL l, e, ht, h => by cases ht
  | .peek a, e, ht, h => by
    unfold mtE at h
    rw [Bool.and_eq_true] at h
    exact sndT_peek (mtT_ok O a _ ht h.2)
  | .chn o1 o2 a b c, e, ht, h => by
    unfold mtE at h
    split at h <;> first | (exact absurd h Bool.false_ne_true) | skip
    simp only [Bool.and_eq_true, decide_eq_true_eq] at h
    obtain ⟨⟨⟨⟨h1, h2⟩, h3⟩, h4⟩, h5⟩ := h
    subst h1 h2
    exact sndT_chn (mtE_ok O a _ h3) (mtE_ok O b _ h4) (mtE_ok O c _ h5)
  | .slB a b c, e, ht, h => sndT_val (mtE_ok O _ _ h) (by
    unfold mtE at h
    split at h <;> first | (exact absurd h Bool.false_ne_true) | skip
    exact fun _ => rfl)
  | .un o a, e, ht, h => sndT_val (mtE_ok O _ _ h) (by
    unfold mtE at h
    split at h <;> first | (exact absurd h Bool.false_ne_true) | skip
    exact fun _ => rfl)
  | .fld a f cs, e, ht, h => sndT_val (mtE_ok O _ _ h) (by
    unfold mtE at h
    split at h <;> first | (exact absurd h Bool.false_ne_true) | skip
    exact fun _ => rfl)
  | .dis .meth m tb a r, e, ht, h => sndT_val (mtE_ok O _ _ h) (by
    unfold mtE at h
    dsimp only at h
    split at h <;> first | (exact absurd h Bool.false_ne_true) | skip
    exact fun _ => rfl)
  | .dis .prop m tb a r, e, ht, h => sndT_val (mtE_ok O _ _ h) (by
    unfold mtE at h
    dsimp only at h
    split at h <;> first | (exact absurd h Bool.false_ne_true) | skip
    exact fun _ => rfl)
  | .mk c f r ks kr, e, ht, h => sndT_val (mtE_ok O _ _ h) (by
    unfold mtE at h
    split at h <;> first | (exact absurd h Bool.false_ne_true) | skip
    exact fun _ => rfl)
  | .isC _ _, e, ht, h => absurd h (by unfold mtE; exact Bool.false_ne_true)
  | .ixl i a, e, ht, h => sndT_val (mtE_ok O _ _ h) (by
    unfold mtE at h
    split at h <;> first | (exact absurd h Bool.false_ne_true) | skip
    exact fun _ => rfl)
  | .glo x d, e, ht, h => sndT_val (mtE_ok O _ _ h) (by
    unfold mtE at h
    split at h <;> first | (exact absurd h Bool.false_ne_true) | skip
    exact fun _ => rfl)
  | .strI a, e, ht, h => sndT_val (mtE_ok O _ _ h) (by
    unfold mtE at h
    split at h <;> first | (exact absurd h Bool.false_ne_true) | skip
    exact fun _ => rfl)
  | .startsw a b, e, ht, h => sndT_val (mtE_ok O _ _ h) (by
    unfold mtE at h
    split at h <;> first | (exact absurd h Bool.false_ne_true) | skip
    exact fun _ => rfl)
  | .partn a b, e, ht, h => sndT_val (mtE_ok O _ _ h) (by
    unfold mtE at h
    split at h <;> first | (exact absurd h Bool.false_ne_true) | skip
    exact fun _ => rfl)
  | .slF a b, e, ht, h => sndT_val (mtE_ok O _ _ h) (by
    unfold mtE at h
    split at h <;> first | (exact absurd h Bool.false_ne_true) | skip
    exact fun _ => rfl)
  | .slT a b, e, ht, h => sndT_val (mtE_ok O _ _ h) (by
    unfold mtE at h
    split at h <;> first | (exact absurd h Bool.false_ne_true) | skip
    exact fun _ => rfl)
  | .fst r, e, ht, h => sndT_val (mtE_ok O _ _ h) (by
    unfold mtE at h
    split at h <;> first | (exact absurd h Bool.false_ne_true) | skip
    exact fun _ => rfl)
  | .inn ne a b, e, _, h => by
    unfold mtE at h
    split at h <;> first | (exact absurd h Bool.false_ne_true) | skip
    simp only [Bool.and_eq_true, decide_eq_true_eq, Bool.not_eq_true'] at h
    obtain ⟨⟨⟨h1, h2⟩, h3⟩, h4⟩ := h
    subst h1
    exact sndT_inn O.units (mtE_ok O a _ h3) (mtE_ok O b _ h4) h2
  | .xf _ _, e, _, h => sndT_val (mtE_ok O _ _ h) (by
    unfold mtE at h
    split at h <;> first | (exact absurd h Bool.false_ne_true) | skip
    exact fun _ => rfl)
  | .xis _ _, e, _, h => sndT_val (mtE_ok O _ _ h) (by
    unfold mtE at h
    split at h <;> first | (exact absurd h Bool.false_ne_true) | skip
    exact fun _ => rfl)
theorem mtW_and {X : Cx} {C : Ctx} {cl : Cl} {W : WX} {Γ : Gam} (O : CxOk X C cl W Γ) : ∀ (ir : E) {y z : Expr} {r : List Expr} {p : Pos}, tst ir = true → mtE C ir (.BoolOp .And (y :: z :: r) p) = true → PW X (.BoolOp .And (y :: z :: r) p) (tT X cl C.io W Γ ir)
  | .and a b, y, z, r, p, ht, h => by
    unfold mtE at h
    rw [Bool.and_eq_true] at h
    have ht' : (tst a && tst b) = true := ht
    rw [Bool.and_eq_true] at ht'
    cases r with
    | nil => exact sndT_and (mtT_ok O a _ ht'.1 h.1) (pw_and1 (mtT_ok O b _ ht'.2 h.2))
    | cons w r => exact sndT_and (mtT_ok O a _ ht'.1 h.1) (mtW_and O b ht'.2 h.2)
  | .var i, _, _, _, _, _, h => absurd h (by unfold mtE; exact Bool.false_ne_true)
  | .cst d, _, _, _, _, _, h => absurd h (by unfold mtE; exact Bool.false_ne_true)
  | .tup a, _, _, _, _, _, h => absurd h (by unfold mtE; exact Bool.false_ne_true)
  | .bin op a b, _, _, _, _, _, h => absurd h (by unfold mtE; exact Bool.false_ne_true)
  | .neg a, _, _, _, _, _, h => absurd h (by unfold mtE; exact Bool.false_ne_true)
  | .cmp op a b, _, _, _, _, _, h => absurd h (by unfold mtE; exact Bool.false_ne_true)
  | .eqq ne a b, _, _, _, _, _, h => absurd h (by unfold mtE; exact Bool.false_ne_true)
  | .isN ne a, _, _, _, _, _, h => absurd h (by unfold mtE; exact Bool.false_ne_true)
  | .or a b, _, _, _, _, _, h => absurd h (by unfold mtE; exact Bool.false_ne_true)
  | .not a, _, _, _, _, _, h => absurd h (by unfold mtE; exact Bool.false_ne_true)
  | .ifx c a b, _, _, _, _, _, h => absurd h (by unfold mtE; exact Bool.false_ne_true)
  | .call f a, _, _, _, _, _, h => absurd h (by unfold mtE; exact Bool.false_ne_true)
  | .isT a ts, _, _, _, _, _, h => absurd h (by unfold mtE; exact Bool.false_ne_true)
  | .len a, _, _, _, _, _, h => absurd h (by unfold mtE; exact Bool.false_ne_true)
  | .lenl i, _, _, _, _, _, h => absurd h (by unfold mtE; exact Bool.false_ne_true)
  | .abs a, _, _, _, _, _, h => absurd h (by unfold mtE; exact Bool.false_ne_true)
  | .int1 a, _, _, _, _, _, h => absurd h (by unfold mtE; exact Bool.false_ne_true)
  | .min2 a b, _, _, _, _, _, h => absurd h (by unfold mtE; exact Bool.false_ne_true)
  | .max2 a b, _, _, _, _, _, h => absurd h (by unfold mtE; exact Bool.false_ne_true)
  | .gcd a b, _, _, _, _, _, h => absurd h (by unfold mtE; exact Bool.false_ne_true)
  | .bits a, _, _, _, _, _, h => absurd h (by unfold mtE; exact Bool.false_ne_true)
  | .ix a b, _, _, _, _, _, h => absurd h (by unfold mtE; exact Bool.false_ne_true)
  | .pop i, _, _, _, _, _, h => absurd h (by unfold mtE; exact Bool.false_ne_true)
  | .tupOf a, _, _, _, _, _, h => absurd h (by unfold mtE; exact Bool.false_ne_true)
  | .slB a b c, _, _, _, _, _, h => absurd h (by unfold mtE; exact Bool.false_ne_true)
  | .un o a, _, _, _, _, _, h => absurd h (by unfold mtE; exact Bool.false_ne_true)
  | .chn o1 o2 a b c, _, _, _, _, _, h => absurd h (by unfold mtE; exact Bool.false_ne_true)
  | .fld a f cs, _, _, _, _, _, h => absurd h (by unfold mtE; exact Bool.false_ne_true)
  | .mk c f r ks kr, _, _, _, _, _, h => absurd h (by unfold mtE; exact Bool.false_ne_true)
  | .isC a c, _, _, _, _, _, h => absurd h (by unfold mtE; exact Bool.false_ne_true)
  | .ixl i k, _, _, _, _, _, h => absurd h (by unfold mtE; exact Bool.false_ne_true)
  | .glo x d, _, _, _, _, _, h => absurd h (by unfold mtE; exact Bool.false_ne_true)
  | .inn ne a b, _, _, _, _, _, h => absurd h (by unfold mtE; exact Bool.false_ne_true)
  | .strI a, _, _, _, _, _, h => absurd h (by unfold mtE; exact Bool.false_ne_true)
  | .startsw a b, _, _, _, _, _, h => absurd h (by unfold mtE; exact Bool.false_ne_true)
  | .partn a b, _, _, _, _, _, h => absurd h (by unfold mtE; exact Bool.false_ne_true)
  | .slF a b, _, _, _, _, _, h => absurd h (by unfold mtE; exact Bool.false_ne_true)
  | .slT a b, _, _, _, _, _, h => absurd h (by unfold mtE; exact Bool.false_ne_true)
  | .fst r, _, _, _, _, _, h => absurd h (by unfold mtE; exact Bool.false_ne_true)
  | .xf i f, _, _, _, _, _, h => absurd h (by unfold mtE; exact Bool.false_ne_true)
  | .xis i ts, _, _, _, _, _, h => absurd h (by unfold mtE; exact Bool.false_ne_true)
  | .peek a, _, _, _, _, _, h => absurd h (by unfold mtE; exact Bool.false_ne_true)
  | .dis k m tb a r, _, _, _, _, _, h => absurd h (by unfold mtE; cases k <;> exact Bool.false_ne_true)
  | .ofL l, _, _, _, _, ht, _ => by cases ht
theorem mtW_or {X : Cx} {C : Ctx} {cl : Cl} {W : WX} {Γ : Gam} (O : CxOk X C cl W Γ) : ∀ (ir : E) {y z : Expr} {r : List Expr} {p : Pos}, tst ir = true → mtE C ir (.BoolOp .Or (y :: z :: r) p) = true → PW X (.BoolOp .Or (y :: z :: r) p) (tT X cl C.io W Γ ir)
  | .or a b, y, z, r, p, ht, h => by
    unfold mtE at h
    rw [Bool.and_eq_true] at h
    have ht' : (tst a && tst b) = true := ht
    rw [Bool.and_eq_true] at ht'
    cases r with
    | nil => exact sndT_or (mtT_ok O a _ ht'.1 h.1) (pw_or1 (mtT_ok O b _ ht'.2 h.2))
    | cons w r => exact sndT_or (mtT_ok O a _ ht'.1 h.1) (mtW_or O b ht'.2 h.2)
  | .var i, _, _, _, _, _, h => absurd h (by unfold mtE; exact Bool.false_ne_true)
  | .cst d, _, _, _, _, _, h => absurd h (by unfold mtE; exact Bool.false_ne_true)
  | .tup a, _, _, _, _, _, h => absurd h (by unfold mtE; exact Bool.false_ne_true)
  | .bin op a b, _, _, _, _, _, h => absurd h (by unfold mtE; exact Bool.false_ne_true)
  | .neg a, _, _, _, _, _, h => absurd h (by unfold mtE; exact Bool.false_ne_true)
  | .cmp op a b, _, _, _, _, _, h => absurd h (by unfold mtE; exact Bool.false_ne_true)
  | .eqq ne a b, _, _, _, _, _, h => absurd h (by unfold mtE; exact Bool.false_ne_true)
  | .isN ne a, _, _, _, _, _, h => absurd h (by unfold mtE; exact Bool.false_ne_true)
  | .and a b, _, _, _, _, _, h => absurd h (by unfold mtE; exact Bool.false_ne_true)
  | .not a, _, _, _, _, _, h => absurd h (by unfold mtE; exact Bool.false_ne_true)
  | .ifx c a b, _, _, _, _, _, h => absurd h (by unfold mtE; exact Bool.false_ne_true)
  | .call f a, _, _, _, _, _, h => absurd h (by unfold mtE; exact Bool.false_ne_true)
  | .isT a ts, _, _, _, _, _, h => absurd h (by unfold mtE; exact Bool.false_ne_true)
  | .len a, _, _, _, _, _, h => absurd h (by unfold mtE; exact Bool.false_ne_true)
  | .lenl i, _, _, _, _, _, h => absurd h (by unfold mtE; exact Bool.false_ne_true)
  | .abs a, _, _, _, _, _, h => absurd h (by unfold mtE; exact Bool.false_ne_true)
  | .int1 a, _, _, _, _, _, h => absurd h (by unfold mtE; exact Bool.false_ne_true)
  | .min2 a b, _, _, _, _, _, h => absurd h (by unfold mtE; exact Bool.false_ne_true)
  | .max2 a b, _, _, _, _, _, h => absurd h (by unfold mtE; exact Bool.false_ne_true)
  | .gcd a b, _, _, _, _, _, h => absurd h (by unfold mtE; exact Bool.false_ne_true)
  | .bits a, _, _, _, _, _, h => absurd h (by unfold mtE; exact Bool.false_ne_true)
  | .ix a b, _, _, _, _, _, h => absurd h (by unfold mtE; exact Bool.false_ne_true)
  | .pop i, _, _, _, _, _, h => absurd h (by unfold mtE; exact Bool.false_ne_true)
  | .tupOf a, _, _, _, _, _, h => absurd h (by unfold mtE; exact Bool.false_ne_true)
  | .slB a b c, _, _, _, _, _, h => absurd h (by unfold mtE; exact Bool.false_ne_true)
  | .un o a, _, _, _, _, _, h => absurd h (by unfold mtE; exact Bool.false_ne_true)
  | .chn o1 o2 a b c, _, _, _, _, _, h => absurd h (by unfold mtE; exact Bool.false_ne_true)
  | .fld a f cs, _, _, _, _, _, h => absurd h (by unfold mtE; exact Bool.false_ne_true)
  | .mk c f r ks kr, _, _, _, _, _, h => absurd h (by unfold mtE; exact Bool.false_ne_true)
  | .isC a c, _, _, _, _, _, h => absurd h (by unfold mtE; exact Bool.false_ne_true)
  | .ixl i k, _, _, _, _, _, h => absurd h (by unfold mtE; exact Bool.false_ne_true)
  | .glo x d, _, _, _, _, _, h => absurd h (by unfold mtE; exact Bool.false_ne_true)
  | .inn ne a b, _, _, _, _, _, h => absurd h (by unfold mtE; exact Bool.false_ne_true)
  | .strI a, _, _, _, _, _, h => absurd h (by unfold mtE; exact Bool.false_ne_true)
  | .startsw a b, _, _, _, _, _, h => absurd h (by unfold mtE; exact Bool.false_ne_true)
  | .partn a b, _, _, _, _, _, h => absurd h (by unfold mtE; exact Bool.false_ne_true)
  | .slF a b, _, _, _, _, _, h => absurd h (by unfold mtE; exact Bool.false_ne_true)
  | .slT a b, _, _, _, _, _, h => absurd h (by unfold mtE; exact Bool.false_ne_true)
  | .fst r, _, _, _, _, _, h => absurd h (by unfold mtE; exact Bool.false_ne_true)
  | .xf i f, _, _, _, _, _, h => absurd h (by unfold mtE; exact Bool.false_ne_true)
  | .xis i ts, _, _, _, _, _, h => absurd h (by unfold mtE; exact Bool.false_ne_true)
  | .peek a, _, _, _, _, _, h => absurd h (by unfold mtE; exact Bool.false_ne_true)
  | .dis k m tb a r, _, _, _, _, _, h => absurd h (by unfold mtE; cases k <;> exact Bool.false_ne_true)
  | .ofL l, _, _, _, _, ht, _ => by cases ht
theorem mtA_ok {X : Cx} {C : Ctx} {cl : Cl} {W : WX} {Γ : Gam} (O : CxOk X C cl W Γ) : ∀ (ir : A) (e : List Expr), mtA C ir e = true → PA X e (tA X cl C.io W Γ ir)
  | .nil, e, h => by
    unfold mtA at h
    split at h <;> first | (exact absurd h Bool.false_ne_true) | skip
    exact snd_anil
  | .cons a r, e, h => by
    unfold mtA at h
    split at h <;> first | (exact absurd h Bool.false_ne_true) | skip
    simp only [Bool.and_eq_true] at h
    obtain ⟨⟨h1, h2⟩, h3⟩ := h
    exact snd_acons h1 (mtE_ok O a _ h2) (mtA_ok O r _ h3)
  | .io i r, e, h => by
    unfold mtA at h
    split at h <;> first | (exact absurd h Bool.false_ne_true) | skip
    rw [Bool.and_eq_true] at h
    obtain ⟨h1, h2, h3, h4⟩ := O.name h.1
    exact snd_aio h1 h2 h3 h4 (mtA_ok O r _ h.2)
theorem mtL_ok {X : Cx} {C : Ctx} {cl : Cl} {W : WX} {Γ : Gam} (O : CxOk X C cl W Γ) : ∀ (ir : L) (e : Expr), mtL C ir e = true → PE X e (tL X cl C.io W Γ ir)
  | .splt a b, e, h => by
    unfold mtL at h
    split at h <;> first | (exact absurd h Bool.false_ne_true) | skip
    simp only [Bool.and_eq_true, decide_eq_true_eq] at h
    obtain ⟨⟨⟨⟨⟨h1, h2⟩, h3⟩, h4⟩, h5⟩, h6⟩ := h
    subst h1
    exact snd_splt (abase_of h2) h3 h4 (by rw [Few, star_cons h3]; rfl) (mtE_ok O a _ h5) (mtE_ok O b _ h6)
  | .disp a, e, h => by
    unfold mtL at h
    split at h <;> first | (exact absurd h Bool.false_ne_true) | skip
    exact snd_disp (mtA_ok O a _ h)
  | .listOf a, e, h => by
    unfold mtL at h
    split at h <;> first | (exact absurd h Bool.false_ne_true) | skip
    simp only [Bool.and_eq_true] at h
    obtain ⟨⟨h1, h2⟩, h3⟩ := h
    obtain ⟨e1, h5, h6⟩ := O.blt h1
    subst e1
    exact snd_listOf h5 h6 h2 (mtE_ok O a _ h3)
  | .callL f a, e, h => by
    unfold mtL at h
    split at h <;> first | (exact absurd h Bool.false_ne_true) | skip
    simp only [Bool.and_eq_true] at h
    obtain ⟨⟨h1, h2⟩, h3⟩ := h
    obtain ⟨io, np, F, h4, h5⟩ := O.has h1
    exact snd_callL F O.tk h4 h5 h2 (mtA_ok O a _ h3)
  | .lc own it p a, e, h => by
    unfold mtL at h
    split at h <;> first | (exact absurd h Bool.false_ne_true) | skip
    simp only [Bool.and_eq_true] at h
    obtain ⟨⟨h1, h2⟩, h3⟩ := h
    obtain ⟨hs, hk, ok⟩ := lcB_of O h1 (mtI_ok O it _ _ h2)
    rename_i pos
    have z := snd_lc' (pos := pos) ok (ie := a) (fun s H Ca k fp => mtE_ok (O.inBlk hs hk s H Ca k fp) a _ h3)
    rw [ownN_map] at z
    exact z
  | .lci own it p c a, e, h => by
    unfold mtL at h
    split at h <;> first | (exact absurd h Bool.false_ne_true) | skip
    simp only [Bool.and_eq_true] at h
    obtain ⟨⟨⟨⟨h1, h2⟩, h3⟩, h4⟩, h5⟩ := h
    obtain ⟨hs, hk, ok⟩ := lcB_of O h1 (mtI_ok O it _ _ h2)
    rename_i pos
    have z := snd_lci' (pos := pos) ok (ic := c) (ie := a) (fun s H Ca k fp => mtT_ok (O.inBlk hs hk s H Ca k fp) c _ h3 h4) (fun s H Ca k fp => mtE_ok (O.inBlk hs hk s H Ca k fp) a _ h5)
    rw [ownN_map] at z
    exact z
  | .cat a b, e, h => by
    unfold mtL at h
    split at h <;> first | (exact absurd h Bool.false_ne_true) | skip
    rw [Bool.and_eq_true] at h
    exact snd_cat (mtE_ok O a _ h.1) (mtE_ok O b _ h.2)
  | .rep a b, e, h => by
    unfold mtL at h
    split at h <;> first | (exact absurd h Bool.false_ne_true) | skip
    rw [Bool.and_eq_true] at h
    exact snd_rep (mtE_ok O a _ h.1) (mtE_ok O b _ h.2)
  | .slF a b, e, h => by
    unfold mtL at h
    split at h <;> first | (exact absurd h Bool.false_ne_true) | skip
    rw [Bool.and_eq_true] at h
    exact snd_slFL (mtE_ok O a _ h.1) (mtE_ok O b _ h.2)
  | .slT a b, e, h => by
    unfold mtL at h
    split at h <;> first | (exact absurd h Bool.false_ne_true) | skip
    rw [Bool.and_eq_true] at h
    exact snd_slTL (mtE_ok O a _ h.1) (mtE_ok O b _ h.2)
  | .slB a b c, e, h => by
    unfold mtL at h
    split at h <;> first | (exact absurd h Bool.false_ne_true) | skip
    simp only [Bool.and_eq_true] at h
    exact snd_slBL (mtE_ok O a _ h.1.1) (mtE_ok O b _ h.1.2) (mtE_ok O c _ h.2)
  | .srt a, e, h => by
    unfold mtL at h
    split at h <;> first | (exact absurd h Bool.false_ne_true) | skip
    simp only [Bool.and_eq_true] at h
    obtain ⟨⟨h1, h2⟩, h3⟩ := h
    obtain ⟨e1, h5, h6⟩ := O.blt h1
    subst e1
    exact snd_srt h5 h6 h2 (mtE_ok O a _ h3)
  | .rng1 a, e, h => by
    unfold mtL at h
    split at h <;> first | (exact absurd h Bool.false_ne_true) | skip
    simp only [Bool.and_eq_true, Bool.not_eq_true'] at h
    obtain ⟨⟨⟨⟨h0, h1⟩, h1'⟩, h2⟩, h3⟩ := h
    obtain ⟨e1, h5, h6⟩ := O.blt h1
    obtain ⟨e2, h7, h8⟩ := O.blt h1'
    subst e1 e2
    exact snd_rng1 (O.calm h0) h5 h6 h7 h8 h2 (mtE_ok O a _ h3)
  | .rng2 a b, e, h => by
    unfold mtL at h
    split at h <;> first | (exact absurd h Bool.false_ne_true) | skip
    simp only [Bool.and_eq_true, Bool.not_eq_true'] at h
    obtain ⟨⟨⟨⟨⟨⟨h0, h1⟩, h1'⟩, h2⟩, h2'⟩, h3⟩, h4⟩ := h
    obtain ⟨e1, h5, h6⟩ := O.blt h1
    obtain ⟨e2, h7, h8⟩ := O.blt h1'
    subst e1 e2
    exact snd_rng2 (O.calm h0) h5 h6 h7 h8 h2 h2' (mtE_ok O a _ h3) (mtE_ok O b _ h4)
  | .peek l, e, h => by
    unfold mtL at h
    rw [Bool.and_eq_true] at h
    exact snd_peekL (mtL_ok O l _ h.2)
  | .slFl i a, e, h => by
    unfold mtL at h
    split at h <;> first | (exact absurd h Bool.false_ne_true) | skip
    rw [Bool.and_eq_true] at h
    obtain ⟨h4, h5, h6, h7⟩ := O.name h.1
    exact snd_slFl h4 h5 h6 h7 (mtE_ok O a _ h.2)
  | .slTl i a, e, h => by
    unfold mtL at h
    split at h <;> first | (exact absurd h Bool.false_ne_true) | skip
    rw [Bool.and_eq_true] at h
    obtain ⟨h4, h5, h6, h7⟩ := O.name h.1
    exact snd_slTl h4 h5 h6 h7 (mtE_ok O a _ h.2)
  | .slBl i a b, e, h => by
    unfold mtL at h
    split at h <;> first | (exact absurd h Bool.false_ne_true) | skip
    simp only [Bool.and_eq_true] at h
    obtain ⟨h4, h5, h6, h7⟩ := O.name h.1.1
    exact snd_slBl h4 h5 h6 h7 (mtE_ok O a _ h.1.2) (mtE_ok O b _ h.2)
end
theorem mtN_ok (O : CxOk X C cl W Γ) (ir : NM) (e : Expr) (h : mtN C ir e = true) : PE X e (tN X cl C.io W Γ ir) := by
  cases ir with
  | lc own it p l =>
    unfold mtN at h
    dsimp only at h
    split at h <;> first | (exact absurd h Bool.false_ne_true) | skip
    simp only [Bool.and_eq_true] at h
    obtain ⟨⟨h1, h2⟩, h3⟩ := h
    obtain ⟨hs, hk, ok⟩ := lcB_of O h1 (mtI_ok O it _ _ h2)
    rename_i pos
    have z := snd_lcN' (pos := pos) ok (il := l) (fun s H Ca k fp => mtL_ok (O.inBlk hs hk s H Ca k fp) l _ h3)
    rw [ownN_map] at z
    exact z
end
end VI
set_option maxHeartbeats 2000000
/-! The soundness of statements and of defs. -/
namespace VI
open PySem L2 Evl VX
section
variable {X : Cx} {C : Ctx} {cl : Cl} {W : WX} {Γ : Gam} {fu : Nat}
theorem swaps_of {e : Expr} {t : Option Expr} {n : Nat} {env : PySem.Env} (h : noComp e = true) : swapsWith e t n env = pure false := by
  cases e <;> first | rfl | (cases h; done)
theorem swapsSole_of {e t : Expr} {n : Nat} {env : PySem.Env} (h : noComp e = true) : swapsWithSole [t] e n env = pure false := by
  cases e <;> first | rfl | (cases h; done)
theorem stores_of {ts : List Expr} {k : Nat} {p : Pos} {e : Expr} {env : PySem.Env} (h : noTup e = true) : swappedStores [.Tuple ts k p] e env = pure none := by
  cases e <;> first | rfl | (cases h; done)
theorem swapped_of (O : CxOk X C cl W Γ) {x y : Str} {px py p p2 : Pos} {k k2 : Nat} {a b : Expr} (hx : C.loc x = true) (hy : C.loc y = true) (hxy : x ≠ y) (hl : (py.line == px.line) = true) (ha : plainX a = true) (hb : plainX b = true)
    (h1 : [a, b].all (foldedForSure 8) = false) (h2 : [a, b].all (constantsAlone 8) = false) : swappedStores [.Tuple [.Name x px, .Name y py] k p] (.Tuple [a, b] k2 p2) X.env = pure (some [x, y]) := by
  have kx : X.env.kindOf x = some .local := by
    show X.env.scope.names.lookup x = _
    rw [O.sc]; exact of_decide_eq_true hx
  have ky : X.env.kindOf y = some .local := by
    show X.env.scope.names.lookup y = _
    rw [O.sc]; exact of_decide_eq_true hy
  have e1 : ([a, b].any fun | .Starred .. => true | _ => false) = false := by
    cases a <;> first | (cases ha; done) | (cases b <;> first | (cases hb; done) | rfl)
  have kb := O.kind
  have hyx : (y == x) = false := beq_eq_false_iff_ne.mpr (Ne.symm hxy)
  have hxx : (x == y) = false := beq_eq_false_iff_ne.mpr hxy
  have hl' : py.line = px.line := beq_iff_eq.mp hl
  unfold swappedStores
  simp [kx, ky, kb, Expr.pos, hl', List.eraseDups, hyx, hxx]
  have n2 : (List.eraseDupsBy (fun x1 x2 => x1 == x2) [x, y]).length = 2 := by
    simp [List.eraseDupsBy, List.eraseDupsBy.loop, hyx, hxx]
  simp only [List.all_cons, List.all_nil, Bool.and_true] at h1 h2
  rw [if_neg]
  · rw [if_pos n2, if_neg, if_neg]
    · intro h; rw [h.1, h.2] at h2; cases h2
    · intro h; rw [h.1, h.2] at h1; cases h1
  · intro h
    rcases h with h | h
    · cases a <;> first | (cases ha; done) | (cases h; done)
    · cases b <;> first | (cases hb; done) | (cases h; done)
theorem takesW0 {Y : Cx} : Takes Y W0 := fun _ _ ⟨_, _, _, _, _, _, _, _, _, _, _, _, _, _, _, _, z⟩ => z.elim
theorem ClsOk.at {K : PySem.W.Frag} {prog : Program} {mg : Str → Option Value} {cls : List CI} {sups flds : List Str} (O : ClsOk K prog mg cl cls sups flds) (xa : Option XA) : ClsOk K prog mg ⟨cl.fn, cl.sp, xa⟩ cls sups flds :=
  ⟨O.own, O.ex, O.fld, O.sup, fun n t h1 h2 => by
    have z := O.hit n t h1 h2
    cases t <;> exact z⟩
theorem CxOk.tr (O : CxOk X C cl W Γ) (h0 : C.cur = none) {W' : WX} {pn : List (Addr × Obj)} {xe : Value → Shared → Prop} (tk : Takes (X.tr pn xe) W') (ps : PassesOwn (model X.prog X.w) X.A X.env xe) : CxOk (X.tr pn xe) C cl W' Γ where
  N := O.N
  sc := O.sc
  kind := O.kind
  nd := O.nd
  calm := O.calm
  pass := fun _ => ps
  sk := O.sk
  fr := O.fr
  room := O.room
  cls := O.cls
  cur := fun i hi => by rw [h0] at hi; cases hi
  tk := tk
  fn := O.fn
  units := O.units
  free := O.free
  gcd := O.gcd
  glo := O.glo
  fns := fun f g h hg => ⟨(O.fns f g h hg).has, (O.fns f g h hg).g⟩
  ks := fun k h => (O.ks k h).cast rfl rfl rfl rfl rfl rfl
theorem CxOk.suite0 (O : CxOk X C cl W Γ) (a : Addr) (oe : Obj) (pn : List (Addr × Obj)) : CxOk (X.suite a ((a, oe) :: pn)) (C.suite none) cl W0 ⟨Γ.fn, none⟩ where
  N := O.N
  sc := O.sc
  kind := O.kind
  nd := O.nd
  calm := fun h => nomatch h
  pass := fun h => nomatch h
  sk := O.sk
  fr := O.fr
  room := fun h => nomatch h
  cls := O.cls
  cur := fun i hi => nomatch hi
  tk := takesW0
  fn := O.fn
  units := O.units
  free := O.free
  gcd := O.gcd
  glo := O.glo
  fns := fun f g h _ => by
    have h' : ([] : List Fn)[f]? = some g := h
    simp at h'
  ks := fun k h => by
    have h' : k ∈ ([] : List KI) := h
    cases h'
theorem CxOk.suite1 (O : CxOk X C cl W Γ) {i : Nat} (a d : Addr) (k : Nat) (w : List (Str × D)) (oe : Obj) (pn : List (Addr × Obj)) (hz : Zc (.ref (cl.fn k)) (some d) oe) (hf : ∃ vs, oe.data = .fields vs) (hk : k < C.cls.length) :
    CxOk (X.suite a ((a, oe) :: pn)) (C.suite (some i)) ⟨cl.fn, cl.sp, some ⟨i, k, a, d, w⟩⟩ W0 ⟨Γ.fn, some (i, k, w)⟩ where
  N := O.N
  sc := O.sc
  kind := O.kind
  nd := O.nd
  calm := fun h => nomatch h
  pass := fun h => nomatch h
  sk := O.sk
  fr := O.fr
  room := fun h => nomatch h
  cls := O.cls.at _
  cur := fun j hj => by
    have e : some i = some j := hj
    cases e
    exact ⟨X, a, d, k, w, oe, pn, rfl, rfl, rfl, hz, hf, hk⟩
  tk := takesW0
  fn := O.fn
  units := O.units
  free := O.free
  gcd := O.gcd
  glo := O.glo
  fns := fun f g h _ => by
    have h' : ([] : List Fn)[f]? = some g := h
    simp at h'
  ks := fun k h => by
    have h' : k ∈ ([] : List KI) := h
    cases h'
/-- a comprehension's store: on one line or not -/
theorem lcSw (O : CxOk X C cl W Γ) {i : Nat} {x : Str} {px spos : Pos} {v : Expr} {te : TE} (hx : C.tgI i x = true) (hl : isLC v = true)
    (h1 : PE X v te) (h2 : ∀ elt gs scope pos, v = .ListComp elt gs scope pos → SwOk X i x px pos scope → C.su = false → PS X (.Assign [.Name x px] v spos) (tAsg te (gName i))) (hs : C.su = false) (hkk : isFnK C.sc.kind = true) : PS X (.Assign [.Name x px] v spos) (tAsg te (gName i)) := by
  cases v <;> try (exact absurd hl Bool.false_ne_true)
  rename_i elt gs scope pos
  obtain ⟨g1, g2, g3, g4⟩ := O.tgI hx
  by_cases c1 : X.env.scope.names.lookup x = some .local ∧ X.env.scope.kind = .function ∧ (px.line == pos.line) = true ∧ (scope.names.any fun (n, k) => n == x && (k == .local || k == .cell)) = false
  · exact h2 elt gs scope pos rfl ⟨g1, c1.1, c1.2.1, c1.2.2.1, c1.2.2.2⟩ hs
  · refine ps_set (by rw [O.N]; exact O.nd) g1 g2 h1 ?_ g3
    have e : swapsWith (.ListComp elt gs scope pos) (some (.Name x px)) spos.line X.env = pure (X.env.blockKind == .function && X.env.kindOf x == some .local && px.line == pos.line && !(scope.names.any fun (n, k) => n == x && (k == .local || k == .cell))) := rfl
    rw [e]
    congr 1
    by_cases q1 : X.env.scope.names.lookup x = some .local
    · by_cases q3 : (px.line == pos.line) = true
      · cases q4 : (scope.names.any fun (n, k) => n == x && (k == .local || k == .cell)) with
        | true => simp
        | false => exact absurd ⟨q1, (by rw [O.sc]; cases q : C.sc.kind <;> rw [q] at hkk <;> first | rfl | (cases hkk; done)), q3, q4⟩ c1
      · have q3' : (px.line == pos.line) = false := by cases z : (px.line == pos.line) with | true => exact absurd z q3 | false => rfl
        rw [q3']; simp
    · have : (X.env.kindOf x == some .local) = false := by
        show (X.env.scope.names.lookup x == some .local) = false
        exact beq_eq_false_iff_ne.mpr q1
      rw [this]; simp
theorem asgL_of (O : CxOk X C cl W Γ) {i : Nat} {x : Str} {px spos : Pos} {v : Expr} {l : L} (hx : C.tgI i x = true) (hl : isLC v = true) (h : mtL C l v = true) (hs : C.su = false) (hkk : isFnK C.sc.kind = true) : PS X (.Assign [.Name x px] v spos) (tAsg (tL X cl C.io W Γ l) (gName i)) := by
  refine lcSw O hx hl (mtL_ok O _ _ h) (fun elt gs scope pos hv S _ => ?_) hs hkk
  subst hv
  cases l <;> try (exact absurd h (by unfold mtL; exact Bool.false_ne_true))
  · rename_i own it p a
    unfold mtL at h
    split at h <;> first | (exact absurd h Bool.false_ne_true) | skip
    rename_i he
    cases he
    simp only [Bool.and_eq_true] at h
    obtain ⟨⟨h1, h2⟩, h3⟩ := h
    obtain ⟨hs, hk, ok⟩ := lcB_of O h1 (mtI_ok O it _ _ h2)
    have z := ps_lc' (spos := spos) S ok (ie := a) (fun s H Ca k fp => mtE_ok (O.inBlk hs hk s H Ca k fp) a _ h3)
    rw [ownN_map] at z
    exact z
  · rename_i own it p c a
    unfold mtL at h
    split at h <;> first | (exact absurd h Bool.false_ne_true) | skip
    rename_i he
    cases he
    simp only [Bool.and_eq_true] at h
    obtain ⟨⟨⟨⟨h1, h2⟩, h3⟩, h4⟩, h5⟩ := h
    obtain ⟨hs, hk, ok⟩ := lcB_of O h1 (mtI_ok O it _ _ h2)
    have z := ps_lci' (spos := spos) S ok (ic := c) (ie := a) (fun s H Ca k fp => mtT_ok (O.inBlk hs hk s H Ca k fp) c _ h3 h4) (fun s H Ca k fp => mtE_ok (O.inBlk hs hk s H Ca k fp) a _ h5)
    rw [ownN_map] at z
    exact z
theorem asgN_of (O : CxOk X C cl W Γ) {i : Nat} {x : Str} {px spos : Pos} {v : Expr} {n : NM} (hx : C.tgI i x = true) (h : mtN C n v = true) (hs : C.su = false) (hkk : isFnK C.sc.kind = true) : PS X (.Assign [.Name x px] v spos) (tAsg (tN X cl C.io W Γ n) (gName i)) := by
  have hl : isLC v = true := by
    cases n
    unfold mtN at h
    dsimp only at h
    split at h <;> first | (exact absurd h Bool.false_ne_true) | rfl
  refine lcSw O hx hl (mtN_ok O _ _ h) (fun elt gs scope pos hv S _ => ?_) hs hkk
  subst hv
  cases n with
  | lc own it p l =>
    unfold mtN at h
    dsimp only at h
    split at h <;> first | (exact absurd h Bool.false_ne_true) | skip
    rename_i he
    cases he
    simp only [Bool.and_eq_true] at h
    obtain ⟨⟨h1, h2⟩, h3⟩ := h
    obtain ⟨hs, hk, ok⟩ := lcB_of O h1 (mtI_ok O it _ _ h2)
    have z := ps_lcN' (spos := spos) S ok (il := l) (fun s H Ca k fp => mtL_ok (O.inBlk hs hk s H Ca k fp) l _ h3)
    rw [ownN_map] at z
    exact z
mutual
theorem mtS_ok : ∀ (ir : S) (X : Cx) (C : Ctx) (cl : Cl) (W : WX) (Γ : Gam) (O : CxOk X C cl W Γ) (e : Stmt), mtS C ir e = true → PS X e (tS X cl C.io W Γ fu ir)
  | .pass, X, C, cl, W, Γ, O, e, h => by
    unfold mtS at h
    split at h <;> first | (exact absurd h Bool.false_ne_true) | skip
    exact snd_pass
  | .asg i ie, X, C, cl, W, Γ, O, e, h => by
    unfold mtS at h
    split at h <;> first | (exact absurd h Bool.false_ne_true) | skip
    simp only [Bool.and_eq_true, Bool.or_eq_true, Bool.not_eq_true'] at h
    obtain ⟨h1, h2⟩ := h
    obtain ⟨g1, g2, g3, g4⟩ := O.tgI h1
    rcases h2 with ⟨h2, h3⟩ | ⟨⟨hs, hkk⟩, h3⟩
    · exact asg_of g4 (ps_set (by rw [O.N]; exact O.nd) g1 g2 (mtE_ok O _ _ h3) (swaps_of h2) g3)
    · cases ie <;> try (exact absurd h3 (by unfold mtO; exact Bool.false_ne_true))
      rename_i l
      unfold mtO at h3
      rw [Bool.and_eq_true] at h3
      exact asg_of g4 (asg_ofL (asgL_of O h1 h3.1 h3.2 hs hkk))
  | .newL i l, X, C, cl, W, Γ, O, e, h => by
    unfold mtS at h
    split at h <;> first | (exact absurd h Bool.false_ne_true) | skip
    simp only [Bool.and_eq_true, Bool.or_eq_true, Bool.not_eq_true'] at h
    obtain ⟨h1, h2⟩ := h
    obtain ⟨g1, g2, g3, g4⟩ := O.tgI h1
    rcases h2 with ⟨h2, h3⟩ | ⟨⟨⟨hs, hkk⟩, h3⟩, h4⟩
    · exact newL_of g4 (ps_set (by rw [O.N]; exact O.nd) g1 g2 (mtL_ok O _ _ h3) (swaps_of h2) g3)
    · exact newL_of g4 (asgL_of O h1 h3 h4 hs hkk)
  | .newT i n, X, C, cl, W, Γ, O, e, h => by
    unfold mtS at h
    split at h <;> first | (exact absurd h Bool.false_ne_true) | skip
    simp only [Bool.and_eq_true, Bool.not_eq_true'] at h
    obtain ⟨⟨⟨hs, hkk⟩, h1⟩, h2⟩ := h
    exact newT_of (O.tgI h1).2.2.2 (asgN_of O h1 h2 hs hkk)
  | .setI i k ie, X, C, cl, W, Γ, O, e, h => by
    unfold mtS at h
    split at h <;> first | (exact absurd h Bool.false_ne_true) | skip
    simp only [Bool.and_eq_true] at h
    obtain ⟨⟨⟨⟨h1, h2⟩, h3⟩, h4⟩, h5⟩ := h
    obtain ⟨h6, h7, h8, h9⟩ := O.name h1
    exact snd_setI h6 h7 h8 h9 (swapsSole_of h2) h3 (mtE_ok O _ _ h5) (mtE_ok O _ _ h4)
  | .setP i k k2 ie, X, C, cl, W, Γ, O, e, h => by
    unfold mtS at h
    split at h <;> first | (exact absurd h Bool.false_ne_true) | skip
    simp only [Bool.and_eq_true] at h
    obtain ⟨⟨⟨⟨⟨⟨h1, h2⟩, h3⟩, h3'⟩, h4⟩, h4'⟩, h5⟩ := h
    obtain ⟨h6, h7, h8, h9⟩ := O.name h1
    exact snd_setP h6 h7 h8 h9 (plainIx_of h3) h3' (swapsSole_of h2) (mtE_ok O _ _ h5) (mtE_ok O _ _ h4) (mtE_ok O _ _ h4')
  | .setF i c f ie, X, C, cl, W, Γ, O, e, h => by
    unfold mtS at h
    split at h <;> first | (exact absurd h Bool.false_ne_true) | skip
    simp only [Bool.and_eq_true, decide_eq_true_eq] at h
    obtain ⟨⟨⟨⟨h1, h2⟩, h3⟩, h4⟩, h5⟩ := h
    subst h2
    obtain ⟨h6, h7, h8, h9⟩ := O.name h1
    exact snd_setF h6 h7 h8 h9 (O.hasFld h4) (swaps_of h3) (mtE_ok O _ _ h5)
  | .appP i k ie, X, C, cl, W, Γ, O, e, h => by
    unfold mtS at h
    split at h <;> first | (exact absurd h Bool.false_ne_true) | skip
    simp only [Bool.and_eq_true, decide_eq_true_eq] at h
    obtain ⟨⟨⟨⟨⟨⟨h1, h2⟩, h3⟩, h4⟩, h5⟩, h6⟩, h7⟩ := h
    subst h1
    obtain ⟨g6, g7, g8, g9⟩ := O.name h2
    exact snd_appP g6 g7 g8 g9 (plainIx_of h3) h4 h5 (by rw [star_cons h4]; rfl) (mtE_ok O _ _ h6) (mtE_ok O _ _ h7)
  | .augI _ _ _ _, X, C, cl, W, Γ, O, e, h => absurd h (by unfold mtS; exact Bool.false_ne_true)
  | .aug op i ie, X, C, cl, W, Γ, O, e, h => by
    unfold mtS at h
    split at h <;> first | (exact absurd h Bool.false_ne_true) | skip
    simp only [Bool.and_eq_true, decide_eq_true_eq] at h
    obtain ⟨⟨⟨h1, h2⟩, h3⟩, h4⟩ := h
    subst h1
    obtain ⟨g1, g2, g3, g4⟩ := O.tgI h2
    cases op <;> try (exact absurd h3 Bool.false_ne_true)
    · exact snd_aug (op := .add) (by rw [O.N]; exact O.nd) g1 g2 g3 g4 ip_add (fun i j d hd y hy => by cases j <;> cases hd <;> cases hy; exact ⟨_, rfl, rfl⟩) (mtE_ok O _ _ h4)
    · exact snd_aug (op := .sub) (by rw [O.N]; exact O.nd) g1 g2 g3 g4 ip_sub (fun i j d hd y hy => by cases j <;> cases hd <;> cases hy; exact ⟨_, rfl, rfl⟩) (mtE_ok O _ _ h4)
  | .exp ie, X, C, cl, W, Γ, O, e, h => by
    unfold mtS at h
    split at h <;> first | (exact absurd h Bool.false_ne_true) | skip
    rw [Bool.and_eq_true] at h
    exact snd_exp (swaps_of h.1) (mtE_ok O _ _ h.2)
  | .for p it b, X, C, cl, W, Γ, O, e, h => by
    unfold mtS at h
    split at h <;> first | (exact absurd h Bool.false_ne_true) | skip
    simp only [Bool.and_eq_true, Bool.not_eq_true'] at h
    obtain ⟨⟨⟨⟨hs, h1⟩, h2⟩, h3⟩, h4⟩ := h
    exact snd_for (O.pass hs) (O.calm hs) (by rw [O.N]; exact O.nd) (mtP_of O h2) (folded_of h1) (mtI_ok O _ _ _ h3) (mtB_ok b _ _ _ _ _ O _ h4)
  | .asgT is ie, X, C, cl, W, Γ, O, e, h => by
    unfold mtS at h
    split at h <;> first | (exact absurd h Bool.false_ne_true) | skip
    simp only [Bool.and_eq_true, decide_eq_true_eq, Bool.not_eq_true'] at h
    obtain ⟨⟨⟨⟨hs, h1⟩, h2⟩, h3⟩, h4⟩ := h
    exact snd_asgT (O.calm hs) (by rw [O.N]; exact O.nd) (tgts_of O h1) (swapsSole_of h2) (stores_of h3) (mtE_ok O _ _ h4)
  | .par i j a b, X, C, cl, W, Γ, O, e, h => by
    unfold mtS at h
    split at h <;> first | (exact absurd h Bool.false_ne_true) | skip
    simp only [Bool.and_eq_true, decide_eq_true_eq, Bool.not_eq_true'] at h
    obtain ⟨hs, ⟨⟨⟨⟨⟨⟨⟨⟨⟨⟨⟨⟨⟨⟨h1, h2⟩, h3⟩, h4⟩, h5⟩, h6⟩, h7⟩, h8⟩, h9⟩, h10⟩, h11⟩, h12⟩, h13⟩, h14⟩, h15⟩⟩ := h
    exact snd_par (O.calm hs) (by rw [O.N]; exact O.nd) (by rw [O.N]; exact h1) (by rw [O.N]; exact h2) h3 (by rw [O.sc]; exact of_decide_eq_true h5) (by rw [O.sc]; exact of_decide_eq_true h6) h7 h8 h9 h10
      (swapped_of O h5 h6 h4 h11 h9 h10 h12 h13) (mtE_ok O _ _ h14) (mtE_ok O _ _ h15)
  | .app i ie, X, C, cl, W, Γ, O, e, h => by
    unfold mtS at h
    split at h <;> first | (exact absurd h Bool.false_ne_true) | skip
    simp only [Bool.and_eq_true, decide_eq_true_eq, Bool.not_eq_true'] at h
    obtain ⟨⟨⟨⟨h1, h2⟩, h3⟩, h4⟩, h5⟩ := h
    subst h1
    obtain ⟨h6, h7, h8, h9⟩ := O.name h2
    exact snd_app h6 h7 h8 h9 h3 h4 (by rw [star_cons h3]; rfl) (mtE_ok O _ _ h5)
  | .rev i, X, C, cl, W, Γ, O, e, h => by
    unfold mtS at h
    split at h <;> first | (exact absurd h Bool.false_ne_true) | skip
    simp only [Bool.and_eq_true, decide_eq_true_eq, Bool.not_eq_true'] at h
    obtain ⟨⟨h1, h2⟩, h4⟩ := h
    subst h1
    obtain ⟨h6, h7, h8, h9⟩ := O.name h2
    exact snd_rev h6 h7 h8 h9 h4
  | .ite c a b, X, C, cl, W, Γ, O, e, h => by
    unfold mtS at h
    split at h <;> first | (exact absurd h Bool.false_ne_true) | skip
    simp only [Bool.and_eq_true, decide_eq_true_eq, Bool.not_eq_true'] at h
    obtain ⟨⟨⟨h1, h2⟩, h3⟩, h4⟩ := h
    exact snd_ite (mtT_ok O _ _ h1 h2) (mtB_ok a _ _ _ _ _ O _ h3) (mtB_ok b _ _ _ _ _ O _ h4)
  | .whl c b, X, C, cl, W, Γ, O, e, h => by
    unfold mtS at h
    split at h <;> first | (exact absurd h Bool.false_ne_true) | skip
    simp only [Bool.and_eq_true, decide_eq_true_eq, Bool.not_eq_true'] at h
    obtain ⟨⟨⟨hs, h1⟩, h2⟩, h3⟩ := h
    exact snd_whl (O.pass hs) (mtT_ok O _ _ h1 h2) (mtB_ok b _ _ _ _ _ O _ h3)
  | .whlL i b, X, C, cl, W, Γ, O, e, h => by
    unfold mtS at h
    split at h <;> first | (exact absurd h Bool.false_ne_true) | skip
    simp only [Bool.and_eq_true, Bool.not_eq_true'] at h
    obtain ⟨⟨hs, h1⟩, h2⟩ := h
    obtain ⟨h6, h7, h8, h9⟩ := O.name h1
    exact snd_whlL h6 h7 h8 h9 (O.pass hs) (mtB_ok b _ _ _ _ _ O _ h2)
  | .ret ie, X, C, cl, W, Γ, O, e, h => by
    unfold mtS at h
    split at h <;> first | (exact absurd h Bool.false_ne_true) | skip
    exact snd_ret (mtE_ok O _ _ h)
  | .retL i, X, C, cl, W, Γ, O, e, h => by
    unfold mtS at h
    split at h <;> first | (exact absurd h Bool.false_ne_true) | skip
    simp only [Bool.and_eq_true, decide_eq_true_eq, Bool.not_eq_true'] at h
    obtain ⟨h1, h2⟩ := h
    obtain ⟨h6, h7, h8, h9⟩ := O.name h1
    exact snd_retL h6 h7 h8 h9 h2
  | .brk, X, C, cl, W, Γ, O, e, h => by
    unfold mtS at h
    split at h <;> first | (exact absurd h Bool.false_ne_true) | skip
    exact snd_brk
  | .cnt, X, C, cl, W, Γ, O, e, h => by
    unfold mtS at h
    split at h <;> first | (exact absurd h Bool.false_ne_true) | skip
    exact snd_cnt
  | .nev, X, C, cl, W, Γ, O, e, h => snd_nev
  | .rse c f ie, X, C, cl, W, Γ, O, e, h => by
    unfold mtS at h
    split at h <;> first | (exact absurd h Bool.false_ne_true) | skip
    simp only [Bool.and_eq_true, Bool.not_eq_true'] at h
    obtain ⟨⟨⟨⟨⟨hs, h1⟩, h2⟩, h3⟩, h4⟩, h5⟩ := h
    cases q : C.cls[c]? with
    | none => rw [q] at h1; cases h1
    | some ci =>
      rw [q] at h1
      simp only [Bool.and_eq_true, decide_eq_true_eq] at h1
      obtain ⟨e1, e2⟩ := h1
      subst e1 e2
      obtain ⟨hm, I, hI, hf⟩ := O.cls.own c ci q
      obtain ⟨k, hr⟩ := O.room hs
      exact snd_rse (O.calm hs) O.tk hI hf hr (O.glob h2) hm h3 h4 (mtE_ok O _ _ h5)
  | .tryx m b hh, X, C, cl, W, Γ, O, e, h => by
    unfold mtS at h
    split at h <;> first | (exact absurd h Bool.false_ne_true) | skip
    simp only [Bool.and_eq_true, decide_eq_true_eq, Bool.not_eq_true'] at h
    obtain ⟨⟨⟨⟨⟨hs, hbk⟩, h0⟩, h1⟩, h2⟩, h3⟩ := h
    exact snd_try (O.sk hbk) (O.fr hbk) (by rw [O.N]; exact O.nd) O.tk (fun W' pn xe tk' ps' => mtB_ok b _ _ _ _ _ (O.tr h0 tk' ps') _ h2) (mtH_ok hh _ _ _ _ _ O _ hs h1 _ h3)
  | .hnd _ _ _ _, X, C, cl, W, Γ, O, e, h => absurd h (by unfold mtS; exact Bool.false_ne_true)
  | .nil, X, C, cl, W, Γ, O, e, h => absurd h (by unfold mtS; exact Bool.false_ne_true)
  | .seq _ _, X, C, cl, W, Γ, O, e, h => absurd h (by unfold mtS; exact Bool.false_ne_true)
theorem mtB_ok : ∀ (ir : S) (X : Cx) (C : Ctx) (cl : Cl) (W : WX) (Γ : Gam) (O : CxOk X C cl W Γ) (e : List Stmt), mtB C ir e = true → PSs X e (tS X cl C.io W Γ fu ir)
  | .nil, X, C, cl, W, Γ, O, e, h => by
    unfold mtB at h
    split at h <;> first | (exact absurd h Bool.false_ne_true) | skip
    exact snds_nil
  | .seq a b, X, C, cl, W, Γ, O, e, h => by
    unfold mtB at h
    split at h <;> first | (exact absurd h Bool.false_ne_true) | skip
    rw [Bool.and_eq_true] at h
    exact snds_seq (mtS_ok a _ _ _ _ _ O _ h.1) (mtB_ok b _ _ _ _ _ O _ h.2)
  | .pass, X, C, cl, W, Γ, O, e, h => absurd h (by unfold mtB; exact Bool.false_ne_true)
  | .asg _ _, X, C, cl, W, Γ, O, e, h => absurd h (by unfold mtB; exact Bool.false_ne_true)
  | .newL _ _, X, C, cl, W, Γ, O, e, h => absurd h (by unfold mtB; exact Bool.false_ne_true)
  | .asgT _ _, X, C, cl, W, Γ, O, e, h => absurd h (by unfold mtB; exact Bool.false_ne_true)
  | .par _ _ _ _, X, C, cl, W, Γ, O, e, h => absurd h (by unfold mtB; exact Bool.false_ne_true)
  | .app _ _, X, C, cl, W, Γ, O, e, h => absurd h (by unfold mtB; exact Bool.false_ne_true)
  | .rev _, X, C, cl, W, Γ, O, e, h => absurd h (by unfold mtB; exact Bool.false_ne_true)
  | .ite _ _ _, X, C, cl, W, Γ, O, e, h => absurd h (by unfold mtB; exact Bool.false_ne_true)
  | .for _ _ _, X, C, cl, W, Γ, O, e, h => absurd h (by unfold mtB; exact Bool.false_ne_true)
  | .newT _ _, X, C, cl, W, Γ, O, e, h => absurd h (by unfold mtB; exact Bool.false_ne_true)
  | .setI _ _ _, X, C, cl, W, Γ, O, e, h => absurd h (by unfold mtB; exact Bool.false_ne_true)
  | .augI _ _ _ _, X, C, cl, W, Γ, O, e, h => absurd h (by unfold mtB; exact Bool.false_ne_true)
  | .aug _ _ _, X, C, cl, W, Γ, O, e, h => absurd h (by unfold mtB; exact Bool.false_ne_true)
  | .appP _ _ _, X, C, cl, W, Γ, O, e, h => absurd h (by unfold mtB; exact Bool.false_ne_true)
  | .setP _ _ _ _, X, C, cl, W, Γ, O, e, h => absurd h (by unfold mtB; exact Bool.false_ne_true)
  | .setF _ _ _ _, X, C, cl, W, Γ, O, e, h => absurd h (by unfold mtB; exact Bool.false_ne_true)
  | .exp _, X, C, cl, W, Γ, O, e, h => absurd h (by unfold mtB; exact Bool.false_ne_true)
  | .whl _ _, X, C, cl, W, Γ, O, e, h => absurd h (by unfold mtB; exact Bool.false_ne_true)
  | .whlL _ _, X, C, cl, W, Γ, O, e, h => absurd h (by unfold mtB; exact Bool.false_ne_true)
  | .ret _, X, C, cl, W, Γ, O, e, h => absurd h (by unfold mtB; exact Bool.false_ne_true)
  | .retL _, X, C, cl, W, Γ, O, e, h => absurd h (by unfold mtB; exact Bool.false_ne_true)
  | .brk, X, C, cl, W, Γ, O, e, h => absurd h (by unfold mtB; exact Bool.false_ne_true)
  | .cnt, X, C, cl, W, Γ, O, e, h => absurd h (by unfold mtB; exact Bool.false_ne_true)
  | .nev, X, C, cl, W, Γ, O, e, h => absurd h (by unfold mtB; exact Bool.false_ne_true)
  | .rse _ _ _, X, C, cl, W, Γ, O, e, h => absurd h (by unfold mtB; exact Bool.false_ne_true)
  | .tryx _ _ _, X, C, cl, W, Γ, O, e, h => absurd h (by unfold mtB; exact Bool.false_ne_true)
  | .hnd _ _ _ _, X, C, cl, W, Γ, O, e, h => absurd h (by unfold mtB; exact Bool.false_ne_true)
theorem mtH_ok : ∀ (ir : S) (X : Cx) (C : Ctx) (cl : Cl) (W : WX) (Γ : Gam) (O : CxOk X C cl W Γ) (m : Nat) (hs : C.su = false) (hm : m ≤ C.cls.length) (e : List ExceptHandler), mtH C m ir e = true → HdOk X cl C.io Γ fu m ir e
  | .nil, X, C, cl, W, Γ, O, m, hs, hm, e, h => by
    unfold mtH at h
    split at h <;> first | (exact absurd h Bool.false_ne_true) | skip
    exact .nil
  | .hnd t o s r, X, C, cl, W, Γ, O, m, hs, hm, e, h => by
    unfold mtH at h
    split at h <;> first | (exact absurd h Bool.false_ne_true) | skip
    rename_i x p n st su q hds
    simp only [Bool.and_eq_true] at h
    obtain ⟨⟨⟨h1, h2⟩, h3⟩, h4⟩ := h
    obtain ⟨y, p', hy, nm, hok, tv, t1, t2⟩ := O.tgt h1
    cases hy
    cases o with
    | none =>
      cases n with
      | some _ => cases h4
      | none => exact .plain nm (fun k hk => (O.cls.hit k t (Nat.lt_of_lt_of_le hk hm) hok).1) (fun a oe pn => mtB_ok s _ _ _ _ _ (O.suite0 a oe pn) _ h2) (mtH_ok r _ _ _ _ _ O _ hs hm _ h3)
    | some i =>
      cases n with
      | none => cases h4
      | some z =>
        simp only [Bool.and_eq_true, decide_eq_true_eq] at h4
        obtain ⟨⟨g1, g2⟩, g3⟩ := h4
        refine .named nm (fun k hk => (O.cls.hit k t (Nat.lt_of_lt_of_le hk hm) hok).1) (by rw [O.N]; exact g1) ?_ g3 (fun a d k w oe pn hz hf hk => mtB_ok s _ _ _ _ _ (O.suite1 a d k w oe pn hz hf (Nat.lt_of_lt_of_le hk hm)) _ h2) (mtH_ok r _ _ _ _ _ O _ hs hm _ h3)
        show X.env.scope.names.lookup z = _
        rw [O.sc]
        exact of_decide_eq_true g2
  | .seq _ _, X, C, cl, W, Γ, O, m, hs, hm, e, h => absurd h (by unfold mtH; exact Bool.false_ne_true)
  | .pass, X, C, cl, W, Γ, O, m, hs, hm, e, h => absurd h (by unfold mtH; exact Bool.false_ne_true)
  | .asg _ _, X, C, cl, W, Γ, O, m, hs, hm, e, h => absurd h (by unfold mtH; exact Bool.false_ne_true)
  | .newL _ _, X, C, cl, W, Γ, O, m, hs, hm, e, h => absurd h (by unfold mtH; exact Bool.false_ne_true)
  | .asgT _ _, X, C, cl, W, Γ, O, m, hs, hm, e, h => absurd h (by unfold mtH; exact Bool.false_ne_true)
  | .par _ _ _ _, X, C, cl, W, Γ, O, m, hs, hm, e, h => absurd h (by unfold mtH; exact Bool.false_ne_true)
  | .app _ _, X, C, cl, W, Γ, O, m, hs, hm, e, h => absurd h (by unfold mtH; exact Bool.false_ne_true)
  | .rev _, X, C, cl, W, Γ, O, m, hs, hm, e, h => absurd h (by unfold mtH; exact Bool.false_ne_true)
  | .ite _ _ _, X, C, cl, W, Γ, O, m, hs, hm, e, h => absurd h (by unfold mtH; exact Bool.false_ne_true)
  | .for _ _ _, X, C, cl, W, Γ, O, m, hs, hm, e, h => absurd h (by unfold mtH; exact Bool.false_ne_true)
  | .newT _ _, X, C, cl, W, Γ, O, m, hs, hm, e, h => absurd h (by unfold mtH; exact Bool.false_ne_true)
  | .setI _ _ _, X, C, cl, W, Γ, O, m, hs, hm, e, h => absurd h (by unfold mtH; exact Bool.false_ne_true)
  | .augI _ _ _ _, X, C, cl, W, Γ, O, m, hs, hm, e, h => absurd h (by unfold mtH; exact Bool.false_ne_true)
  | .aug _ _ _, X, C, cl, W, Γ, O, m, hs, hm, e, h => absurd h (by unfold mtH; exact Bool.false_ne_true)
  | .appP _ _ _, X, C, cl, W, Γ, O, m, hs, hm, e, h => absurd h (by unfold mtH; exact Bool.false_ne_true)
  | .setP _ _ _ _, X, C, cl, W, Γ, O, m, hs, hm, e, h => absurd h (by unfold mtH; exact Bool.false_ne_true)
  | .setF _ _ _ _, X, C, cl, W, Γ, O, m, hs, hm, e, h => absurd h (by unfold mtH; exact Bool.false_ne_true)
  | .exp _, X, C, cl, W, Γ, O, m, hs, hm, e, h => absurd h (by unfold mtH; exact Bool.false_ne_true)
  | .whl _ _, X, C, cl, W, Γ, O, m, hs, hm, e, h => absurd h (by unfold mtH; exact Bool.false_ne_true)
  | .whlL _ _, X, C, cl, W, Γ, O, m, hs, hm, e, h => absurd h (by unfold mtH; exact Bool.false_ne_true)
  | .ret _, X, C, cl, W, Γ, O, m, hs, hm, e, h => absurd h (by unfold mtH; exact Bool.false_ne_true)
  | .retL _, X, C, cl, W, Γ, O, m, hs, hm, e, h => absurd h (by unfold mtH; exact Bool.false_ne_true)
  | .brk, X, C, cl, W, Γ, O, m, hs, hm, e, h => absurd h (by unfold mtH; exact Bool.false_ne_true)
  | .cnt, X, C, cl, W, Γ, O, m, hs, hm, e, h => absurd h (by unfold mtH; exact Bool.false_ne_true)
  | .nev, X, C, cl, W, Γ, O, m, hs, hm, e, h => absurd h (by unfold mtH; exact Bool.false_ne_true)
  | .rse _ _ _, X, C, cl, W, Γ, O, m, hs, hm, e, h => absurd h (by unfold mtH; exact Bool.false_ne_true)
  | .tryx _ _ _, X, C, cl, W, Γ, O, m, hs, hm, e, h => absurd h (by unfold mtH; exact Bool.false_ne_true)
end
end
end VI
set_option maxHeartbeats 2000000
/-! What a written part says of the exception classes, by a Bool. -/
namespace VX
open PySem L2 VI
def iniFd (fI : Addr) : FuncData → Option Ini
  | ⟨name, qual, ⟨[], [a1, a2], none, [], [], none, []⟩, .stmts [.Expr (.Call (.Attribute (.Call (.Name s1 p0) [] [] p1) s2 p2) [.Constant (.str m) jm p3] [] p4) p5, .Assign [.Attribute (.Name s3 p6) f p7] (.Name s4 p8) p9], scope, gl, [(s5, cc)], .none, kV, doc, pm, an, .ref cda, ct, bl⟩ =>
    if s1 = ("super" : Str) ∧ s2 = ("__init__" : Str) ∧ s3 = a1.arg ∧ s4 = a2.arg ∧ s5 = ("__class__" : Str) ∧ gl = mainGlobals ∧ bl = builtinsNs then
      some ⟨fI, cc, cda, name, qual, scope, a1, a2, f, m, jm, p0, p1, p2, p3, p4, p5, p6, p7, p8, p9, kV, doc, pm, an, ct⟩ else none
  | _ => none
theorem iniFd_ok {fI : Addr} {fd : FuncData} {I : Ini} (h : iniFd fI fd = some I) : fd = I.fd ∧ I.fI = fI := by
  unfold iniFd at h
  split at h
  · split at h
    · rename_i hc
      obtain ⟨rfl, rfl, rfl, rfl, rfl, rfl, rfl⟩ := hc
      cases h
      exact ⟨rfl, rfl⟩
    · cases h
  · cases h
def iniOf (K : PySem.W.Frag) (C : Addr) : Option Ini := match PySem.W.findIn K (.ref C) "__init__" with
  | some (some (.ref fI)) => (match K.lookup fI with
    | some ⟨_, _, .func fd, _⟩ => iniFd fI fd
    | _ => none)
  | _ => none
theorem iniOf_ok {K : PySem.W.Frag} {C : Addr} {I : Ini} (h : iniOf K C = some I) : PySem.W.findIn K (.ref C) "__init__" = some (some (.ref I.fI)) ∧ ∃ oc od osl, K.lookup I.fI = some ⟨oc, od, .func I.fd, osl⟩ := by
  unfold iniOf at h
  split at h
  · rename_i fI e1
    split at h
    · rename_i oc od fd osl e2
      obtain ⟨rfl, rfl⟩ := iniFd_ok h
      exact ⟨e1, oc, od, osl, e2⟩
    · cases h
  · cases h
def clsB (K : PySem.W.Frag) (C : Addr) : Bool := match K.lookup C with
  | some ⟨.type ty, _, .cls ⟨_, _, .ref C' :: bm, _, _, true, _, _, _, _, false⟩, ⟨[_, _, _, _, some (.builtin n), _]⟩⟩ => decide (ty = "type") && decide (C' = C) && decide (n = "ValueError.__new__") && PySem.HandSPX.refsVE bm
  | _ => false
theorem clsB_ok {K : PySem.W.Frag} {C : Addr} (h : clsB K C = true) : ∃ nm q N bs bm sn sub ab col dd k0 k1 k2 k3 k5, K.lookup C = some (excClassObj nm q C N bs bm true sn sub ab col dd k0 k1 k2 k3 k5 "ValueError.__new__") ∧ PySem.HandSPX.refsVE bm = true := by
  unfold clsB at h
  split at h
  · rename_i e
    simp only [Bool.and_eq_true, decide_eq_true_eq] at h
    obtain ⟨⟨⟨rfl, rfl⟩, rfl⟩, h2⟩ := h
    exact ⟨_, _, _, _, _, _, _, _, _, _, _, _, _, _, _, e, h2⟩
  · cases h
def oexB (K : PySem.W.Frag) (C : Addr) : Bool := clsB K C && decide (PySem.W.findIn K (.ref C) "__setattr__" = some (some (.builtin "object.__setattr__"))) && decide (PySem.W.subIn K (.ref C) (.type "BaseException") = some true) && decide (PySem.W.typeIn K (.ref C) = some (.type "type")) && PySem.W.keepIn K (.ref C)
theorem oexB_ok {K : PySem.W.Frag} {C : Addr} (h : oexB K C = true) : OexC K C := by
  unfold oexB at h
  simp only [Bool.and_eq_true, decide_eq_true_eq] at h
  obtain ⟨⟨⟨⟨h1, h2⟩, h3⟩, h4⟩, h5⟩ := h
  exact ⟨clsB_ok h1, h2, h3, h4, h5⟩
def codeB (K : PySem.W.Frag) (file : Str) (a : Addr) : Bool := match K.lookup a with
  | some ⟨_, _, .fields vs, _⟩ => (match (vs[2]? : Option Value) with
    | some (.str s _) => decide (s = file)
    | _ => false)
  | _ => false
theorem codeB_ok {K : PySem.W.Frag} {file : Str} {a : Addr} (h : codeB K file a = true) : ∃ c d vs sl tf, K.lookup a = some ⟨c, d, .fields vs, sl⟩ ∧ vs[2]? = some (.str file tf) := by
  unfold codeB at h
  split at h
  · rename_i c d vs sl e
    split at h
    · rename_i s tf e2
      have e3 : s = file := of_decide_eq_true h
      subst e3
      exact ⟨c, d, vs, sl, tf, e, e2⟩
    · cases h
  · cases h
def cellB (K : PySem.W.Frag) (C a : Addr) : Bool := match K.lookup a with
  | some ⟨_, _, .cell (some (.ref D)), _⟩ => decide (D = C)
  | _ => false
theorem cellB_ok {K : PySem.W.Frag} {C a : Addr} (h : cellB K C a = true) : ∃ c d sl, K.lookup a = some ⟨c, d, .cell (some (.ref C)), sl⟩ := by
  unfold cellB at h
  split at h
  · rename_i c d D sl e
    have e3 : D = C := of_decide_eq_true h
    subst e3
    exact ⟨c, d, sl, e⟩
  · cases h
def iniB (K : PySem.W.Frag) (file : Str) (C : Addr) (f : Str) : Bool := match iniOf K C with
  | some I => oexB K C && decide (PySem.W.typeIn K (.ref I.fI) = some (.type "function")) && PySem.W.codeIn K (.ref I.cda) I.qual && codeB K file I.cda && cellB K C I.cc && !(I.a1.arg == ("__debug__" : Str)) && !(I.a2.arg == ("__debug__" : Str)) && decide (I.a1.arg ≠ I.a2.arg) &&
    I.scope.names.all (fun x => decide (x.2 ≠ .cell)) && !I.scope.isCoroutine && !I.scope.isGenerator && decide (I.scope.kind = .function) && decide (I.scope.names.lookup ("super" : Str) = some .globalImplicit) && decide (I.scope.names.lookup ("__class__" : Str) = some .free) &&
    decide (I.scope.names.lookup I.a1.arg = some .local) && decide (I.scope.names.lookup I.a2.arg = some .local) && decide (PySem.W.mroIn K C (.ref C) = some true) && decide (PySem.W.ks_superIn K C C "__init__" = some (some (.builtin "ValueError.__init__"))) && decide (PySem.W.subIn K (.ref C) (.type "ValueError") = some true) &&
    decide (PySem.W.nsIn K cStatics "thirdparty.any" = some none) && (I.p2.endLine == I.p4.line) && decide (PySem.W.findIn K (.ref C) I.f = some none) && decide (I.f = f)
  | none => false
theorem iniB_ok {K : PySem.W.Frag} {prog : Program} {mg : Str → Option Value} {C : Addr} {f : Str} (top : (prog.main.scope.names.lookup ("super" : Str)).isSome = false) (noSup : mg "super" = none) (h : iniB K prog.main.file C f = true) : ∃ I, IniOk K prog mg C I ∧ I.f = f := by
  unfold iniB at h
  split at h
  · rename_i I e
    obtain ⟨i1, i2⟩ := iniOf_ok e
    simp only [Bool.and_eq_true, decide_eq_true_eq, Bool.not_eq_true'] at h
    obtain ⟨⟨⟨⟨⟨⟨⟨⟨⟨⟨⟨⟨⟨⟨⟨⟨⟨⟨⟨⟨⟨⟨h1, h2⟩, h3⟩, h4⟩, h5⟩, h6⟩, h7⟩, h8⟩, h9⟩, h10⟩, h11⟩, h12⟩, h13⟩, h14⟩, h15⟩, h16⟩, h17⟩, h18⟩, h19⟩, h20⟩, h21⟩, h22⟩, h23⟩ := h
    exact ⟨I, ⟨top, oexB_ok h1, i1, h2, i2, h3, codeB_ok h4, cellB_ok h5, h6, h7, h8, fun x hx => of_decide_eq_true (List.all_eq_true.mp h9 x hx), h10, h11, h12, h13, h14, h15, h16, h17, h18, h19, h20, noSup, h21, h22⟩, h23⟩
  · cases h
def exccB (K : PySem.W.Frag) (D : Addr) : Bool := decide (PySem.W.findIn K (.ref D) "__getattribute__" = some (some (.builtin "BaseException.__getattribute__"))) && decide (PySem.W.findIn K (.ref D) "__getattr__" = some none) && decide (PySem.W.subIn K (.ref D) (.type "BaseException") = some true) && PySem.W.hasDictIn K D &&
  decide (PySem.W.findIn K (.ref D) "__class__" = some (some (.builtin "object.__class__"))) && decide (PySem.W.specialIn K (.builtin "object.__class__") "__get__" = some (some (.builtin "getset_descriptor.__get__"))) && decide (PySem.W.takesIn K (.builtin "object.__class__") = some true) && decide (PySem.W.mroIn K D (.type "object") = some true)
theorem exccB_ok {K : PySem.W.Frag} {D : Addr} (h : exccB K D = true) : XfC K D ∧ ExcC K D := by
  unfold exccB at h
  simp only [Bool.and_eq_true, decide_eq_true_eq] at h
  obtain ⟨⟨⟨⟨⟨⟨⟨h1, h2⟩, h3⟩, h4⟩, h5⟩, h6⟩, h7⟩, h8⟩ := h
  exact ⟨⟨h1, h2, h3, h4⟩, ⟨h1, h2, h3, h4, h5, h6, h7, h8⟩⟩
/-! all of them -/
def adrOf (K : PySem.W.Frag) (x : Str) : Addr := match PySem.W.nsIn K mainGlobals x with
  | some (some (.ref a)) => a
  | _ => 0
def valOf (K : PySem.W.Frag) (x : Str) : Value := match PySem.W.nsIn K mainGlobals x with
  | some (some v) => v
  | _ => (bootBuiltins x).getD .none
def clOf (K : PySem.W.Frag) (cls : List CI) (kn : List Str) : Cl := ⟨fun n => adrOf K (((cls.map (·.name) ++ kn)[n]?).getD ("" : Str)), valOf K, none⟩
def supB (K : PySem.W.Frag) (x : Str) : Bool := match PySem.W.nsIn K mainGlobals x with
  | some (some (.ref _)) => true
  | some none => (match bootBuiltins x with
    | some (.type _) => decide (x ≠ "__name__")
    | _ => false)
  | _ => false
def tgB (K : PySem.W.Frag) (C : Addr) (v : Value) (b : Bool) : Bool := decide (PySem.W.exmOne K (.ref C) v = some b) && decide (PySem.W.kitOne K (.ref C) v = some b)
def allB (K : PySem.W.Frag) (file : Str) (cls : List CI) (kn sups flds : List Str) : Bool :=
  (cls.all fun c => decide (PySem.W.nsIn K mainGlobals c.name = some (some (.ref (adrOf K c.name)))) && iniB K file (adrOf K c.name) c.f && exccB K (adrOf K c.name) && (flds.all fun f => decide (PySem.W.findIn K (.ref (adrOf K c.name)) f = some none)) &&
    (sups.all fun x => tgB K (adrOf K c.name) (valOf K x) true)) && (sups.all (supB K)) &&
  ((List.range cls.length).all fun n => (List.range cls.length).all fun k => tgB K ((clOf K cls kn).fn n) (.ref ((clOf K cls kn).fn k)) (n == k))
theorem allB_ok {K : PySem.W.Frag} {prog : Program} {h : Heap} {mg : Str → Option Value} {cls : List CI} {kn sups flds : List Str} (X : K.In h) (G : h.Ns mainGlobals mg) (top : (prog.main.scope.names.lookup ("super" : Str)).isSome = false) (noSup : cls ≠ [] → mg "super" = none)
    (hb : allB K prog.main.file cls kn sups flds = true) : ClsOk K prog mg (clOf K cls kn) cls sups flds := by
  unfold allB at hb
  simp only [Bool.and_eq_true] at hb
  obtain ⟨⟨h1, h2⟩, h3⟩ := hb
  have fnAt : ∀ n c, cls[n]? = some c → (clOf K cls kn).fn n = adrOf K c.name := fun n c e => by
    show adrOf K (((cls.map (·.name) ++ kn)[n]?).getD ("" : Str)) = _
    rw [List.getElem?_append_left (by rw [List.length_map]; exact (List.getElem?_eq_some_iff.mp e).1), List.getElem?_map, e] <;> rfl
  have one : ∀ n c, cls[n]? = some c → _ := fun n c e => List.all_eq_true.mp h1 c (List.mem_of_getElem? e)
  simp only [Bool.and_eq_true, decide_eq_true_eq] at one
  have ats : ∀ n, n < cls.length → ∃ c, cls[n]? = some c := fun n hn => ⟨_, List.getElem?_eq_getElem hn⟩
  refine ⟨fun n c e => ?_, fun n hn => ?_, fun n hn f hf => ?_, fun x hx => ?_, fun n t hn ht => ?_⟩
  · obtain ⟨⟨⟨⟨a1, a2⟩, a3⟩, a4⟩, a5⟩ := one n c e
    rw [fnAt n c e]
    exact ⟨PySem.W.mg_of X G a1, iniB_ok top (noSup (fun z => by rw [z] at e; cases e)) a2⟩
  · obtain ⟨c, e⟩ := ats n hn
    obtain ⟨⟨⟨⟨a1, a2⟩, a3⟩, a4⟩, a5⟩ := one n c e
    rw [fnAt n c e]
    exact exccB_ok a3
  · obtain ⟨c, e⟩ := ats n hn
    obtain ⟨⟨⟨⟨a1, a2⟩, a3⟩, a4⟩, a5⟩ := one n c e
    rw [fnAt n c e]
    exact of_decide_eq_true (List.all_eq_true.mp a4 f hf)
  · have z := List.all_eq_true.mp h2 x hx
    show (mg x = some (valOf K x) ∨ (mg x = none ∧ bootBuiltins x = some (valOf K x) ∧ x ≠ "__name__")) ∧ ∃ tv : V, (∀ u, RelV tv u → u = valOf K x) ∧ RelV tv (valOf K x)
    unfold supB at z
    split at z
    · rename_i a e
      have ev : valOf K x = .ref a := by unfold valOf; rw [e]
      rw [ev]
      exact ⟨.inl (PySem.W.mg_of X G e), .ref a, fun u r => r, rfl⟩
    · rename_i e
      split at z
      · rename_i t e2
        have ev : valOf K x = .type t := by unfold valOf; rw [e, e2]; rfl
        rw [ev]
        exact ⟨.inr ⟨PySem.W.mg_none_of X G e, e2, of_decide_eq_true z⟩, .ty t, fun u r => r, rfl⟩
      · cases z
    · cases z
  · cases t with
    | own k =>
      have z := List.all_eq_true.mp (List.all_eq_true.mp h3 n (List.mem_range.mpr hn)) k (List.mem_range.mpr ht)
      unfold tgB at z
      simp only [Bool.and_eq_true, decide_eq_true_eq] at z
      exact z
    | sup x =>
      obtain ⟨c, e⟩ := ats n hn
      obtain ⟨⟨⟨⟨a1, a2⟩, a3⟩, a4⟩, a5⟩ := one n c e
      have z := List.all_eq_true.mp a5 x ht
      unfold tgB at z
      simp only [Bool.and_eq_true, decide_eq_true_eq] at z
      rw [fnAt n c e]
      exact z
end VX
set_option maxHeartbeats 2000000
/-! The soundness of defs, of the program, of a law; the head's facts. -/
namespace VI
open PySem L2 Evl VX
theorem outsOf_len (io : List Nat) (np : Nat) (ρ : Env) : (outsOf io np ρ).length = np := by
  unfold outsOf
  rw [List.length_map, List.length_range]
theorem outsOf_at {io : List Nat} {np k : Nat} {ρ : Env} (h : k < np) : Env.at (outsOf io np ρ) k = if k ∈ io then ρ.at k else .no := by
  unfold Env.at outsOf
  rw [List.getD_eq_getElem?_getD, List.getElem?_map, List.getElem?_range h]
  rfl
theorem avsOk_of {d : Def} {avs : List Slot} (h : avsOk d avs = true) : avs.length = d.np ∧ ∀ k, k < d.np → if k ∈ d.io then isOwn (Env.at avs k) = true else isVal (Env.at avs k) = true := by
  unfold avsOk at h
  rw [Bool.and_eq_true] at h
  refine ⟨of_decide_eq_true h.1, fun k hk => ?_⟩
  have h2 := List.all_eq_true.mp h.2 k (List.mem_range.mpr hk)
  by_cases q : k ∈ d.io
  · rw [if_pos q] at h2 ⊢; exact h2
  · rw [if_neg q] at h2 ⊢; exact h2
theorem callD_succ (defs : List Def) (fu n f : Nat) (avs : List Slot) : callD defs fu (n + 1) f avs = match defs[f]? with
    | some d => if avsOk d avs = true then finish d (evS (callD defs fu n) fu d.body (startD d avs)) else none
    | none => none := rfl
theorem callD_some {defs : List Def} {fu n f : Nat} {avs : List Slot} (h : callD defs fu n f avs ≠ none) : ∃ m d, n = m + 1 ∧ defs[f]? = some d ∧ avsOk d avs = true ∧ callD defs fu n f avs = finish d (evS (callD defs fu m) fu d.body (startD d avs)) := by
  cases n with
  | zero => exact absurd rfl h
  | succ m =>
    rw [callD_succ] at h ⊢
    cases q : defs[f]? with
    | none => rw [q] at h; exact absurd rfl h
    | some d =>
      rw [q] at h
      dsimp only at h ⊢
      by_cases hc : avsOk d avs = true
      · exact ⟨m, d, rfl, rfl, hc, by rw [if_pos hc]⟩
      · rw [if_neg hc] at h; exact absurd rfl h
theorem gam_ok {defs : List Def} {fu n f : Nat} {d : Def} (hd : defs[f]? = some d) : GamOk d.io d.np (callD defs fu n f) where
  len := fun avs h => by
    obtain ⟨m, d', rfl, h1, h2, h3⟩ := callD_some h
    rw [hd] at h1; cases h1
    exact (avsOk_of h2).1
  own := fun avs h k hk => by
    obtain ⟨m, d', rfl, h1, h2, h3⟩ := callD_some h
    rw [hd] at h1; cases h1
    obtain ⟨h4, h5⟩ := avsOk_of h2
    have hlt : k < d.np := by
      rw [← h4]
      refine at_lt (ρ := avs) fun z => ?_
      rw [z] at hk; cases hk
    have h6 := h5 k hlt
    by_cases q : k ∈ d.io
    · exact q
    · rw [if_neg q] at h6
      cases q2 : Env.at avs k with
      | no => rw [q2] at hk; cases hk
      | v _ => rw [q2] at hk; cases hk
      | _ => rw [q2] at h6; cases h6
  outs := fun avs r outs h => by
    obtain ⟨m, d', rfl, h1, h2, h3⟩ := callD_some (by rw [h]; exact fun z => nomatch z)
    rw [hd] at h1; cases h1
    rw [h3] at h
    cases q : evS (callD defs fu m) fu d.body (startD d avs) with
    | none => rw [q] at h; cases h
    | some o =>
      rw [q] at h
      cases o <;> cases h <;> exact outsOf_len _ _ _
  outsX := fun avs c w outs h => by
    obtain ⟨m, d', rfl, h1, h2, h3⟩ := callD_some (by rw [h]; exact fun z => nomatch z)
    rw [hd] at h1; cases h1
    rw [h3] at h
    cases q : evS (callD defs fu m) fu d.body (startD d avs) with
    | none => rw [q] at h; cases h
    | some o =>
      rw [q] at h
      cases o <;> cases h <;> exact outsOf_len _ _ _
section
variable {P : Par} {io : List Nat} {Hi H : Hp} {σ : L2.St} {ρ : Env} {A : Nat → List Addr}
/-- the frame's further names -/
theorem start_rel (R : RelA P io Hi H σ ρ A) (n : Nat) : RelA P io Hi H (σ ++ List.replicate n none) (ρ ++ List.replicate n .no) A where
  b := R.b
  i := R.i
  i0 := R.i0
  fr := R.fr
  len := by rw [List.length_append, List.length_append, List.length_replicate, List.length_replicate, R.len]
  sl := fun k => by
    by_cases hk : k < ρ.length
    · have h1 : sAt (σ ++ List.replicate n none) k = sAt σ k := by
        unfold sAt
        rw [List.getElem?_append_left (by rw [R.len]; exact hk)]
      rw [h1, at_app_lt hk]
      exact R.sl k
    · have h2 : Env.at (ρ ++ List.replicate n .no) k = .no := by
        unfold Env.at
        rw [List.getD_eq_getElem?_getD, List.getElem?_append_right (by omega), List.getElem?_replicate]
        split <;> rfl
      have h3 : ρ.at k = .no := by
        unfold Env.at
        rw [List.getD_eq_getElem?_getD, List.getElem?_eq_none_iff.mpr (by omega)]
        rfl
      have h4 := R.sl k
      rw [h3] at h4
      rw [h2]
      exact h4
  ow := R.ow
  nd := R.nd
  dj := R.dj
  pn := fun p hp => by
    obtain ⟨h1, h2⟩ := R.pn p hp
    refine ⟨?_, h2⟩
    have hk : p.1 < σ.length := by
      unfold sAt at h1
      cases q : σ[p.1]? with
      | none => rw [q] at h1; cases h1
      | some o => exact (List.getElem?_eq_some_iff.mp q).1
    unfold sAt at h1 ⊢
    rw [List.getElem?_append_left hk]
    exact h1
  xo := R.xo
/-- what a def hands back: its parameters' lists and its value -/
def Ao (A : Nat → List Addr) (io : List Nat) (np : Nat) (l : List Addr) : Nat → List Addr := fun k => if k < np then (if k ∈ io then A k else []) else if k = np then l else []
theorem end_rel {vs : List V} {v : V} {r : Slot} {l : List Addr} {np : Nat} (R : RelA P io Hi H σ ρ A) (hl : vs.length = np) (hpin : ∀ k, k < np → k ∈ io → sAt σ k = vs[k]?)
    (hr : SlotOk P Hi H (some v) r l) (hl1 : ∀ a ∈ l, Hi a = none ∧ P.B a = none) (hl2 : l.Nodup) (hl3 : ∀ a ∈ l, ∀ k ∈ io, a ∉ A k) (hpn : ∀ p ∈ P.pin, p.1 < np) :
    RelA P io Hi H (vs.map some ++ [some v]) (outsOf io np ρ ++ [r]) (Ao A io np l) where
  b := R.b
  i := R.i
  i0 := R.i0
  fr := R.fr
  len := by rw [List.length_append, List.length_append, List.length_map, outsOf_len, hl]; rfl
  sl := fun k => by
    unfold Ao
    by_cases hk : k < np
    · rw [if_pos hk, at_app_lt (by rw [outsOf_len]; exact hk), outsOf_at hk, sAt_app_lt (by rw [hl]; exact hk)]
      by_cases hio : k ∈ io
      · rw [if_pos hio, if_pos hio, ← hpin k hk hio]; exact R.sl k
      · rw [if_neg hio, if_neg hio]; exact rfl
    · rw [if_neg hk]
      by_cases he : k = np
      · have e1 : Env.at (outsOf io np ρ ++ [r]) k = r := by
          have := at_app_last (xs := outsOf io np ρ) (s := r)
          rw [outsOf_len] at this
          rw [he]; exact this
        have e2 : sAt (vs.map some ++ [some v]) k = some v := by
          have := sAt_app_last (xs := vs) (o := some v)
          rw [hl] at this
          rw [he]; exact this
        rw [if_pos he, e1, e2]
        exact hr
      · rw [if_neg he]
        have h2 : Env.at (outsOf io np ρ ++ [r]) k = .no := by
          unfold Env.at
          rw [List.getD_eq_getElem?_getD, List.getElem?_eq_none_iff.mpr (by rw [List.length_append, outsOf_len]; show np + 1 ≤ k; omega)]
          rfl
        rw [h2]
        exact rfl
  ow := fun k a ha => by
    unfold Ao at ha
    split at ha
    · split at ha
      · exact R.ow k a ha
      · cases ha
    · split at ha
      · exact hl1 a ha
      · cases ha
  nd := fun k => by
    unfold Ao
    split
    · split
      · exact R.nd k
      · exact List.nodup_nil
    · split
      · exact hl2
      · exact List.nodup_nil
  dj := fun i j hij a ha => by
    unfold Ao at ha ⊢
    split at ha
    · rename_i h1
      split at ha
      · rename_i h2
        split
        · split
          · exact R.dj i j hij a ha
          · exact List.not_mem_nil
        · split
          · exact fun h => hl3 a h i h2 ha
          · exact List.not_mem_nil
      · cases ha
    · split at ha
      · split
        · split
          · rename_i h3; exact hl3 a ha j h3
          · exact List.not_mem_nil
        · split
          · rename_i h1 h2 h3 h4; exact absurd (h2.trans h4.symm) hij
          · exact List.not_mem_nil
      · cases ha
  pn := fun p hp => by
    obtain ⟨h1, h2⟩ := R.pn p hp
    refine ⟨?_, h2⟩
    rw [sAt_app_lt (by rw [hl]; exact hpn p hp), ← hpin _ (hpn p hp) h2]
    exact h1
  xo := R.xo
theorem end_relX {vs : List V} {np : Nat} (R : RelA P io Hi H σ ρ A) (hl : vs.length = np) (hpin : ∀ k, k < np → k ∈ io → sAt σ k = vs[k]?) (hpn : ∀ p ∈ P.pin, p.1 < np) :
    RelA P io Hi H (vs.map some) (outsOf io np ρ) (Ao A io np []) where
  b := R.b
  i := R.i
  i0 := R.i0
  fr := R.fr
  len := by rw [List.length_map, outsOf_len, hl]
  sl := fun k => by
    unfold Ao
    by_cases hk : k < np
    · rw [if_pos hk, outsOf_at hk, sAt_map]
      by_cases hio : k ∈ io
      · rw [if_pos hio, if_pos hio, ← hpin k hk hio]; exact R.sl k
      · rw [if_neg hio, if_neg hio]; exact rfl
    · rw [if_neg hk]
      have h2 : Env.at (outsOf io np ρ) k = .no := by
        unfold Env.at
        rw [List.getD_eq_getElem?_getD, List.getElem?_eq_none_iff.mpr (by rw [outsOf_len]; omega)]
        rfl
      rw [h2]
      split <;> exact rfl
  ow := fun k a ha => by
    unfold Ao at ha
    split at ha
    · split at ha
      · exact R.ow k a ha
      · cases ha
    · split at ha <;> cases ha
  nd := fun k => by
    unfold Ao
    split
    · split
      · exact R.nd k
      · exact List.nodup_nil
    · split <;> exact List.nodup_nil
  dj := fun i j hij a ha => by
    unfold Ao at ha ⊢
    split at ha
    · split at ha
      · split
        · split
          · exact R.dj i j hij a ha
          · exact List.not_mem_nil
        · split <;> exact List.not_mem_nil
      · cases ha
    · split at ha <;> cases ha
  pn := fun p hp => by
    obtain ⟨h1, h2⟩ := R.pn p hp
    refine ⟨?_, h2⟩
    rw [sAt_map, ← hpin _ (hpn p hp) h2]
    exact h1
  xo := R.xo
end
/-! ### a def of the text -/
def Def.qual (d : Def) : Str := match d.cls with
  | none => d.name
  | some c => c ++ (Str.ofString ".") ++ d.name
def Def.pl (d : Def) : Str × Option Str := match d.cls with
  | none => (d.name, none)
  | some c => (c, some d.name)
def fnsOf (defs : List Def) : List Fn := defs.map fun d => ⟨d.name, d.io, d.np, d.cls.isNone && d.kw.isEmpty⟩
/-- what the text's head says -/
structure Inf where
  free : List Str
  gcds : List Str
  cls : List CI
  kn : List Str
  sups : List Str
  flds : List Str
  glos : List (Str × D)
  ks : List KI
structure DefOk (defs : List Def) (I : Inf) (d : Def) (st : Stmt) : Prop where
  sc : FnScope d.N (d.N.take d.np) (defScope st)
  np : (d.N.take d.np).length = d.np
  mt : mtB ⟨d.N, defScope st, d.io, fnsOf defs, I.free, I.gcds, I.cls, I.sups, I.flds, I.glos, I.ks, false, false, none⟩ d.body (defBody st) = true
  bd : ∀ (kV doc pm : Value) (an : Option Addr) (cdv ct : Value) (us ws : List Value), us.length + d.kw.length = d.np → ws.length = d.kw.length → bindArgs (PySem.W.fnOf d.name d.qual (defArgs st) (defBody st) (defScope st) .none kV doc pm an cdv ct) ⟨us, d.kw.zip ws⟩ = pure ((d.N.take d.np).zip (us ++ ws))
/-- the tables of the ordinary classes fit the defs -/
def ksB (defs : List Def) (cls : List CI) (kn : List Str) (ks : List KI) : Bool := ks.all fun k => decide ((cls.map (·.name) ++ kn)[k.cn]? = some k.name) &&
  (k.meths.all fun q => match defs[q.2]? with | some d => decide (d.cls = some k.name) && decide (d.name = q.1) && decide (d.kw = []) | none => false) && k.props.isEmpty &&
  (k.mks.all fun q => match defs[q.1]? with | some d => decide (d.cls = some k.name) && decide (d.name = ("__init__" : Str)) && decide (d.kw = q.2) && decide (q.2.length + 1 ≤ d.np) | none => false)
structure KFacts (K : PySem.W.Frag) (mg : Str → Option Value) (k : KI) : Prop where
  gl : mg k.name = some (.ref (He.ga K k.name))
  cls : Cls K (He.ga K k.name)
  flds : ∀ f ∈ k.flds, NoAttr K (He.ga K k.name) f
  meths : ∀ q ∈ k.meths, Meth K (He.ga K k.name) q.1 (He.ma K (He.ga K k.name) q.1)
  mks : k.mks ≠ [] → Mk K (He.ga K k.name) (He.ma K (He.ga K k.name) "__init__")
structure ProgOk (K : PySem.W.Frag) (prog : Program) (mg : Str → Option Value) (cl : Cl) (defs : List Def) (I : Inf) : Prop where
  hfree : ∀ x ∈ I.free, mg x = none
  hgcd : ∀ x ∈ I.gcds, mg x = some (.builtin "math.gcd")
  hcls : ClsOk K prog mg cl I.cls I.sups I.flds
  hglo : ∀ p ∈ I.glos, ∃ v u, mg p.1 = some u ∧ RelV v u ∧ ∀ K (cf : Nat → Addr) Hi, Rep K cf Hi v p.2
  hfn : ∀ n x, (I.cls.map (·.name) ++ I.kn)[n]? = some x → cl.fn n = He.ga K x
  hks : ∀ k ∈ I.ks, KFacts K mg k
  hkd : ksB defs I.cls I.kn I.ks = true
  fns : ∀ (f : Nat) (d : Def), defs[f]? = some d → ∃ st fa fd, DefOk defs I d st ∧ FunD K d.name d.qual (defArgs st) (defBody st) (defScope st) [] [] fa fd ∧ fa = He.fAd K d.pl ∧ (d.cls = none → mg d.name = some (.ref fa))
theorem FnOk.up {P : Program} {w : World} {K : PySem.W.Frag} {mg : Str → Option Value} {base : Heap} {CX : CXT} {k k' : Nat} {fa : Addr} {fd : FuncData} {ps : List Str} {sp : Sp} (F : FnOk P w K mg base CX k fa fd ps sp) (h : k ≤ k') : FnOk P w K mg base CX k' fa fd ps sp :=
  ⟨F.len, fun A outer s H args binds vs Q E hr h0 hb hv hs => F.run A outer s H args binds vs Q E (hr.mono h) h0 hb hv hs⟩
theorem bd_pos {defs : List Def} {I : Inf} {d : Def} {st : Stmt} (D : DefOk defs I d st) (hk : d.kw = []) (kV doc pm : Value) (an : Option Addr) (cdv ct : Value) (us : List Value) (hl : us.length = (d.N.take d.np).length) :
    bindArgs (PySem.W.fnOf d.name d.qual (defArgs st) (defBody st) (defScope st) .none kV doc pm an cdv ct) ⟨us, []⟩ = pure ((d.N.take d.np).zip us) := by
  have z := D.bd kV doc pm an cdv ct us [] (by rw [hk, hl, D.np]; rfl) (by rw [hk]; rfl)
  rw [hk, List.append_nil] at z
  exact z
theorem bd_kw {K : PySem.W.Frag} {fa : Addr} {fd : FuncData} {defs : List Def} {I : Inf} {d : Def} {st : Stmt} (D : DefOk defs I d st) (F : FunD K d.name d.qual (defArgs st) (defBody st) (defScope st) [] [] fa fd) (n : Nat) (hn : n + d.kw.length = d.np) :
    KBn K fd (d.N.take d.np) n d.kw (· ++ ·) (· ++ ·) := by
  obtain ⟨oc, od, dV, kV, doc, pm, an, cdv, ct, osl, rfl, lk, hcd, hD, hK⟩ := F.ex
  refine ⟨fun s us ws X hu hw => ?_, fun h1 h2 => h1.append h2⟩
  rcases hD with ⟨_, rfl⟩ | ⟨e, _⟩
  · exact .of_eq (D.bd kV doc pm an cdv ct us ws (by rw [hu]; exact hn) hw)
  · exact absurd rfl e
section
variable {P : Program} {w : World} {K : PySem.W.Frag} {mg : Str → Option Value} {base : Heap} {cl : Cl} {defs : List Def} {I : Inf} {fu : Nat}
theorem prog_ok (G : ProgOk K P mg cl defs I) : ∀ (n f : Nat) (d : Def) (st : Stmt) (fa : Addr) (fd : FuncData), defs[f]? = some d → DefOk defs I d st → FunD K d.name d.qual (defArgs st) (defBody st) (defScope st) [] [] fa fd →
    FnOk P w K mg base (L2.CX P w) (2 * n + 2) fa fd (d.N.take d.np) (spF K cl.fn cl.sp d.io d.np (callD defs fu n f)) := by
  intro n
  induction n with
  | zero =>
    intro f d st fa fd hd Dk F
    have no : ∀ vs H Q E, spF K cl.fn cl.sp d.io d.np (callD defs fu 0 f) vs H Q E → False := by
      rintro vs H Q E ⟨B, Hi, pin, avs, A, _, _, _, h⟩
      exact h
    have len : ∀ vs H Q E, spF K cl.fn cl.sp d.io d.np (callD defs fu 0 f) vs H Q E → vs.length = (d.N.take d.np).length := fun vs H Q E h => (no vs H Q E h).elim
    exact (F.ok (CX := L2.CX P w) (k := 0) (sp := fun vs H Q E => False) Dk.sc (fun _ _ _ _ h => h.elim) (fun _ _ _ _ _ _ _ _ _ h => h.elim) : FnOk P w K mg base (L2.CX P w) 1 fa fd (d.N.take d.np) _) |> fun z => ⟨len, fun A outer s H args binds vs Q E hr h0 hb hv h => (no vs H Q E h).elim⟩
  | succ n ih =>
    intro f d st fa fd hd Dk F
    have F1 := F
    refine FnOk.up (k := 2 * n + 3 + 1) (F.ok Dk.sc (fun vs H Q E h => ?_) fun cdv A outer s H vs Q E hr h => ?_) (by omega)
    · obtain ⟨B, Hi, pin, avs, A, _, hl, _⟩ := h
      rw [hl, Dk.np]
    · obtain ⟨B, Hi, pin, avs, Aa, R, hl, hpin, h⟩ := h
      have hne : callD defs fu (n + 1) f avs ≠ none := fun z => by rw [z] at h; exact h
      obtain ⟨m, d', hm, hd', hok, hcall⟩ := callD_some hne
      rw [hd] at hd'; cases hd'
      have hm' : n = m := by omega
      subst hm'
      rw [hcall] at h
      obtain ⟨hal, hav⟩ := avsOk_of hok
      let W : WX := fun cls d _ H => E cls d H
      have O : CxOk (cxOf (L2.CX P w) P w K mg base d.N d.qual (defScope st) fa cdv A outer s H E) ⟨d.N, defScope st, d.io, fnsOf defs, I.free, I.gcds, I.cls, I.sups, I.flds, I.glos, I.ks, false, false, none⟩ ⟨cl.fn, cl.sp, none⟩ W (callD defs fu n) := {
        N := rfl
        sc := rfl
        kind := by
          show (if (defScope st).kind.isAnnotationScope then ScopeKind.function else (defScope st).kind) = .function
          rw [Dk.sc.kind]; rfl
        nd := Dk.sc.nd
        calm := fun _ => rfl
        pass := fun _ => passes_of rfl
        sk := fun _ => rfl
        fr := fun _ => rfl
        room := fun _ => ⟨2 * n + 1, hr⟩
        cls := G.hcls.at none
        cur := fun _ h => nomatch h
        tk := takes_of rfl rfl rfl rfl
        fn := fun _ _ => rfl
        units := Nat.lt_of_le_of_lt (Nat.add_le_add_left (show 65 ≤ 16 * (2 * n + 3) + 200 by omega) _) (by have z := hr.un; rw [Nat.add_assoc] at z; exact z)
        glo := G.hglo
        free := G.hfree
        gcd := G.hgcd
        fns := fun f' g' hg hgl => by
          have hg' : (fnsOf defs)[f']? = some g' := hg
          unfold fnsOf at hg'
          rw [List.getElem?_map] at hg'
          cases q : defs[f']? with
          | none => rw [q] at hg'; cases hg'
          | some d2 =>
            rw [q] at hg'
            cases hg'
            have hgl : (d2.cls.isNone && d2.kw.isEmpty) = true := hgl
            rw [Bool.and_eq_true] at hgl
            have k1 : d2.cls = none := Option.isNone_iff_eq_none.mp hgl.1
            have k2 : d2.kw = [] := List.isEmpty_iff.mp hgl.2
            obtain ⟨st2, fa2, fd2, D2, F2, _, hm2⟩ := G.fns f' d2 q
            exact ⟨⟨2 * n + 2, fa2, fd2, _, ih f' d2 st2 fa2 fd2 q D2 F2, hr.mono (by omega), hm2 k1, F2.kp, F2.bindsN (bd_pos D2 k2)⟩, gam_ok q⟩
        ks := fun k hk => by
          have kf := G.hks k hk
          have kd := List.all_eq_true.mp G.hkd k hk
          simp only [Bool.and_eq_true, decide_eq_true_eq, List.all_eq_true] at kd
          obtain ⟨⟨⟨kd1, kd2⟩, kd3⟩, kd4⟩ := kd
          have ecl := G.hfn _ _ kd1
          have at_ : ∀ (f' : Nat) (d2 : Def), defs[f']? = some d2 → d2.cls = some k.name → FnAt (cxOf (L2.CX P w) P w K mg base d.N d.qual (defScope st) fa cdv A outer s H E) ⟨cl.fn, cl.sp, none⟩ (He.ma K (He.ga K k.name) d2.name) d2.kw d2.io d2.np (callD defs fu n f') := fun f' d2 q hc => by
            obtain ⟨st2, fa2, fd2, D2, F2, hfa, _⟩ := G.fns f' d2 q
            have e1 : fa2 = He.ma K (He.ga K k.name) d2.name := by rw [hfa]; unfold Def.pl; rw [hc]; rfl
            subst e1
            exact ⟨⟨2 * n + 2, fd2, _, ih f' d2 st2 _ fd2 q D2 F2, hr, fun m hm => bd_kw D2 F2 m hm, fun hkw => F2.bindsN (bd_pos D2 hkw)⟩, gam_ok q⟩
          refine { cls := ?_, flds := ?_, meths := fun q hq => ?_, props := fun q hq => ?_, mks := fun q hq => ?_ }
          · show Cls K (cl.fn k.cn)
            rw [ecl]; exact kf.cls
          · show ∀ f ∈ k.flds, NoAttr K (cl.fn k.cn) f
            rw [ecl]; exact kf.flds
          · have z := kd2 q hq
            cases e : defs[q.2]? with
            | none => rw [e] at z; cases z
            | some d2 =>
              rw [e] at z
              simp only [Bool.and_eq_true, decide_eq_true_eq] at z
              obtain ⟨⟨z1, z2⟩, z3⟩ := z
              have f2 := at_ _ d2 e z1
              rw [z2, z3] at f2
              have m2 := kf.meths q hq
              rw [← ecl] at m2
              rw [← ecl] at f2
              exact ⟨_, _, _, m2, f2⟩
          · rw [List.isEmpty_iff.mp kd3] at hq
            cases hq
          · have z := kd4 q hq
            cases e : defs[q.1]? with
            | none => rw [e] at z; cases z
            | some d2 =>
              rw [e] at z
              simp only [Bool.and_eq_true, decide_eq_true_eq] at z
              obtain ⟨⟨⟨z1, z2⟩, z3⟩, z4⟩ := z
              have f2 := at_ _ d2 e z1
              rw [z2, z3] at f2
              have m2 := kf.mks (fun w => by rw [w] at hq; cases hq)
              have g2 := kf.gl
              rw [← ecl] at m2 f2 g2
              exact ⟨g2, _, _, _, m2, f2, z4⟩ }
      refine ⟨_, mtB_ok (fu := fu) d.body _ _ _ _ _ O (defBody st) Dk.mt, ?_⟩
      have e1 : start d.N vs = vs.map some ++ List.replicate (d.N.length - vs.length) none := rfl
      have e2 : startD d avs = avs ++ List.replicate (d.N.length - vs.length) .no := by
        unfold startD
        rw [hal, hl]
      rw [e1]
      refine ⟨B, Hi, pin, Hi, startD d avs, Aa, by rw [e2]; exact start_rel R _, ?_⟩
      -- what the end asks
      have pinned : ∀ {σ' : L2.St} {Hi' H' : Hp} {ρ' : Env} {A' : Nat → List Addr}, RelA ⟨K, ⟨cl.fn, cl.sp, none⟩, B, Hi, pin⟩ d.io Hi' H' σ' ρ' A' → ∀ k, k < d.np → k ∈ d.io → sAt σ' k = vs[k]? := fun {σ' Hi' H' ρ' A'} R' k hk hio => by
        have h1 := hav k hk
        rw [if_pos hio] at h1
        obtain ⟨a, as, h2, h3⟩ := (R.sl k).root h1
        have h4 : (k, a) ∈ pin := hpin k a as h2
        rw [(R'.pn _ h4).1, ← sAt_map, h3]
      have hpn : ∀ p ∈ pin, p.1 < d.np := fun p hp => by
        have h1 := (R.pn p hp).1
        rw [sAt_map] at h1
        rw [← hl]
        exact (List.getElem?_eq_some_iff.mp h1).1
      cases q : evS (callD defs fu n) fu d.body (startD d avs) with
      | none => rw [q] at h; exact h
      | some o =>
        rw [q] at h
        cases o with
        | nx ρ' =>
          intro σ' Hi' H' A' e R'
          exact h .non Hi' H' _ e (end_rel (l := []) R' hl (pinned R') ⟨rfl, _, rfl, .non⟩ (fun _ z => (nomatch z)) List.nodup_nil (fun _ z => (nomatch z)) hpn)
        | bk ρ' => exact h.elim
        | ct ρ' => exact h.elim
        | ret r ρ' =>
          intro v σ' Hi' H' A' e R' hr'
          cases r with
          | no => exact hr'.elim
          | v dd => exact h v Hi' H' _ e (end_rel (l := []) R' hl (pinned R') ⟨rfl, v, rfl, hr'⟩ (fun _ z => (nomatch z)) List.nodup_nil (fun _ z => (nomatch z)) hpn)
          | _ =>
            obtain ⟨i, hi, hat, hs⟩ := hr'
            have t1 := R'.sl i
            rw [hat, hs] at t1
            refine h v Hi' H' _ e (end_rel (l := A' i) R' hl (pinned R') t1 (R'.ow i) (R'.nd i) (fun b hb k hk => ?_) hpn)
            exact R'.dj i k (fun z => hi (by rw [z]; exact hk)) b hb
        | ex c w' ρ' =>
          intro dx fs σ' Hi' H' A' e R' hdx hfs
          exact h dx fs Hi' H' _ e (end_relX R' hl (pinned R') hpn) hdx hfs
/-- THE LAW: what the evaluator says of it is so -/
theorem law_sp {f : Nat} {d : Def} {k : Nat} {H : Hp} {a : Addr} {ns : List Int} (hnp : d.np = 1) (hS : SqL K H a (ns.map V.int))
    (hcall : callD defs fu k f [.v (.scr (ns.map D.int))] = some (.ret (.v (.bl true)) [.no])) : spF K cl.fn cl.sp d.io d.np (callD defs fu k f) [.ref a] H (fun v _ => v = .bl true) fun _ _ _ => False := by
  have reps : ∀ ns : List Int, Reps K cl H (ns.map V.int) (ns.map D.int) := by
    intro ns
    induction ns with
    | nil => exact .nil
    | cons n r ih => exact .cons (.int n) ih
  refine ⟨H, H, [], [.v (.scr (ns.map D.int))], fun _ => [], ⟨Ex.refl _, Ex.refl _, Ex.refl _, fun _ _ h => h, rfl, fun i => ?_, fun _ _ z => (nomatch z), fun _ => List.nodup_nil, fun _ _ _ _ z => (nomatch z), fun _ z => (nomatch z), fun _ z => (nomatch z)⟩, by rw [hnp]; rfl, fun _ _ _ z => (nomatch z), ?_⟩
  · cases i with
    | zero => exact ⟨rfl, .ref a, rfl, .scr hS (reps ns)⟩
    | succ i =>
      have : Env.at [Slot.v (.scr (ns.map D.int))] (i + 1) = .no := by rw [at_succ, at_nil]
      rw [this]
      exact rfl
  · rw [hcall]
    intro v Hi' H' A' e R'
    have h1 := R'.sl 1
    obtain ⟨_, v', h2, h3⟩ := h1
    cases h2
    cases h3
    rfl
end
/-! ### the head: facts by names, one more Bool -/
section
open He
def obsX (fa : List Fa) (fn : List DefD) (ex : PySem.W.Frag → Bool) (K : PySem.W.Frag) : AlD := ((fa.all fun f => f.ok K) && (fn.all fun d => d.ok K) && ex K, fn.map fun d => fnW K d.at_)
def SaysX (fa : List Fa) (fn : List DefD) (ex : PySem.W.Frag → Bool) (K : PySem.W.Frag) : Prop := obsX fa fn ex K = valD fn
def obsXG (n : Nat) (fa : List Fa) (fn : List DefD) (ex : PySem.W.Frag → Bool) (g : Addr → Option Obj) : AlD := obsX fa fn ex (frG g (asD g n ++ [cStatics]))
def hookX (n : Nat) (fa : List Fa) (fn : List DefD) (ex : PySem.W.Frag → Bool) : PySem.W.Hook where
  α := AlD
  obs := fun s => obsXG n fa fn ex s.heap.get?
  val := fun _ => valD fn
  says := fun _ h => ∃ K : PySem.W.Frag, K.In h ∧ SaysX fa fn ex K
  of := fun _ _ e => ⟨_, frG_in, e⟩
  keeps := fun _ _ _ ⟨K, hK, c⟩ k => ⟨K, PySem.W.Frag.In.keeps hK k, c⟩
theorem obsXG_eq {n : Nat} {fa : List Fa} {fn : List DefD} {ex : PySem.W.Frag → Bool} {g : Addr → Option Obj} {s : Shared} (h : ∀ a, g a = s.heap.get? a) : obsXG n fa fn ex g = (hookX n fa fn ex).obs s := by
  have e : g = s.heap.get? := funext h
  rw [e] <;> rfl
variable {fa : List Fa} {fn : List DefD} {ex : PySem.W.Frag → Bool} {K : PySem.W.Frag}
theorem SaysX.parts (c : SaysX fa fn ex K) : SaysD fa fn K ∧ ex K = true := by
  have c1 : ((fa.all fun f => f.ok K) && (fn.all fun d => d.ok K) && ex K) = true := congrArg (fun z : AlD => z.1) c
  have c2 : fn.map (fun d => fnW K d.at_) = fn.map DefD.val := congrArg (fun z : AlD => z.2) c
  rw [Bool.and_eq_true] at c1
  exact ⟨by unfold SaysD obsD valD; rw [c1.1, c2], c1.2⟩
end
/-! ### from the head's facts to the law -/
section
open He
variable {defs : List Def} {I : Inf} {tx : Nat → Stmt}
def AllOk (defs : List Def) (I : Inf) (tx : Nat → Stmt) : List (Def × Nat) → Prop
  | [] => True
  | p :: r => DefOk defs I p.1 (tx p.2) ∧ AllOk defs I tx r
theorem AllOk.at : ∀ {l : List (Def × Nat)} {f : Nat} {p : Def × Nat}, AllOk defs I tx l → l[f]? = some p → DefOk defs I p.1 (tx p.2)
  | [], _, _, _, h => by simp at h
  | _ :: _, 0, _, a, h => by simp at h; subst h; exact a.1
  | _ :: r, f + 1, _, a, h => AllOk.at (l := r) (f := f) a.2 (by simpa using h)
def ddOf (tx : Nat → Stmt) (p : Def × Nat) : DefD := ⟨p.1.pl, p.1.name, p.1.qual, defArgs (tx p.2), defBody (tx p.2), defScope (tx p.2), [], []⟩
def fnOf (tx : Nat → Stmt) (l : List (Def × Nat)) : List DefD := l.map (ddOf tx)
def faOf (l : List (Def × Nat)) (free : List Str) : List Fa := (l.filter fun p => p.1.cls.isNone).map (fun p => .glo p.1.name) ++ free.map .free
/-- a constant of the text's head -/
def gloB (K : PySem.W.Frag) (p : Str × D) : Bool := match PySem.W.nsIn K mainGlobals p.1, p.2 with
  | some (some (.int i _)), .int j => decide (i = j)
  | some (some (.str a _)), .str b => decide (a = b)
  | some (some (.bool a)), .bl b => decide (a = b)
  | _, _ => false
theorem gloB_ok {K : PySem.W.Frag} {h : Heap} {mg : Str → Option Value} {p : Str × D} (X : K.In h) (G : h.Ns mainGlobals mg) (hb : gloB K p = true) : ∃ v u, mg p.1 = some u ∧ RelV v u ∧ ∀ K (cf : Nat → Addr) Hi, Rep K cf Hi v p.2 := by
  obtain ⟨x, d⟩ := p
  unfold gloB at hb
  dsimp only at hb
  split at hb
  · rename_i i t j e
    have e2 := of_decide_eq_true hb
    subst e2
    exact ⟨.int i, _, PySem.W.mg_of X G e, ⟨t, rfl⟩, fun _ _ _ => .int _⟩
  · rename_i a t b e
    have e2 := of_decide_eq_true hb
    subst e2
    exact ⟨.str a, _, PySem.W.mg_of X G e, ⟨t, rfl⟩, fun _ _ _ => .str _⟩
  · rename_i a b e
    have e2 := of_decide_eq_true hb
    subst e2
    exact ⟨.bl a, _, PySem.W.mg_of X G e, rfl, fun _ _ _ => .bl _⟩
  · cases hb
/-- what the written part says of an ordinary class -/
def kB (K : PySem.W.Frag) (k : KI) : Bool := (Fa.glo k.name).ok K && (Fa.cls k.name).ok K && (k.flds.all fun f => (Fa.noat k.name f).ok K) && (k.meths.all fun q => (Fa.meth k.name q.1).ok K) && (k.mks.isEmpty || (Fa.mkr k.name).ok K)
theorem kB_ok {K : PySem.W.Frag} {h : Heap} {mg : Str → Option Value} {k : KI} (X : K.In h) (G : h.Ns mainGlobals mg) (hb : kB K k = true) : KFacts K mg k := by
  unfold kB at hb
  simp only [Bool.and_eq_true, Bool.or_eq_true, List.all_eq_true] at hb
  obtain ⟨⟨⟨⟨h1, h2⟩, h3⟩, h4⟩, h5⟩ := hb
  refine ⟨glo_ok X G h1, cls_ok h2, fun f hf => noat_ok (h3 f hf), fun q hq => meth_ok (h4 q hq), fun hm => ?_⟩
  rcases h5 with h5 | h5
  · exact absurd (List.isEmpty_iff.mp h5) hm
  · exact mkr_ok h5
def exOf (file : Str) (I : Inf) (K : PySem.W.Frag) : Bool := (I.gcds.all fun x => eqO (PySem.W.nsIn K mainGlobals x) (some (some (.builtin "math.gcd")))) && (allB K file I.cls I.kn I.sups I.flds && (I.glos.all (gloB K) && I.ks.all (kB K)))
theorem prog_of {l : List (Def × Nat)} {K : PySem.W.Frag} {prog : Program} {h : Heap} {mg : Str → Option Value} (X : K.In h) (G : h.Ns mainGlobals mg) (c : SaysX (faOf l I.free) (fnOf tx l) (exOf prog.main.file I) K) (hl : l.map (·.1) = defs) (hok : AllOk defs I tx l)
    (top : (prog.main.scope.names.lookup ("super" : Str)).isSome = false) (hsup : I.cls ≠ [] → ("super" : Str) ∈ I.free) (hkd : ksB defs I.cls I.kn I.ks = true) : ProgOk K prog mg (clOf K I.cls I.kn) defs I := by
  obtain ⟨c1, c2⟩ := c.parts
  rw [exOf, Bool.and_eq_true, Bool.and_eq_true, Bool.and_eq_true] at c2
  have fact : ∀ f ∈ faOf l I.free, f.ok K = true := fun f hf => by
    obtain ⟨i, hi⟩ := List.getElem?_of_mem hf
    exact c1.fact i hi
  have hfr : ∀ x ∈ I.free, mg x = none := fun x hx => free_ok X G (fact _ (List.mem_append_right _ (List.mem_map.mpr ⟨x, hx, rfl⟩)))
  refine ⟨hfr, fun x hx => PySem.W.mg_of X G (eqO_ok (List.all_eq_true.mp c2.1 x hx)), allB_ok X G top (fun z => hfr _ (hsup z)) c2.2.1, fun p hp => gloB_ok X G (List.all_eq_true.mp c2.2.2.1 p hp), fun n x e => ?_, fun k hk => kB_ok X G (List.all_eq_true.mp c2.2.2.2 k hk), hkd, fun f d hd => ?_⟩
  · show adrOf K (((I.cls.map (·.name) ++ I.kn)[n]?).getD ("" : Str)) = _
    rw [e]
    rfl
  rw [← hl, List.getElem?_map] at hd
  cases q : l[f]? with
  | none => rw [q] at hd; cases hd
  | some p =>
    rw [q] at hd
    cases hd
    obtain ⟨fd, F⟩ := c1.def_ f (d := ddOf tx p) (by unfold fnOf; rw [List.getElem?_map, q]; rfl)
    refine ⟨tx p.2, _, fd, hok.at q, F, rfl, fun hc => ?_⟩
    have e2 : He.fAd K (ddOf tx p).at_ = He.ga K p.1.name := by
      show He.fAd K p.1.pl = _
      unfold Def.pl
      rw [hc]
      rfl
    rw [e2]
    exact glo_ok X G (fact _ (List.mem_append_left _ (List.mem_map.mpr ⟨p, List.mem_filter.mpr ⟨List.mem_of_getElem? q, by rw [hc]; rfl⟩, rfl⟩)))
/-- the law's walk: what the evaluator says is so -/
theorem walk_law {l : PySem.W.OpenLaw} {k f fu : Nat} {d : Def} {ps : List (Def × Nat)} {q : Program} {loose : List Str} {XP : (Str → Option Value) → Heap → Prop} {dr : DefRec}
    (hn : l.most = some 63) (hdf : dr.params.defaults = []) (hname : dr.name = d.name) (hcn : d.cls = none) (hkw : d.kw = []) (hkd : ksB defs I.cls I.kn I.ks = true) (hr : Room (2 * k + 2) callerA) (htop : (l.prog.main.scope.names.lookup ("super" : Str)).isSome = false) (hsup : I.cls ≠ [] → ("super" : Str) ∈ I.free) (hl : ps.map (·.1) = defs) (hok : AllOk defs I tx ps) (hd : defs[f]? = some d) (hps : d.N.take d.np = ([Str.ofString "script"] : List Str)) (hnp : d.np = 1)
    (law : ∀ ns : List Int, ns.length ≤ 63 → callD defs fu k f [.v (.scr (ns.map D.int))] = some (.ret (.v (.bl true)) [.no])) :
    PySem.W.WalkO q loose XP (fun _ h => ∃ K : PySem.W.Frag, K.In h ∧ SaysX (faOf ps I.free) (fnOf tx ps) (exOf l.prog.main.file I) K) l.row.toRowW dr [] (fun f vs => PySem.call f vs) := by
  refine Att.attach_call hn hdf fun w s₀ s₁ mg mb fa o pm cd doc a vs ns G Y ho hd' hcd hmg hobj hints hlen hg => ?_
  obtain ⟨K, KX, c⟩ := Y
  have P := prog_of (prog := l.prog) KX G.T.g c hl hok htop hsup hkd
  obtain ⟨st, fa2, fd, D2, F2, _, hm2⟩ := P.fns f d hd
  have hm2 := hm2 hcn
  rw [hname] at hmg
  have e : fa2 = fa := by rw [hm2] at hmg; injection hmg with z; injection z
  subst e
  have bind : ∀ (s : Shared) (u : Value), BindsTo s fd ⟨[u], []⟩ [("script", u)] := fun s u => by
    have z := F2.bindsA (ps := d.N.take d.np) (bd_pos D2 hkw) s [u] (by rw [hps]; rfl)
    rw [hps] at z
    exact z
  refine law_call KX G.T.g G.T.b G.T.builtins G.T.nolimit hg hobj hints (Nat.le_trans hlen (by decide)) hr (sp := spF K (clOf K I.cls I.kn).fn (clOf K I.cls I.kn).sp d.io d.np (callD defs fu k f)) (CX := L2.CX l.prog w) (fun base kb gb => ?_) bind (fun H hO hS => law_sp hnp hS (law ns hlen)) fun H e s' hx => ?_
  · have P2 : ProgOk K l.prog mg (clOf K I.cls I.kn) defs I := P
    have z := prog_ok (P := l.prog) (w := w) (base := base) (cl := clOf K I.cls I.kn) (fu := fu) P2 k f d st fa2 fd hd D2 F2
    rw [hps] at z
    exact z
  · obtain ⟨_, _, _, _, _, _, _, _, _, _, _, _, z⟩ := hx
    exact z.elim
end
end VI
set_option maxHeartbeats 2000000
/-! Reckoning with the evaluator: rules for simp. -/
namespace VI
theorem nrf {α : Sort _} (a : α) : a = a := rfl
open PySem L2
section
variable {α β : Type}
@[simp] theorem bnd_ok (d : α) (ρ : Env) (f : α → Env → Option (Out β)) : bnd (some (.ok d ρ)) f = f d ρ := nrf _
@[simp] theorem bnd_no (f : α → Env → Option (Out β)) : bnd none f = none := nrf _
@[simp] theorem bnd_ex (c : Nat) (w : List (Str × D)) (ρ : Env) (f : α → Env → Option (Out β)) : bnd (some (.ex c w ρ)) f = some (.ex c w ρ) := nrf _
@[simp] theorem sbnd_ok (d : α) (ρ : Env) (f : α → Env → Option SOut) : sbnd (some (.ok d ρ)) f = f d ρ := nrf _
@[simp] theorem sbnd_no (f : α → Env → Option SOut) : sbnd none f = none := nrf _
@[simp] theorem sbnd_ex (c : Nat) (w : List (Str × D)) (ρ : Env) (f : α → Env → Option SOut) : sbnd (some (.ex c w ρ)) f = some (.ex c w ρ) := nrf _
@[simp] theorem thenS_nx (ρ : Env) (f : Env → Option SOut) : thenS (some (.nx ρ)) f = f ρ := nrf _
@[simp] theorem thenS_ret (r : Slot) (ρ : Env) (f : Env → Option SOut) : thenS (some (.ret r ρ)) f = some (.ret r ρ) := nrf _
@[simp] theorem thenS_bk (ρ : Env) (f : Env → Option SOut) : thenS (some (.bk ρ)) f = some (.bk ρ) := nrf _
@[simp] theorem thenS_ct (ρ : Env) (f : Env → Option SOut) : thenS (some (.ct ρ)) f = some (.ct ρ) := nrf _
@[simp] theorem thenS_ex (c : Nat) (w : List (Str × D)) (ρ : Env) (f : Env → Option SOut) : thenS (some (.ex c w ρ)) f = some (.ex c w ρ) := nrf _
@[simp] theorem thenS_no (f : Env → Option SOut) : thenS none f = none := nrf _
@[simp] theorem ok1_s (d : α) (ρ : Env) : ok1 (some d) ρ = some (.ok d ρ) := nrf _
@[simp] theorem ok1_n (ρ : Env) : ok1 (none : Option α) ρ = none := nrf _
@[simp] theorem thenS_ite {c : Prop} [Decidable c] (a b : Option SOut) (f : Env → Option SOut) : thenS (if c then a else b) f = if c then thenS a f else thenS b f := by split <;> rfl
@[simp] theorem sbnd_ite {c : Prop} [Decidable c] (a b : Option (Out α)) (f : α → Env → Option SOut) : sbnd (if c then a else b) f = if c then sbnd a f else sbnd b f := by split <;> rfl
@[simp] theorem bnd_ite {c : Prop} [Decidable c] (a b : Option (Out α)) (f : α → Env → Option (Out β)) : bnd (if c then a else b) f = if c then bnd a f else bnd b f := by split <;> rfl
end
@[simp] theorem finish_nx (d : Def) (ρ : Env) : VI.finish d (some (.nx ρ)) = some (.ret (.v .non) (outsOf d.io d.np ρ)) := nrf _
@[simp] theorem finish_ret (d : Def) (r : Slot) (ρ : Env) : VI.finish d (some (.ret r ρ)) = some (.ret r (outsOf d.io d.np ρ)) := nrf _
@[simp] theorem finish_ite {c : Prop} [Decidable c] (d : Def) (a b : Option SOut) : VI.finish d (if c then a else b) = if c then VI.finish d a else VI.finish d b := by split <;> rfl
@[simp] theorem isTDD_int (ts : List Ty) (i : Int) : isTDD ts (.int i) = some (.bl (ts.any fun t => isTy (.int i) t)) := nrf _
@[simp] theorem isTDD_bl (ts : List Ty) (i : Bool) : isTDD ts (.bl i) = some (.bl (ts.any fun t => isTy (.bl i) t)) := nrf _
@[simp] theorem isTDD_tup (ts : List Ty) (i : List D) : isTDD ts (.tup i) = some (.bl (ts.any fun t => isTy (.tup i) t)) := nrf _
@[simp] theorem isTDD_lst (ts : List Ty) (i : List D) : isTDD ts (.lst i) = some (.bl (ts.any fun t => isTy (.lst i) t)) := nrf _
@[simp] theorem lenD_tup (l : List D) : lenD (.tup l) = some (.int l.length) := nrf _
@[simp] theorem lenD_lst (l : List D) : lenD (.lst l) = some (.int l.length) := nrf _
@[simp] theorem items_tup (l : List D) : items (.tup l) = some l := nrf _
@[simp] theorem items_lst (l : List D) : items (.lst l) = some l := nrf _
@[simp] theorem cmpDD_int (op : Cm) (i j : Int) : cmpDD op (.int i) (.int j) = some (.bl (cmpD op i j)) := nrf _
@[simp] theorem cmpD_lt (i j : Int) : cmpD .lt i j = decide (i < j) := nrf _
@[simp] theorem cmpD_le (i j : Int) : cmpD .le i j = decide (i ≤ j) := nrf _
@[simp] theorem cmpD_gt (i j : Int) : cmpD .gt i j = decide (j < i) := nrf _
@[simp] theorem cmpD_ge (i j : Int) : cmpD .ge i j = decide (j ≤ i) := nrf _
@[simp] theorem negD_int (i : Int) : negD (.int i) = some (.int (-i)) := nrf _
@[simp] theorem absD_int (i : Int) : absD (.int i) = some (.int (if i < 0 then -i else i)) := nrf _
@[simp] theorem int1D_int (i : Int) : int1D (.int i) = some (.int i) := nrf _
@[simp] theorem bitsD_int (i : Int) : bitsD (.int i) = some (.int (Builtin.Int.intBits i : Nat)) := nrf _
@[simp] theorem min2D_int (i j : Int) : min2D (.int i) (.int j) = some (.int (if j < i then j else i)) := nrf _
@[simp] theorem max2D_int (i j : Int) : max2D (.int i) (.int j) = some (.int (if j > i then j else i)) := nrf _
@[simp] theorem gcdD_int (i j : Int) : gcdD (.int i) (.int j) = some (.int ((Nat.gcd i.natAbs j.natAbs : Nat) : Int)) := nrf _
@[simp] theorem tupD_lst (l : List D) : tupD (.lst l) = some (.tup l) := nrf _
@[simp] theorem tupD_tup (l : List D) : tupD (.tup l) = some (.tup l) := nrf _
@[simp] theorem bin_add (i j : Int) : binD .add (.int i) (.int j) = some (.int (i + j)) := nrf _
@[simp] theorem bin_sub (i j : Int) : binD .sub (.int i) (.int j) = some (.int (i - j)) := nrf _
theorem bin_mul {i j : Int} (h : okMul i j = true) : binD .mul (.int i) (.int j) = some (.int (i * j)) := if_pos h
theorem bin_fdiv {i j : Int} (h : okDiv j = true) : binD .fdiv (.int i) (.int j) = some (.int (i / j)) := if_pos h
theorem bin_mod {i j : Int} (h : 0 < j) : binD .mod (.int i) (.int j) = some (.int (i % j)) := if_pos h
@[simp] theorem eqqD_int (ne : Bool) (i j : Int) : eqqD ne (.int i) (.int j) = some (.bl (if ne then !decide (i = j) else decide (i = j))) := nrf _
@[simp] theorem ixD_tup (l : List D) (i : Int) : ixD (.tup l) (.int i) = atI l i := nrf _
@[simp] theorem ixD_lst (l : List D) (i : Int) : ixD (.lst l) (.int i) = atI l i := nrf _
theorem ixD_str {z : Str} {i : Int} {c : Nat} (h : 0 ≤ i ∧ i < 2 ^ 63 ∧ i < z.length) (hc : z.cps[i.toNat]? = some c) : ixD (.str z) (.int i) = some (.str ⟨#[c]⟩) := by
  show (if 0 ≤ i ∧ i < 2 ^ 63 ∧ i < z.length then (z.cps[i.toNat]?).map fun c => D.str ⟨#[c]⟩ else none) = _
  rw [if_pos h, hc]
  rfl
theorem lenD_str {z : Str} (h : z.length ≤ sizeLine) : lenD (.str z) = some (.int z.length) := if_pos h
theorem bin_cat {a b : Str} (h : a.length + b.length ≤ sizeLine) : binD .add (.str a) (.str b) = some (.str (a ++ b)) := if_pos h
theorem strD_int {i : Int} (h : i.natAbs.log2 < 1920) : strD (.int i) = some (.str (toString i)) := if_pos h
@[simp] theorem atI_0 {α : Type} (a : α) (l : List α) : atI (a :: l) 0 = some a := atI_nat (j := 0) rfl
@[simp] theorem atI_1 {α : Type} (a b : α) (l : List α) : atI (a :: b :: l) 1 = some b := atI_nat (j := 1) rfl
@[simp] theorem atI_2 {α : Type} (a b c : α) (l : List α) : atI (a :: b :: c :: l) 2 = some c := atI_nat (j := 2) rfl
@[simp] theorem atI_3 {α : Type} (a b c d : α) (l : List α) : atI (a :: b :: c :: d :: l) 3 = some d := atI_nat (j := 3) rfl
theorem okMul_of {i j : Int} {a b : Nat} (ha : i.natAbs < 2 ^ a) (hb : j.natAbs < 2 ^ b) (h : a + b ≤ 900000) : okMul i j = true := by
  have h1 : CMulW i j := wide_mul (a := a + 1) (b := b + 1) (Nat.lt_of_lt_of_le ha (Nat.pow_le_pow_right (by decide) (by omega))) (Nat.lt_of_lt_of_le hb (Nat.pow_le_pow_right (by decide) (by omega))) (by omega) (by omega) (by omega)
  unfold okMul
  rw [show decide (i.natAbs.log2 + j.natAbs.log2 < 1000000) = true from decide_eq_true h1]
  rfl
theorem okMul_l {i j : Int} (h : -(2 ^ 64) < i ∧ i < 2 ^ 64) : okMul i j = true := by
  unfold okMul
  rw [Bool.or_eq_true]
  exact .inr (decide_eq_true (.inl h))
theorem okMul_r {i j : Int} (h : -(2 ^ 64) < j ∧ j < 2 ^ 64) : okMul i j = true := by
  unfold okMul
  rw [Bool.or_eq_true]
  exact .inr (decide_eq_true (.inr h))
theorem okDiv_of {j : Int} {b : Nat} (h : 0 < j) (hb : j.natAbs < 2 ^ b) (h9 : b ≤ 8999) : okDiv j = true := by
  have h1 : CDivW 0 j := wide_div (b := b + 1) h (Nat.lt_of_lt_of_le hb (Nat.pow_le_pow_right (by decide) (by omega))) (by omega) (by omega)
  exact decide_eq_true h1
theorem le_line {n : Nat} (h : n ≤ 100000) : n ≤ sizeLine := Nat.le_trans h (by decide)
theorem lt_line {n : Nat} (h : n < 100000) : n < sizeLine := Nat.lt_of_lt_of_le h (by decide)
@[simp] theorem le_line1 : (1 ≤ sizeLine) = True := eq_true (by decide)
@[simp] theorem le_line2 : (2 ≤ sizeLine) = True := eq_true (by decide)
@[simp] theorem le_line3 : (3 ≤ sizeLine) = True := eq_true (by decide)
@[simp] theorem le_line4 : (4 ≤ sizeLine) = True := eq_true (by decide)
@[simp] theorem le_line0 : (0 ≤ sizeLine) = True := eq_true (by decide)
@[simp] theorem lt_line0 : (0 < sizeLine) = True := eq_true (by decide)
@[simp] theorem lt_line1 : (1 < sizeLine) = True := eq_true (by decide)
@[simp] theorem lt_line2 : (2 < sizeLine) = True := eq_true (by decide)
@[simp] theorem lt_line3 : (3 < sizeLine) = True := eq_true (by decide)
@[simp] theorem lt_line4 : (4 < sizeLine) = True := eq_true (by decide)
@[simp] theorem lt_line5 : (5 < sizeLine) = True := eq_true (by decide)
@[simp] theorem lt_line6 : (6 < sizeLine) = True := eq_true (by decide)
@[simp] theorem lt_line7 : (7 < sizeLine) = True := eq_true (by decide)
@[simp] theorem le_line5 : (5 ≤ sizeLine) = True := eq_true (by decide)
@[simp] theorem le_line6 : (6 ≤ sizeLine) = True := eq_true (by decide)
@[simp] theorem le_line7 : (7 ≤ sizeLine) = True := eq_true (by decide)
/-! continuations, by name -/
def u1 {α β : Type} (F : α → Option β) (x : α) (ρ : Env) : Option (Out β) := ok1 (F x) ρ
@[simp] theorem u1_def {α β : Type} (F : α → Option β) (x : α) (ρ : Env) : u1 F x ρ = ok1 (F x) ρ := nrf _
def b1 {β : Type} (Γ : Gam) (b : E) (F : D → D → Option β) (x : D) (ρ : Env) : Option (Out β) := bnd (evE Γ b ρ) (u1 (F x))
@[simp] theorem b1_def {β : Type} (Γ : Gam) (b : E) (F : D → D → Option β) (x : D) (ρ : Env) : b1 Γ b F x ρ = bnd (evE Γ b ρ) (u1 (F x)) := nrf _
def tupV (avs : List AV) : Option D := (vals avs).bind fun ds => if ds.length ≤ sizeLine then some (.tup ds) else none
@[simp] theorem tupV_def (avs : List AV) : tupV avs = (vals avs).bind fun ds => if ds.length ≤ sizeLine then some (.tup ds) else none := nrf _
def dispV (avs : List AV) : Option (List D) := (vals avs).bind fun ds => if ds.length ≤ sizeLine then some ds else none
@[simp] theorem dispV_def (avs : List AV) : dispV avs = (vals avs).bind fun ds => if ds.length ≤ sizeLine then some ds else none := nrf _
def isND (ne : Bool) (x : D) : Option D := some (.bl (if ne then !isNon x else isNon x))
@[simp] theorem isND_def (ne : Bool) (x : D) : isND ne x = some (.bl (if ne then !isNon x else isNon x)) := nrf _
def notD (x : D) : Option D := (truthy x).map fun k => .bl (!k)
@[simp] theorem notD_def (x : D) : notD x = (truthy x).map fun k => .bl (!k) := nrf _
def lstO (ds : List D) : Option D := some (.lst ds)
@[simp] theorem lstO_def (ds : List D) : lstO ds = some (.lst ds) := nrf _
def kAnd (Γ : Gam) (b : E) (x : D) (ρ : Env) : Option (Out D) := match truthy x with
  | some true => evE Γ b ρ
  | some false => some (.ok x ρ)
  | none => none
theorem kAnd_t {Γ : Gam} {b : E} {x : D} {ρ : Env} (h : truthy x = some true) : kAnd Γ b x ρ = evE Γ b ρ := by rw [kAnd, h]
theorem kAnd_f {Γ : Gam} {b : E} {x : D} {ρ : Env} (h : truthy x = some false) : kAnd Γ b x ρ = some (.ok x ρ) := by rw [kAnd, h]
@[simp] theorem kAnd_def (Γ : Gam) (b : E) (x : D) (ρ : Env) : kAnd Γ b x ρ = match truthy x with
  | some true => evE Γ b ρ
  | some false => some (.ok x ρ)
  | none => none := nrf _
def kOr (Γ : Gam) (b : E) (x : D) (ρ : Env) : Option (Out D) := match truthy x with
  | some false => evE Γ b ρ
  | some true => some (.ok x ρ)
  | none => none
@[simp] theorem kOr_def (Γ : Gam) (b : E) (x : D) (ρ : Env) : kOr Γ b x ρ = match truthy x with
  | some false => evE Γ b ρ
  | some true => some (.ok x ρ)
  | none => none := nrf _
def kIf (Γ : Gam) (a b : E) (k : Bool) (ρ : Env) : Option (Out D) := match k with
  | true => evE Γ a ρ
  | false => evE Γ b ρ
@[simp] theorem kIf_t (Γ : Gam) (a b : E) (ρ : Env) : kIf Γ a b true ρ = evE Γ a ρ := nrf _
@[simp] theorem kIf_f (Γ : Gam) (a b : E) (ρ : Env) : kIf Γ a b false ρ = evE Γ b ρ := nrf _
@[simp] theorem kIf_d (Γ : Gam) (a b : E) (c : Prop) [Decidable c] (ρ : Env) : kIf Γ a b (decide c) ρ = if c then evE Γ a ρ else evE Γ b ρ := by by_cases h : c <;> simp [h]
def kIte (Γ : Gam) (fu : Nat) (a b : S) (k : Bool) (ρ : Env) : Option SOut := match k with
  | true => evS Γ fu a ρ
  | false => evS Γ fu b ρ
@[simp] theorem kIte_t (Γ : Gam) (fu : Nat) (a b : S) (ρ : Env) : kIte Γ fu a b true ρ = evS Γ fu a ρ := nrf _
@[simp] theorem kIte_f (Γ : Gam) (fu : Nat) (a b : S) (ρ : Env) : kIte Γ fu a b false ρ = evS Γ fu b ρ := nrf _
@[simp] theorem kIte_d (Γ : Gam) (fu : Nat) (a b : S) (c : Prop) [Decidable c] (ρ : Env) : kIte Γ fu a b (decide c) ρ = if c then evS Γ fu a ρ else evS Γ fu b ρ := by by_cases h : c <;> simp [h]
def kIo (i : Nat) (ds : List AV) (ρ : Env) : Option (Out (List AV)) := some (.ok (.io i :: ds) ρ)
@[simp] theorem kIo_def (i : Nat) (ds : List AV) (ρ : Env) : kIo i ds ρ = some (.ok (.io i :: ds) ρ) := nrf _
def kC2 (d : D) (ds : List AV) (ρ : Env) : Option (Out (List AV)) := some (.ok (.v d :: ds) ρ)
@[simp] theorem kC2_def (d : D) (ds : List AV) (ρ : Env) : kC2 d ds ρ = some (.ok (.v d :: ds) ρ) := nrf _
def kCons (Γ : Gam) (r : A) (d : D) (ρ : Env) : Option (Out (List AV)) := bnd (evA Γ r ρ) (kC2 d)
@[simp] theorem kCons_def (Γ : Gam) (r : A) (d : D) (ρ : Env) : kCons Γ r d ρ = bnd (evA Γ r ρ) (kC2 d) := nrf _
def kAsg (i : Nat) (d : D) (ρ : Env) : Option SOut := setS ρ i (.v d)
@[simp] theorem kAsg_def (i : Nat) (d : D) (ρ : Env) : kAsg i d ρ = setS ρ i (.v d) := nrf _
def kNewL (i : Nat) (ds : List D) (ρ : Env) : Option SOut := setS ρ i (.l ds)
@[simp] theorem kNewL_def (i : Nat) (ds : List D) (ρ : Env) : kNewL i ds ρ = setS ρ i (.l ds) := nrf _
def kP2 (i j : Nat) (x y : D) (ρ : Env) : Option SOut := bindS ρ i (.v x) fun ρ => setS ρ j (.v y)
@[simp] theorem kP2_def (i j : Nat) (x y : D) (ρ : Env) : kP2 i j x y ρ = bindS ρ i (.v x) fun ρ => setS ρ j (.v y) := nrf _
def kPar (Γ : Gam) (i j : Nat) (b : E) (x : D) (ρ : Env) : Option SOut := sbnd (evE Γ b ρ) (kP2 i j x)
@[simp] theorem kPar_def (Γ : Gam) (i j : Nat) (b : E) (x : D) (ρ : Env) : kPar Γ i j b x ρ = sbnd (evE Γ b ρ) (kP2 i j x) := nrf _
def kRet (d : D) (ρ : Env) : Option SOut := some (.ret (.v d) ρ)
@[simp] theorem kRet_def (d : D) (ρ : Env) : kRet d ρ = some (.ret (.v d) ρ) := nrf _
def kBody (Γ : Gam) (fu : Nat) (p : Pt) (b : S) (d : D) (ρ : Env) : Option SOut := bindE p d ρ (evS Γ fu b)
@[simp] theorem kBody_def (Γ : Gam) (fu : Nat) (p : Pt) (b : S) (d : D) (ρ : Env) : kBody Γ fu p b d ρ = bindE p d ρ (evS Γ fu b) := nrf _
def kNewT (i : Nat) (cs : List Cel) (ρ : Env) : Option SOut := setS ρ i (.t cs)
@[simp] theorem kNewT_def (i : Nat) (cs : List Cel) (ρ : Env) : kNewT i cs ρ = setS ρ i (.t cs) := nrf _
def t2 {β : Type} (Γ : Gam) (c : E) (F : D → D → D → Option β) (x y : D) (ρ : Env) : Option (Out β) := bnd (evE Γ c ρ) (u1 (F x y))
@[simp] theorem t2_def {β : Type} (Γ : Gam) (c : E) (F : D → D → D → Option β) (x y : D) (ρ : Env) : t2 Γ c F x y ρ = bnd (evE Γ c ρ) (u1 (F x y)) := nrf _
def t1 {β : Type} (Γ : Gam) (b c : E) (F : D → D → D → Option β) (x : D) (ρ : Env) : Option (Out β) := bnd (evE Γ b ρ) (t2 Γ c F x)
@[simp] theorem t1_def {β : Type} (Γ : Gam) (b c : E) (F : D → D → D → Option β) (x : D) (ρ : Env) : t1 Γ b c F x ρ = bnd (evE Γ b ρ) (t2 Γ c F x) := nrf _
def tI2 {β : Type} (Γ : Gam) (c : E) (F : D → D → D → Option β) (x y : D) (ρ : Env) : Option (Out β) := if isIntD y = true then bnd (evE Γ c ρ) (u1 (F x y)) else none
@[simp] theorem tI2_int {β : Type} (Γ : Gam) (c : E) (F : D → D → D → Option β) (x : D) (i : Int) (ρ : Env) : tI2 Γ c F x (.int i) ρ = bnd (evE Γ c ρ) (u1 (F x (.int i))) := nrf _
def tI1 {β : Type} (Γ : Gam) (b c : E) (F : D → D → D → Option β) (x : D) (ρ : Env) : Option (Out β) := bnd (evE Γ b ρ) (tI2 Γ c F x)
@[simp] theorem tI1_def {β : Type} (Γ : Gam) (b c : E) (F : D → D → D → Option β) (x : D) (ρ : Env) : tI1 Γ b c F x ρ = bnd (evE Γ b ρ) (tI2 Γ c F x) := nrf _
section
variable (Γ : Gam) (fu : Nat) (ρ : Env)
@[simp] theorem evE_cst (d : D) : evE Γ (.cst d) ρ = some (.ok d ρ) := by rw [evE] <;> rfl
@[simp] theorem evE_tup (a : A) : evE Γ (.tup a) ρ = bnd (evA Γ a ρ) (u1 tupV) := by rw [evE] <;> rfl
@[simp] theorem evE_bin (op : Op2) (a b : E) : evE Γ (.bin op a b) ρ = bnd (evE Γ a ρ) (b1 Γ b (binD op)) := by rw [evE] <;> rfl
@[simp] theorem evE_neg (a : E) : evE Γ (.neg a) ρ = bnd (evE Γ a ρ) (u1 negD) := by rw [evE] <;> rfl
@[simp] theorem evE_cmp (op : Cm) (a b : E) : evE Γ (.cmp op a b) ρ = bnd (evE Γ a ρ) (b1 Γ b (cmpDD op)) := by rw [evE] <;> rfl
@[simp] theorem evE_eqq (ne : Bool) (a b : E) : evE Γ (.eqq ne a b) ρ = bnd (evE Γ a ρ) (b1 Γ b (eqqD ne)) := by rw [evE] <;> rfl
@[simp] theorem evE_isN (ne : Bool) (a : E) : evE Γ (.isN ne a) ρ = bnd (evE Γ a ρ) (u1 (isND ne)) := by rw [evE] <;> rfl
@[simp] theorem evE_and (a b : E) : evE Γ (.and a b) ρ = bnd (evE Γ a ρ) (kAnd Γ b) := by rw [evE] <;> rfl
@[simp] theorem evE_or (a b : E) : evE Γ (.or a b) ρ = bnd (evE Γ a ρ) (kOr Γ b) := by rw [evE] <;> rfl
@[simp] theorem evE_not (a : E) : evE Γ (.not a) ρ = bnd (evE Γ a ρ) (u1 notD) := by rw [evE] <;> rfl
@[simp] theorem evE_ifx (c a b : E) : evE Γ (.ifx c a b) ρ = bnd (evT Γ c ρ) (kIf Γ a b) := by rw [evE] <;> rfl
@[simp] theorem evE_call (f : Nat) (a : A) : evE Γ (.call f a) ρ = bnd (evA Γ a ρ) (callE (Γ f)) := by rw [evE] <;> rfl
@[simp] theorem evE_isT (a : E) (ts : List Ty) : evE Γ (.isT a ts) ρ = bnd (evE Γ a ρ) (u1 (isTDD ts)) := by rw [evE] <;> rfl
@[simp] theorem evE_len (a : E) : evE Γ (.len a) ρ = bnd (evE Γ a ρ) (u1 lenD) := by rw [evE] <;> rfl
@[simp] theorem evE_abs (a : E) : evE Γ (.abs a) ρ = bnd (evE Γ a ρ) (u1 absD) := by rw [evE] <;> rfl
@[simp] theorem evE_int1 (a : E) : evE Γ (.int1 a) ρ = bnd (evE Γ a ρ) (u1 int1D) := by rw [evE] <;> rfl
@[simp] theorem evE_min2 (a b : E) : evE Γ (.min2 a b) ρ = bnd (evE Γ a ρ) (b1 Γ b min2D) := by rw [evE] <;> rfl
@[simp] theorem evE_max2 (a b : E) : evE Γ (.max2 a b) ρ = bnd (evE Γ a ρ) (b1 Γ b max2D) := by rw [evE] <;> rfl
@[simp] theorem evE_gcd (a b : E) : evE Γ (.gcd a b) ρ = bnd (evE Γ a ρ) (b1 Γ b gcdD) := by rw [evE] <;> rfl
@[simp] theorem evE_bits (a : E) : evE Γ (.bits a) ρ = bnd (evE Γ a ρ) (u1 bitsD) := by rw [evE] <;> rfl
@[simp] theorem evE_ix (a b : E) : evE Γ (.ix a b) ρ = bnd (evE Γ a ρ) (b1 Γ b ixD) := by rw [evE] <;> rfl
@[simp] theorem evE_tupOf (a : E) : evE Γ (.tupOf a) ρ = bnd (evE Γ a ρ) (u1 tupD) := by rw [evE] <;> rfl
@[simp] theorem evE_ofL (l : L) : evE Γ (.ofL l) ρ = bnd (evL Γ l ρ) (u1 lstO) := by rw [evE] <;> rfl
def varE (s : Slot) (i : Nat) (ρ : Env) : Option (Out D) := match s with
  | .v d => some (.ok d ρ)
  | .no => none
  | s => some (.ok (frzS s) (ρ.set i (.v (frzS s))))
@[simp] theorem varE_v (d : D) (i : Nat) : varE (.v d) i ρ = some (.ok d ρ) := nrf _
@[simp] theorem varE_l (ds : List D) (i : Nat) : varE (.l ds) i ρ = some (.ok (.lst ds) (ρ.set i (.v (.lst ds)))) := nrf _
@[simp] theorem varE_t (cs : List Cel) (i : Nat) : varE (.t cs) i ρ = some (.ok (.lst (cs.map Cel.dat)) (ρ.set i (.v (.lst (cs.map Cel.dat))))) := nrf _
@[simp] theorem varE_o (c : Nat) (fs : List (Str × Cel)) (i : Nat) : varE (.o c fs) i ρ = some (.ok (.ins c (fs.map fun p => (p.1, p.2.dat))) (ρ.set i (.v (.ins c (fs.map fun p => (p.1, p.2.dat)))))) := nrf _
@[simp] theorem evE_var (i : Nat) : evE Γ (.var i) ρ = varE (ρ.at i) i ρ := by rw [evE] <;> rfl
def lenlE (s : Slot) (ρ : Env) : Option (Out D) := match s with
  | .l ds => some (.ok (.int ds.length) ρ)
  | .v d => ok1 (lenD d) ρ
  | _ => none
@[simp] theorem lenlE_l (ds : List D) : lenlE (.l ds) ρ = some (.ok (.int ds.length) ρ) := nrf _
@[simp] theorem lenlE_v (d : D) : lenlE (.v d) ρ = ok1 (lenD d) ρ := nrf _
@[simp] theorem evE_lenl (i : Nat) : evE Γ (.lenl i) ρ = lenlE (ρ.at i) ρ := by rw [evE] <;> rfl
def popE (s : Slot) (i : Nat) (ρ : Env) : Option (Out D) := match s with
  | .l ds => ok1 (ds[ds.length - 1]?) (ρ.set i (.l ds.dropLast))
  | _ => none
@[simp] theorem popE_l (ds : List D) (i : Nat) : popE (.l ds) i ρ = ok1 (ds[ds.length - 1]?) (ρ.set i (.l ds.dropLast)) := nrf _
@[simp] theorem evE_pop (i : Nat) : evE Γ (.pop i) ρ = popE (ρ.at i) i ρ := by rw [evE] <;> rfl
def appS (s : Slot) (i : Nat) (d : D) (ρ : Env) : Option SOut := match s with
  | .l ds => if ds.length < sizeLine then some (.nx (ρ.set i (.l (ds ++ [d])))) else none
  | _ => none
@[simp] theorem appS_l (ds : List D) (i : Nat) (d : D) : appS (.l ds) i d ρ = if ds.length < sizeLine then some (.nx (ρ.set i (.l (ds ++ [d])))) else none := nrf _
def kApp (i : Nat) (d : D) (ρ : Env) : Option SOut := appS (ρ.at i) i d ρ
@[simp] theorem kApp_def (i : Nat) (d : D) (ρ : Env) : kApp i d ρ = appS (ρ.at i) i d ρ := nrf _
def revS (s : Slot) (i : Nat) (ρ : Env) : Option SOut := match s with
  | .l ds => some (.nx (ρ.set i (.l ds.reverse)))
  | _ => none
@[simp] theorem revS_l (ds : List D) (i : Nat) : revS (.l ds) i ρ = some (.nx (ρ.set i (.l ds.reverse))) := nrf _
@[simp] theorem evS_rev (i : Nat) : evS Γ fu (.rev i) ρ = revS (ρ.at i) i ρ := by rw [evS] <;> rfl
def retLS (s : Slot) (ρ : Env) : Option SOut := match s with
  | .no => none
  | .v _ => none
  | s => some (.ret s ρ)
@[simp] theorem retLS_l (ds : List D) : retLS (.l ds) ρ = some (.ret (.l ds) ρ) := nrf _
@[simp] theorem retLS_t (ds : List Cel) : retLS (.t ds) ρ = some (.ret (.t ds) ρ) := nrf _
@[simp] theorem retLS_o (c : Nat) (ds : List (Str × Cel)) : retLS (.o c ds) ρ = some (.ret (.o c ds) ρ) := nrf _
@[simp] theorem evS_retL (i : Nat) : evS Γ fu (.retL i) ρ = retLS (ρ.at i) ρ := by rw [evS] <;> rfl
@[simp] theorem isL_l (ds : List D) : isL (.l ds) = true := nrf _
@[simp] theorem evS_app (i : Nat) (e : E) : evS Γ fu (.app i e) ρ = if isL (ρ.at i) = true then sbnd (evE Γ e ρ) (kApp i) else none := by
  rw [evS]
  cases ρ.at i <;> rfl
@[simp] theorem evA_io (i : Nat) (r : A) : evA Γ (.io i r) ρ = if isOwn (ρ.at i) = true then bnd (evA Γ r ρ) (kIo i) else none := by rw [evA] <;> rfl
theorem evE_varV {i : Nat} {d : D} (h : ρ.at i = .v d) : evE Γ (.var i) ρ = some (.ok d ρ) := by rw [evE, h]
theorem evE_varL {i : Nat} {ds : List D} (h : ρ.at i = .l ds) : evE Γ (.var i) ρ = some (.ok (.lst ds) (ρ.set i (.v (.lst ds)))) := by rw [evE, h] <;> rfl
@[simp] theorem evA_nil : evA Γ .nil ρ = some (.ok [] ρ) := by rw [evA] <;> rfl
@[simp] theorem evA_cons (e : E) (r : A) : evA Γ (.cons e r) ρ = bnd (evE Γ e ρ) (kCons Γ r) := by rw [evA] <;> rfl
@[simp] theorem evL_disp (a : A) : evL Γ (.disp a) ρ = bnd (evA Γ a ρ) (u1 dispV) := by rw [evL] <;> rfl
@[simp] theorem evL_listOf (e : E) : evL Γ (.listOf e) ρ = bnd (evE Γ e ρ) (u1 items) := by rw [evL] <;> rfl
@[simp] theorem evL_callL (f : Nat) (a : A) : evL Γ (.callL f a) ρ = bnd (evA Γ a ρ) (callLE (Γ f)) := by rw [evL] <;> rfl
@[simp] theorem evT_def (e : E) : evT Γ e ρ = bnd (evE Γ e ρ) (u1 truthy) := nrf _
@[simp] theorem evS_nil : evS Γ fu .nil ρ = some (.nx ρ) := by rw [evS] <;> rfl
@[simp] theorem evS_pass : evS Γ fu .pass ρ = some (.nx ρ) := by rw [evS] <;> rfl
@[simp] theorem evS_seq (a b : S) : evS Γ fu (.seq a b) ρ = thenS (evS Γ fu a ρ) (evS Γ fu b) := by rw [evS] <;> rfl
@[simp] theorem evS_asg (i : Nat) (e : E) : evS Γ fu (.asg i e) ρ = sbnd (evE Γ e ρ) (kAsg i) := by rw [evS] <;> rfl
@[simp] theorem evS_par (i j : Nat) (a b : E) : evS Γ fu (.par i j a b) ρ = sbnd (evE Γ a ρ) (kPar Γ i j b) := by rw [evS] <;> rfl
@[simp] theorem evS_newL (i : Nat) (l : L) : evS Γ fu (.newL i l) ρ = sbnd (evL Γ l ρ) (kNewL i) := by rw [evS] <;> rfl
@[simp] theorem evS_ite (c : E) (a b : S) : evS Γ fu (.ite c a b) ρ = sbnd (evT Γ c ρ) (kIte Γ fu a b) := by rw [evS] <;> rfl
@[simp] theorem evS_ret (e : E) : evS Γ fu (.ret e) ρ = sbnd (evE Γ e ρ) (kRet) := by rw [evS] <;> rfl
@[simp] theorem evS_brk : evS Γ fu .brk ρ = some (.bk ρ) := by rw [evS] <;> rfl
@[simp] theorem evS_cnt : evS Γ fu .cnt ρ = some (.ct ρ) := by rw [evS] <;> rfl
def kAsgT (is : List Nat) (d : D) (ρ : Env) : Option SOut := bindE (.t is) d ρ fun ρ => some (.nx ρ)
@[simp] theorem kAsgT_def (is : List Nat) (d : D) : kAsgT is d ρ = bindE (.t is) d ρ fun ρ => some (.nx ρ) := nrf _
@[simp] theorem evS_asgT (is : List Nat) (e : E) : evS Γ fu (.asgT is e) ρ = sbnd (evE Γ e ρ) (kAsgT is) := by rw [evS] <;> rfl
def forD (f : D → Env → Option SOut) (ds : List D) (ρ : Env) : Option SOut := loopS f ds ρ
@[simp] theorem forD_def (f : D → Env → Option SOut) (ds : List D) : forD f ds ρ = loopS f ds ρ := nrf _
@[simp] theorem evS_for (p : Pt) (it : I) (b : S) : evS Γ fu (.for p it b) ρ = sbnd (evI Γ it ρ) (forD (kBody Γ fu p b)) := by rw [evS] <;> rfl
@[simp] theorem evS_newT (i : Nat) (n : NM) : evS Γ fu (.newT i n) ρ = sbnd (evN Γ n ρ) (kNewT i) := by rw [evS] <;> rfl
def kSetI2 (i : Nat) (d z : D) (ρ : Env) : Option SOut := setIS i z d ρ
@[simp] theorem kSetI2_def (i : Nat) (d z : D) : kSetI2 i d z ρ = setIS i z d ρ := nrf _
def kSetI (Γ : Gam) (i : Nat) (k : E) (d : D) (ρ : Env) : Option SOut := if isL (ρ.at i) = true then sbnd (evE Γ k ρ) (kSetI2 i d) else none
@[simp] theorem kSetI_def (i : Nat) (k : E) (d : D) : kSetI Γ i k d ρ = if isL (ρ.at i) = true then sbnd (evE Γ k ρ) (kSetI2 i d) else none := nrf _
@[simp] theorem evS_setI (i : Nat) (k e : E) : evS Γ fu (.setI i k e) ρ = sbnd (evE Γ e ρ) (kSetI Γ i k) := by rw [evS] <;> rfl
def kAppP2 (i j : Nat) (es : List D) (s : Slot) (d : D) (ρ : Env) : Option SOut := if es.length < sizeLine then setC i j (.l (es ++ [d])) (ρ.set i s) else none
@[simp] theorem kAppP2_def (i j : Nat) (es : List D) (s : Slot) (d : D) : kAppP2 i j es s d ρ = if es.length < sizeLine then setC i j (.l (es ++ [d])) (ρ.set i s) else none := nrf _
def kAppP (Γ : Gam) (i : Nat) (e : E) (z : D) (ρ : Env) : Option SOut := match celAt i z ρ with
  | some (j, es) => sbnd (evE Γ e (ρ.set i .no)) (kAppP2 i j es (ρ.at i))
  | none => none
theorem kAppP_of {i : Nat} {e : E} {z : D} {j : Nat} {es : List D} (h : celAt i z ρ = some (j, es)) : kAppP Γ i e z ρ = sbnd (evE Γ e (ρ.set i .no)) (kAppP2 i j es (ρ.at i)) := by
  unfold kAppP
  rw [h]
@[simp] theorem evS_appP (i : Nat) (k e : E) : evS Γ fu (.appP i k e) ρ = if isOwn (ρ.at i) = true then sbnd (evE Γ k ρ) (kAppP Γ i e) else none := by rw [evS] <;> rfl
def kSetF (i c : Nat) (f : Str) (d : D) (ρ : Env) : Option SOut := setFS i c f d ρ
@[simp] theorem kSetF_def (i c : Nat) (f : Str) (d : D) : kSetF i c f d ρ = setFS i c f d ρ := nrf _
@[simp] theorem evS_setF (i c : Nat) (f : Str) (e : E) : evS Γ fu (.setF i c f e) ρ = sbnd (evE Γ e ρ) (kSetF i c f) := by rw [evS] <;> rfl
def setFO (s : Slot) (i c0 : Nat) (f : Str) (d : D) (ρ : Env) : Option SOut := match s with
  | .o c fs => if c = c0 ∧ fs.length < 1000 then some (.nx (ρ.set i (.o c (putC f (.d d) fs)))) else none
  | _ => none
@[simp] theorem setFS_def (i c : Nat) (f : Str) (d : D) : setFS i c f d ρ = setFO (ρ.at i) i c f d ρ := nrf _
@[simp] theorem setFO_o (c0 : Nat) (fs : List (Str × Cel)) (i c : Nat) (f : Str) (d : D) : setFO (.o c0 fs) i c f d ρ = if c0 = c ∧ fs.length < 1000 then some (.nx (ρ.set i (.o c0 (putC f (.d d) fs)))) else none := nrf _
def kExp (_ : D) (ρ : Env) : Option SOut := some (.nx ρ)
@[simp] theorem kExp_def (d : D) : kExp d ρ = some (.nx ρ) := nrf _
@[simp] theorem evS_exp (e : E) : evS Γ fu (.exp e) ρ = sbnd (evE Γ e ρ) kExp := by rw [evS] <;> rfl
def augO (op : Op2) (i : Nat) (x : Int) (d : D) (ρ : Env) : Option SOut := match binD op (.int x) d with
  | some (.int y) => setS ρ i (.v (.int y))
  | _ => none
@[simp] theorem augO_def (op : Op2) (i : Nat) (x : Int) (d : D) : augO op i x d ρ = match binD op (.int x) d with
  | some (.int y) => setS ρ i (.v (.int y))
  | _ => none := nrf _
def augS (Γ : Gam) (op : Op2) (i : Nat) (e : E) (s : Slot) (ρ : Env) : Option SOut := match s with
  | .v (.int x) => sbnd (evE Γ e ρ) (augO op i x)
  | _ => none
@[simp] theorem augS_v (op : Op2) (i : Nat) (e : E) (x : Int) : augS Γ op i e (.v (.int x)) ρ = sbnd (evE Γ e ρ) (augO op i x) := nrf _
@[simp] theorem evS_aug (op : Op2) (i : Nat) (e : E) : evS Γ fu (.aug op i e) ρ = augS Γ op i e (ρ.at i) ρ := by rw [evS] <;> rfl
/-! what is walked -/
@[simp] theorem evI_seq (a : E) : evI Γ (.seq a) ρ = bnd (evE Γ a ρ) (u1 walkD) := by rw [evI] <;> rfl
@[simp] theorem evI_rng1 (a : E) : evI Γ (.rng1 a) ρ = bnd (evE Γ a ρ) (u1 rng1D) := by rw [evI] <;> rfl
@[simp] theorem evI_rng2 (a b : E) : evI Γ (.rng2 a b) ρ = bnd (evE Γ a ρ) (b1 Γ b rng2D) := by rw [evI] <;> rfl
@[simp] theorem evI_rng3 (a b c : E) : evI Γ (.rng3 a b c) ρ = bnd (evE Γ a ρ) (t1 Γ b c rng3D) := by rw [evI] <;> rfl
@[simp] theorem evI_zip (a b : E) : evI Γ (.zip a b) ρ = bnd (evE Γ a ρ) (b1 Γ b zipD) := by rw [evI] <;> rfl
@[simp] theorem evI_enm (a : E) : evI Γ (.enm a) ρ = bnd (evE Γ a ρ) (u1 enmD) := by rw [evI] <;> rfl
@[simp] theorem evI_rev (a : E) : evI Γ (.rev a) ρ = bnd (evE Γ a ρ) (u1 revI) := by rw [evI] <;> rfl
@[simp] theorem evE_slB (a b c : E) : evE Γ (.slB a b c) ρ = bnd (evE Γ a ρ) (tI1 Γ b c slBD) := by rw [evE] <;> rfl
@[simp] theorem evE_peek (e : E) : evE Γ (.peek e) ρ = peekE (evE Γ e (ρ.map viewS)) ρ := by rw [evE] <;> rfl
@[simp] theorem evE_un (o : U1) (a : E) : evE Γ (.un o a) ρ = bnd (evE Γ a ρ) (u1 (unD o)) := by rw [evE] <;> rfl
def chnE (Γ : Gam) (o2 : Cm) (c : E) (y : D) (r : Option D) (ρ : Env) : Option (Out D) := match r with
  | some (.bl true) => bnd (evE Γ c ρ) (u1 (cmpDD o2 y))
  | some (.bl false) => some (.ok (.bl false) ρ)
  | _ => none
@[simp] theorem chnE_t (o2 : Cm) (c : E) (y : D) : chnE Γ o2 c y (some (.bl true)) ρ = bnd (evE Γ c ρ) (u1 (cmpDD o2 y)) := nrf _
@[simp] theorem chnE_f (o2 : Cm) (c : E) (y : D) : chnE Γ o2 c y (some (.bl false)) ρ = some (.ok (.bl false) ρ) := nrf _
@[simp] theorem chnE_d (o2 : Cm) (c : E) (y : D) (p : Prop) [Decidable p] : chnE Γ o2 c y (some (.bl (decide p))) ρ = if p then bnd (evE Γ c ρ) (u1 (cmpDD o2 y)) else some (.ok (.bl false) ρ) := by by_cases h : p <;> simp [h]
def chn2 (Γ : Gam) (o1 o2 : Cm) (c : E) (x y : D) (ρ : Env) : Option (Out D) := chnE Γ o2 c y (cmpDD o1 x y) ρ
@[simp] theorem chn2_def (o1 o2 : Cm) (c : E) (x y : D) : chn2 Γ o1 o2 c x y ρ = chnE Γ o2 c y (cmpDD o1 x y) ρ := nrf _
def chn1 (Γ : Gam) (o1 o2 : Cm) (b c : E) (x : D) (ρ : Env) : Option (Out D) := bnd (evE Γ b ρ) (chn2 Γ o1 o2 c x)
@[simp] theorem chn1_def (o1 o2 : Cm) (b c : E) (x : D) : chn1 Γ o1 o2 b c x ρ = bnd (evE Γ b ρ) (chn2 Γ o1 o2 c x) := nrf _
@[simp] theorem evE_chn (o1 o2 : Cm) (a b c : E) : evE Γ (.chn o1 o2 a b c) ρ = bnd (evE Γ a ρ) (chn1 Γ o1 o2 b c) := by rw [evE] <;> rfl
@[simp] theorem evE_fld (e : E) (f : Str) (cs : List Nat) : evE Γ (.fld e f cs) ρ = bnd (evE Γ e ρ) (u1 (fldD f cs)) := by rw [evE] <;> rfl
def disK (Γ : Gam) (k : DK) (f : Nat) (x : D) (avs : List AV) (ρ : Env) : Option (Out D) := dkE k (callE (Γ f) (.v x :: avs) ρ)
@[simp] theorem disK_def (k : DK) (f : Nat) (x : D) (avs : List AV) : disK Γ k f x avs ρ = dkE k (callE (Γ f) (.v x :: avs) ρ) := nrf _
def disF (Γ : Gam) (k : DK) (a : A) (x : D) (o : Option Nat) (ρ : Env) : Option (Out D) := match o with
  | some f => bnd (evA Γ a ρ) (disK Γ k f x)
  | none => none
@[simp] theorem disF_s (k : DK) (a : A) (x : D) (f : Nat) : disF Γ k a x (some f) ρ = bnd (evA Γ a ρ) (disK Γ k f x) := nrf _
def disX (Γ : Gam) (k : DK) (m : Str) (tb : List (Nat × Nat)) (a : A) (x : D) (ρ : Env) : Option (Out D) := match insOf m x with
  | some c => disF Γ k a x (tb.lookup c) ρ
  | none => none
theorem disX_of {k : DK} {m : Str} {tb : List (Nat × Nat)} {a : A} {x : D} {c : Nat} (h : insOf m x = some c) : disX Γ k m tb a x ρ = disF Γ k a x (tb.lookup c) ρ := by
  unfold disX
  rw [h]
@[simp] theorem evE_dis (k : DK) (m : Str) (tb : List (Nat × Nat)) (e : E) (a : A) : evE Γ (.dis k m tb e a) ρ = okOnly (evE Γ e ρ) (disX Γ k m tb a) := by
  rw [evE]
  rfl
def mkK2 (Γ : Gam) (c f n : Nat) (avs kvs : List AV) (ρ : Env) : Option (Out D) := if kvs.length = n then mkE (Γ f) c (avs ++ kvs) ρ else none
@[simp] theorem mkK2_def (c f n : Nat) (avs kvs : List AV) : mkK2 Γ c f n avs kvs ρ = if kvs.length = n then mkE (Γ f) c (avs ++ kvs) ρ else none := nrf _
def mkK1 (Γ : Gam) (c f n : Nat) (kw : A) (avs : List AV) (ρ : Env) : Option (Out D) := bnd (evA Γ kw ρ) (mkK2 Γ c f n avs)
@[simp] theorem mkK1_def (c f n : Nat) (kw : A) (avs : List AV) : mkK1 Γ c f n kw avs ρ = bnd (evA Γ kw ρ) (mkK2 Γ c f n avs) := nrf _
@[simp] theorem evE_mk (c f : Nat) (a : A) (ks : List Str) (kw : A) : evE Γ (.mk c f a ks kw) ρ = bnd (evA Γ a ρ) (mkK1 Γ c f ks.length kw) := by rw [evE] <;> rfl
@[simp] theorem evE_isC (a : E) (c : Nat) : evE Γ (.isC a c) ρ = bnd (evE Γ a ρ) (u1 (isCD c)) := by rw [evE] <;> rfl
def kIxl (i : Nat) (z : D) (ρ : Env) : Option (Out D) := ok1 (getIS i z ρ) ρ
@[simp] theorem kIxl_def (i : Nat) (z : D) : kIxl i z ρ = ok1 (getIS i z ρ) ρ := nrf _
@[simp] theorem evE_ixl (i : Nat) (k : E) : evE Γ (.ixl i k) ρ = if isL (ρ.at i) = true then bnd (evE Γ k ρ) (kIxl i) else none := by rw [evE] <;> rfl
def kSlF (i : Nat) (y : D) (ρ : Env) : Option (Out (List D)) := ok1 (slOwn i (some y) none ρ) ρ
@[simp] theorem kSlF_def (i : Nat) (y : D) : kSlF i y ρ = ok1 (slOwn i (some y) none ρ) ρ := nrf _
@[simp] theorem evL_slFl (i : Nat) (a : E) : evL Γ (.slFl i a) ρ = if isL (ρ.at i) = true then bnd (evE Γ a ρ) (kSlF i) else none := by rw [evL] <;> rfl
def kSlT (i : Nat) (y : D) (ρ : Env) : Option (Out (List D)) := ok1 (slOwn i none (some y) ρ) ρ
@[simp] theorem kSlT_def (i : Nat) (y : D) : kSlT i y ρ = ok1 (slOwn i none (some y) ρ) ρ := nrf _
@[simp] theorem evL_slTl (i : Nat) (a : E) : evL Γ (.slTl i a) ρ = if isL (ρ.at i) = true then bnd (evE Γ a ρ) (kSlT i) else none := by rw [evL] <;> rfl
def kSlB2 (i : Nat) (y z : D) (ρ : Env) : Option (Out (List D)) := ok1 (slOwn i (some y) (some z) ρ) ρ
@[simp] theorem kSlB2_def (i : Nat) (y z : D) : kSlB2 i y z ρ = ok1 (slOwn i (some y) (some z) ρ) ρ := nrf _
def kSlB (Γ : Gam) (i : Nat) (b : E) (y : D) (ρ : Env) : Option (Out (List D)) := if isIntD y = true then bnd (evE Γ b ρ) (kSlB2 i y) else none
@[simp] theorem kSlB_int (i : Nat) (b : E) (k : Int) : kSlB Γ i b (.int k) ρ = bnd (evE Γ b ρ) (kSlB2 i (.int k)) := nrf _
@[simp] theorem evL_slBl (i : Nat) (a b : E) : evL Γ (.slBl i a b) ρ = if isL (ρ.at i) = true then bnd (evE Γ a ρ) (kSlB Γ i b) else none := by rw [evL] <;> rfl
@[simp] theorem evS_whlL (i : Nat) (b : S) : evS Γ fu (.whlL i b) ρ = whileS (testL i) (evS Γ fu b) fu ρ := by rw [evS] <;> rfl
/-! lists -/
def kLcX (x : D) (ρ : Env) : Option (Out (Option D)) := some (.ok (some x) ρ)
@[simp] theorem kLcX_def (x : D) : kLcX x ρ = some (.ok (some x) ρ) := nrf _
def kLcE (Γ : Gam) (e : E) (ρ : Env) : Option (Out (Option D)) := bnd (evE Γ e ρ) kLcX
@[simp] theorem kLcE_def (e : E) : kLcE Γ e ρ = bnd (evE Γ e ρ) kLcX := nrf _
def kLc (Γ : Gam) (p : Pt) (e : E) (d : D) (ρ : Env) : Option (Out (Option D)) := bindE p d ρ (kLcE Γ e)
@[simp] theorem kLc_def (p : Pt) (e : E) (d : D) : kLc Γ p e d ρ = bindE p d ρ (kLcE Γ e) := nrf _
@[simp] theorem evL_lc (own : List Nat) (it : I) (p : Pt) (e : E) : evL Γ (.lc own it p e) ρ = bnd (evI Γ it ρ) (lcE own (kLc Γ p e)) := by rw [evL] <;> rfl
def kLcK (Γ : Gam) (e : E) (k : Bool) (ρ : Env) : Option (Out (Option D)) := match k with
  | true => bnd (evE Γ e ρ) kLcX
  | false => some (.ok none ρ)
@[simp] theorem kLcK_t (e : E) : kLcK Γ e true ρ = bnd (evE Γ e ρ) kLcX := nrf _
@[simp] theorem kLcK_f (e : E) : kLcK Γ e false ρ = some (.ok none ρ) := nrf _
@[simp] theorem kLcK_d (e : E) (p : Prop) [Decidable p] : kLcK Γ e (decide p) ρ = if p then bnd (evE Γ e ρ) kLcX else some (.ok none ρ) := by by_cases h : p <;> simp [h]
def kLciE (Γ : Gam) (c e : E) (ρ : Env) : Option (Out (Option D)) := bnd (bnd (evE Γ c ρ) (u1 truthy)) (kLcK Γ e)
@[simp] theorem kLciE_def (c e : E) : kLciE Γ c e ρ = bnd (bnd (evE Γ c ρ) (u1 truthy)) (kLcK Γ e) := nrf _
def kLci (Γ : Gam) (p : Pt) (c e : E) (d : D) (ρ : Env) : Option (Out (Option D)) := bindE p d ρ (kLciE Γ c e)
@[simp] theorem kLci_def (p : Pt) (c e : E) (d : D) : kLci Γ p c e d ρ = bindE p d ρ (kLciE Γ c e) := nrf _
@[simp] theorem evL_lci (own : List Nat) (it : I) (p : Pt) (c e : E) : evL Γ (.lci own it p c e) ρ = bnd (evI Γ it ρ) (lcE own (kLci Γ p c e)) := by rw [evL] <;> rfl
def kNc (Γ : Gam) (p : Pt) (l : L) (d : D) (ρ : Env) : Option (Out (List D)) := bindE p d ρ (evL Γ l)
@[simp] theorem kNc_def (p : Pt) (l : L) (d : D) : kNc Γ p l d ρ = bindE p d ρ (evL Γ l) := nrf _
@[simp] theorem evN_lc (own : List Nat) (it : I) (p : Pt) (l : L) : evN Γ (.lc own it p l) ρ = bnd (evI Γ it ρ) (lcN own (kNc Γ p l)) := by rw [evN] <;> rfl
@[simp] theorem evL_cat (a b : E) : evL Γ (.cat a b) ρ = bnd (evE Γ a ρ) (b1 Γ b catL) := by rw [evL] <;> rfl
@[simp] theorem evL_rep (a b : E) : evL Γ (.rep a b) ρ = bnd (evE Γ a ρ) (b1 Γ b repL) := by rw [evL] <;> rfl
@[simp] theorem evL_slF (a b : E) : evL Γ (.slF a b) ρ = bnd (evE Γ a ρ) (b1 Γ b slFL) := by rw [evL] <;> rfl
@[simp] theorem evL_slT (a b : E) : evL Γ (.slT a b) ρ = bnd (evE Γ a ρ) (b1 Γ b slTL) := by rw [evL] <;> rfl
@[simp] theorem evL_slB (a b c : E) : evL Γ (.slB a b c) ρ = bnd (evE Γ a ρ) (tI1 Γ b c slBL) := by rw [evL] <;> rfl
@[simp] theorem evL_srt (a : E) : evL Γ (.srt a) ρ = bnd (evE Γ a ρ) (u1 sortD) := by rw [evL] <;> rfl
def rgD1 (x : D) : Option (List D) := lineD (rng1D x)
def rgD2 (x y : D) : Option (List D) := lineD (rng2D x y)
@[simp] theorem evL_rng1 (a : E) : evL Γ (.rng1 a) ρ = bnd (evE Γ a ρ) (u1 rgD1) := by rw [evL] <;> rfl
@[simp] theorem evL_rng2 (a b : E) : evL Γ (.rng2 a b) ρ = bnd (evE Γ a ρ) (b1 Γ b rgD2) := by rw [evL] <;> rfl
@[simp] theorem evL_peek (l : L) : evL Γ (.peek l) ρ = peekL (evL Γ l (ρ.map viewS)) ρ := by rw [evL] <;> rfl
@[simp] theorem evE_glo (x : Str) (d : D) : evE Γ (.glo x d) ρ = some (.ok d ρ) := by rw [evE] <;> rfl
@[simp] theorem evE_inn (ne : Bool) (a b : E) : evE Γ (.inn ne a b) ρ = bnd (evE Γ a ρ) (b1 Γ b (innD ne)) := by rw [evE] <;> rfl
@[simp] theorem evE_strI (a : E) : evE Γ (.strI a) ρ = bnd (evE Γ a ρ) (u1 strD) := by rw [evE] <;> rfl
@[simp] theorem evE_slF (a b : E) : evE Γ (.slF a b) ρ = bnd (evE Γ a ρ) (b1 Γ b slFD) := by rw [evE] <;> rfl
@[simp] theorem evE_slT (a b : E) : evE Γ (.slT a b) ρ = bnd (evE Γ a ρ) (b1 Γ b slTD) := by rw [evE] <;> rfl
def kS {α : Type} (Γ : Gam) (b : E) (F : D → D → Option α) (x : D) (ρ : Env) : Option (Out α) := if isStr x = true then bnd (evE Γ b ρ) (u1 (F x)) else none
@[simp] theorem kS_str {α : Type} (Γ : Gam) (b : E) (F : D → D → Option α) (z : Str) (ρ : Env) : kS Γ b F (.str z) ρ = bnd (evE Γ b ρ) (u1 (F (.str z))) := nrf _
@[simp] theorem evE_startsw (a b : E) : evE Γ (.startsw a b) ρ = bnd (evE Γ a ρ) (kS Γ b startD') := by rw [evE] <;> rfl
@[simp] theorem evE_partn (a b : E) : evE Γ (.partn a b) ρ = bnd (evE Γ a ρ) (kS Γ b partD) := by rw [evE] <;> rfl
@[simp] theorem evL_splt (a b : E) : evL Γ (.splt a b) ρ = bnd (evE Γ a ρ) (kS Γ b spltD) := by rw [evL] <;> rfl
@[simp] theorem evE_fst (a : A) : evE Γ (.fst a) ρ = evF Γ a Str.empty ρ := by rw [evE] <;> rfl
@[simp] theorem evF_nil (acc : Str) : evF Γ .nil acc ρ = some (.ok (.str acc) ρ) := by rw [evF]
def kF (Γ : Gam) (r : A) (acc : Str) (d : D) (ρ : Env) : Option (Out D) := match fmtD d with
  | some y => if (acc ++ y).length ≤ sizeLine then evF Γ r (acc ++ y) ρ else none
  | none => none
theorem kF_of {Γ : Gam} {r : A} {acc : Str} {d : D} {ρ : Env} {y : Str} (h : fmtD d = some y) (h2 : (acc ++ y).length ≤ sizeLine) : kF Γ r acc d ρ = evF Γ r (acc ++ y) ρ := by
  unfold kF
  rw [h]
  exact if_pos h2
@[simp] theorem evF_cons (e : E) (r : A) (acc : Str) : evF Γ (.cons e r) acc ρ = bnd (evE Γ e ρ) (kF Γ r acc) := by rw [evF] <;> rfl
@[simp] theorem evE_xf (i : Nat) (f : Str) : evE Γ (.xf i f) ρ = xfE Γ.cur i f ρ := by rw [evE] <;> rfl
@[simp] theorem evE_xis (i : Nat) (ts : List XT) : evE Γ (.xis i ts) ρ = xisE Γ.cur i ts ρ := by rw [evE] <;> rfl
def kRse (c : Nat) (f : Str) (d : D) (ρ : Env) : Option SOut := some (.ex c [(f, d)] ρ)
@[simp] theorem kRse_def (c : Nat) (f : Str) (d : D) (ρ : Env) : kRse c f d ρ = some (.ex c [(f, d)] ρ) := nrf _
@[simp] theorem evS_rse (c : Nat) (f : Str) (e : E) : evS Γ fu (.rse c f e) ρ = sbnd (evE Γ e ρ) (kRse c f) := by rw [evS] <;> rfl
def tryS (Γ : Gam) (fu m : Nat) (h : S) (o : Option SOut) : Option SOut := match o with
  | some (.ex c w ρ') => if c < m then evH Γ fu h c w ρ' else none
  | o => o
@[simp] theorem tryS_nx (m : Nat) (h : S) (r : Env) : tryS Γ fu m h (some (.nx r)) = some (.nx r) := nrf _
@[simp] theorem tryS_bk (m : Nat) (h : S) (r : Env) : tryS Γ fu m h (some (.bk r)) = some (.bk r) := nrf _
@[simp] theorem tryS_ct (m : Nat) (h : S) (r : Env) : tryS Γ fu m h (some (.ct r)) = some (.ct r) := nrf _
@[simp] theorem tryS_ret (m : Nat) (h : S) (d : Slot) (r : Env) : tryS Γ fu m h (some (.ret d r)) = some (.ret d r) := nrf _
@[simp] theorem tryS_ex (m : Nat) (h : S) (c : Nat) (w : List (Str × D)) (r : Env) : tryS Γ fu m h (some (.ex c w r)) = if c < m then evH Γ fu h c w r else none := nrf _
@[simp] theorem evS_try (m : Nat) (b h : S) : evS Γ fu (.tryx m b h) ρ = tryS Γ fu m h (evS Γ fu b ρ) := by rw [evS] <;> rfl
@[simp] theorem evH_n (t : XT) (s r : S) (c : Nat) (w : List (Str × D)) : evH Γ fu (.hnd t none s r) c w ρ = if hitX c t = true then noX (evS ⟨Γ.fn, none⟩ fu s ρ) else evH Γ fu r c w ρ := by rw [evH]
@[simp] theorem evH_s (t : XT) (i : Nat) (s r : S) (c : Nat) (w : List (Str × D)) : evH Γ fu (.hnd t (some i) s r) c w ρ = if hitX c t = true then (if i < ρ.length then (noX (evS ⟨Γ.fn, some (i, c, w)⟩ fu s (ρ.set i .no))).map (goneX i) else none) else evH Γ fu r c w ρ := by rw [evH]
@[simp] theorem evH_nil (c : Nat) (w : List (Str × D)) : evH Γ fu .nil c w ρ = some (.ex c w ρ) := by rw [evH] <;> simp
end
def outE (o : Option FOut) (avs : List AV) (ρ : Env) : Option (Out D) := match o with
  | some (.ret .no _) => none
  | some (.ret s outs) => some (.ok (frzS s) (putBack ρ avs outs))
  | some (.ex c w outs) => some (.ex c w (putBack ρ avs outs))
  | none => none
@[simp] theorem outE_v (d : D) (outs : List Slot) (avs : List AV) (ρ : Env) : outE (some (.ret (.v d) outs)) avs ρ = some (.ok d (putBack ρ avs outs)) := nrf _
@[simp] theorem outE_l (d : List D) (outs : List Slot) (avs : List AV) (ρ : Env) : outE (some (.ret (.l d) outs)) avs ρ = some (.ok (.lst d) (putBack ρ avs outs)) := nrf _
@[simp] theorem outE_t (d : List Cel) (outs : List Slot) (avs : List AV) (ρ : Env) : outE (some (.ret (.t d) outs)) avs ρ = some (.ok (.lst (d.map Cel.dat)) (putBack ρ avs outs)) := nrf _
@[simp] theorem callE_def (g : List Slot → Option FOut) (avs : List AV) (ρ : Env) : callE g avs ρ = if iosOk ρ avs = true then outE (g (slotsOf ρ avs)) avs ρ else none := nrf _
def outM (c0 : Nat) (o : Option FOut) (avs : List AV) (ρ : Env) : Option (Out D) := match o with
  | some (.ret (.v .non) (.o c' fs :: outs)) => if c' = c0 then some (.ok (frzS (.o c0 fs)) (putBack ρ avs outs)) else none
  | some (.ex c w (_ :: outs)) => some (.ex c w (putBack ρ avs outs))
  | _ => none
@[simp] theorem outM_v (c : Nat) (fs : List (Str × Cel)) (outs : List Slot) (avs : List AV) (ρ : Env) : outM c (some (.ret (.v .non) (.o c fs :: outs))) avs ρ = some (.ok (.ins c (fs.map fun p => (p.1, p.2.dat))) (putBack ρ avs outs)) := if_pos rfl
@[simp] theorem outM_x (c0 c : Nat) (w : List (Str × D)) (s : Slot) (outs : List Slot) (avs : List AV) (ρ : Env) : outM c0 (some (.ex c w (s :: outs))) avs ρ = some (.ex c w (putBack ρ avs outs)) := nrf _
@[simp] theorem mkE_def (g : List Slot → Option FOut) (c : Nat) (avs : List AV) (ρ : Env) : mkE g c avs ρ = if iosOk ρ avs = true then outM c (g (.o c [] :: slotsOf ρ avs)) avs ρ else none := nrf _
@[simp] theorem okOnly_ok {α β : Type} (d : α) (ρ : Env) (f : α → Env → Option (Out β)) : okOnly (some (.ok d ρ)) f = f d ρ := nrf _
@[simp] theorem dkE_m (o : Option (Out D)) : dkE .meth o = o := by cases o <;> rfl
@[simp] theorem dkE_p (d : D) (ρ : Env) : dkE .prop (some (.ok d ρ)) = some (.ok d ρ) := nrf _
@[simp] theorem insOf_ins (m : Str) (c : Nat) (gs : List (Str × D)) : insOf m (.ins c gs) = if (gs.lookup m).isNone = true then some c else none := nrf _
@[simp] theorem fldD_ins (f : Str) (cs : List Nat) (c : Nat) (fs : List (Str × D)) : fldD f cs (.ins c fs) = if c ∈ cs then fs.lookup f else none := nrf _
theorem peekE_ok {d : D} {ρ ρ' : Env} (h : flat d = true) : peekE (some (.ok d ρ')) ρ = some (.ok d ρ) := if_pos h
@[simp] theorem peekE_int (i : Int) (ρ ρ' : Env) : peekE (some (.ok (.int i) ρ')) ρ = some (.ok (.int i) ρ) := peekE_ok (by unfold flat; rfl)
@[simp] theorem peekE_bl (i : Bool) (ρ ρ' : Env) : peekE (some (.ok (.bl i) ρ')) ρ = some (.ok (.bl i) ρ) := peekE_ok (by unfold flat; rfl)
@[simp] theorem peekE_non (ρ ρ' : Env) : peekE (some (.ok .non ρ')) ρ = some (.ok .non ρ) := peekE_ok (by unfold flat; rfl)
@[simp] theorem peekE_str (z : Str) (ρ ρ' : Env) : peekE (some (.ok (.str z) ρ')) ρ = some (.ok (.str z) ρ) := peekE_ok (by unfold flat; rfl)
theorem peekL_ok {d : List D} {ρ ρ' : Env} (h : flats d = true) : peekL (some (.ok d ρ')) ρ = some (.ok d ρ) := if_pos h
@[simp] theorem viewS_no : viewS .no = .no := nrf _
@[simp] theorem viewS_v (d : D) : viewS (.v d) = .v d := nrf _
@[simp] theorem viewS_l (ds : List D) : viewS (.l ds) = .v (.lst ds) := nrf _
@[simp] theorem viewS_t (cs : List Cel) : viewS (.t cs) = .v (.lst (cs.map Cel.dat)) := nrf _
@[simp] theorem isOwn_t (cs : List Cel) : isOwn (.t cs) = true := nrf _
@[simp] theorem isOwn_o (c : Nat) (fs : List (Str × Cel)) : isOwn (.o c fs) = true := nrf _
@[simp] theorem isOwn_v (d : D) : isOwn (.v d) = false := nrf _
@[simp] theorem isOwn_no : isOwn .no = false := nrf _
@[simp] theorem dat_d (d : D) : (Cel.d d).dat = d := nrf _
@[simp] theorem dat_l (ds : List D) : (Cel.l ds).dat = .lst ds := nrf _
@[simp] theorem items_scr (ds : List D) : items (.scr ds) = some ds := nrf _
@[simp] theorem walkD_tup (ds : List D) : walkD (.tup ds) = some ds := nrf _
@[simp] theorem walkD_lst (ds : List D) : walkD (.lst ds) = some ds := nrf _
@[simp] theorem bindE_n {α : Type} {i : Nat} {d : D} {ρ : Env} {f : Env → Option α} (h : i < ρ.length) : bindE (.n i) d ρ f = f (ρ.set i (.v d)) := if_pos h
@[simp] theorem bindE_tup {α : Type} {is : List Nat} {ds : List D} {ρ : Env} {f : Env → Option α} : bindE (.t is) (.tup ds) ρ f = if ds.length = is.length ∧ (is.all fun i => decide (i < ρ.length)) = true then f (setAll ρ is ds) else none := nrf _
@[simp] theorem bindE_lst {α : Type} {is : List Nat} {ds : List D} {ρ : Env} {f : Env → Option α} : bindE (.t is) (.lst ds) ρ f = if ds.length = is.length ∧ (is.all fun i => decide (i < ρ.length)) = true then f (setAll ρ is ds) else none := nrf _
def outL (o : Option FOut) (avs : List AV) (ρ : Env) : Option (Out (List D)) := match o with
  | some (.ret (.l d) outs) => some (.ok d (putBack ρ avs outs))
  | some (.ex c w outs) => some (.ex c w (putBack ρ avs outs))
  | _ => none
@[simp] theorem outL_l (d : List D) (outs : List Slot) (avs : List AV) (ρ : Env) : outL (some (.ret (.l d) outs)) avs ρ = some (.ok d (putBack ρ avs outs)) := nrf _
@[simp] theorem callLE_def (g : List Slot → Option FOut) (avs : List AV) (ρ : Env) : callLE g avs ρ = if iosOk ρ avs = true then outL (g (slotsOf ρ avs)) avs ρ else none := nrf _
@[simp] theorem iosOk_nil (ρ : Env) : iosOk ρ [] = true := nrf _
@[simp] theorem iosOk_v (ρ : Env) (d : D) (r : List AV) : iosOk ρ (.v d :: r) = iosOk ρ r := nrf _
@[simp] theorem iosOk_io (ρ : Env) (i : Nat) (r : List AV) : iosOk ρ (.io i :: r) = (decide (i ∉ iosOf r) && isOwn (ρ.at i) && iosOk ρ r) := by
  unfold iosOk
  simp only [iosOf, List.nodup_cons, List.all_cons, Bool.decide_and]
  cases decide (i ∉ iosOf r) <;> cases isOwn (ρ.at i) <;> simp
@[simp] theorem iosOf_nil : iosOf [] = [] := nrf _
@[simp] theorem iosOf_v (d : D) (r : List AV) : iosOf (.v d :: r) = iosOf r := nrf _
@[simp] theorem iosOf_io (i : Nat) (r : List AV) : iosOf (.io i :: r) = i :: iosOf r := nrf _
@[simp] theorem isOwn_l (ds : List D) : isOwn (.l ds) = true := nrf _
@[simp] theorem slotsOf_nil (ρ : Env) : slotsOf ρ [] = [] := nrf _
@[simp] theorem slotsOf_v (ρ : Env) (d : D) (r : List AV) : slotsOf ρ (.v d :: r) = .v d :: slotsOf ρ r := nrf _
@[simp] theorem slotsOf_io (ρ : Env) (i : Nat) (r : List AV) : slotsOf ρ (.io i :: r) = ρ.at i :: slotsOf ρ r := nrf _
@[simp] theorem putBack_nil (ρ : Env) (o : List Slot) : putBack ρ [] o = ρ := by unfold putBack; rfl
@[simp] theorem putBack_v (ρ : Env) (d : D) (r : List AV) (s : Slot) (o : List Slot) : putBack ρ (.v d :: r) (s :: o) = putBack ρ r o := by rw [putBack]
@[simp] theorem putBack_io (ρ : Env) (i : Nat) (r : List AV) (s : Slot) (o : List Slot) : putBack ρ (.io i :: r) (s :: o) = putBack (ρ.set i s) r o := by rw [putBack]
@[simp] theorem vals_nil : vals [] = some [] := nrf _
@[simp] theorem vals_v (d : D) (r : List AV) : vals (.v d :: r) = (vals r).map fun ds => d :: ds := nrf _
@[simp] theorem setAll_nil (ρ : Env) (ds : List D) : setAll ρ [] ds = ρ := by unfold setAll; rfl
@[simp] theorem setAll_cons (ρ : Env) (i : Nat) (is : List Nat) (d : D) (ds : List D) : setAll ρ (i :: is) (d :: ds) = setAll (ρ.set i (.v d)) is ds := by rw [setAll]
@[simp] theorem startD_def (d : Def) (avs : List Slot) : startD d avs = avs ++ List.replicate (d.N.length - avs.length) .no := nrf _
@[simp] theorem outsOf_def (io : List Nat) (np : Nat) (ρ : Env) : outsOf io np ρ = (List.range np).map fun k => if k ∈ io then ρ.at k else .no := nrf _
@[simp] theorem range1 : List.range 1 = [0] := nrf _
@[simp] theorem range2 : List.range 2 = [0, 1] := nrf _
@[simp] theorem range3 : List.range 3 = [0, 1, 2] := nrf _
@[simp] theorem range4 : List.range 4 = [0, 1, 2, 3] := nrf _
@[simp] theorem range5 : List.range 5 = [0, 1, 2, 3, 4] := nrf _
@[simp] theorem range6 : List.range 6 = [0, 1, 2, 3, 4, 5] := nrf _
/-- a call that gives data -/
theorem callE_v {g : List Slot → Option FOut} {avs : List AV} {ρ : Env} {d : D} {outs : List Slot} (h1 : iosOk ρ avs = true) (h2 : g (slotsOf ρ avs) = some (.ret (.v d) outs)) : callE g avs ρ = some (.ok d (putBack ρ avs outs)) := by
  unfold callE
  rw [if_pos h1, h2]
  rfl
theorem callLE_l {g : List Slot → Option FOut} {avs : List AV} {ρ : Env} {d : List D} {outs : List Slot} (h1 : iosOk ρ avs = true) (h2 : g (slotsOf ρ avs) = some (.ret (.l d) outs)) : callLE g avs ρ = some (.ok d (putBack ρ avs outs)) := by
  unfold callLE
  rw [if_pos h1, h2]
@[simp] theorem truthy_bl (b : Bool) : truthy (.bl b) = some b := nrf _
@[simp] theorem truthy_int (i : Int) : truthy (.int i) = some (i != 0) := nrf _
@[simp] theorem at_z (s : Slot) (r : Env) : Env.at (s :: r) 0 = s := nrf _
@[simp] theorem at_s (s : Slot) (r : Env) (k : Nat) : Env.at (s :: r) (k + 1) = Env.at r k := at_succ s r k
@[simp] theorem setS_lt {ρ : Env} {i : Nat} {s : Slot} (h : i < ρ.length) : setS ρ i s = some (.nx (ρ.set i s)) := if_pos h
@[simp] theorem bindS_lt {ρ : Env} {i : Nat} {s : Slot} {f : Env → Option SOut} (h : i < ρ.length) : bindS ρ i s f = f (ρ.set i s) := if_pos h
@[simp] theorem finish_ex (d : Def) (c : Nat) (w : List (Str × D)) (ρ : Env) : VI.finish d (some (.ex c w ρ)) = some (.ex c w (outsOf d.io d.np ρ)) := nrf _
@[simp] theorem outE_x (c : Nat) (w : List (Str × D)) (outs : List Slot) (avs : List AV) (ρ : Env) : outE (some (.ex c w outs)) avs ρ = some (.ex c w (putBack ρ avs outs)) := nrf _
@[simp] theorem outL_x (c : Nat) (w : List (Str × D)) (outs : List Slot) (avs : List AV) (ρ : Env) : outL (some (.ex c w outs)) avs ρ = some (.ex c w (putBack ρ avs outs)) := nrf _
@[simp] theorem noX_nx (r : Env) : noX (some (.nx r)) = some (.nx r) := nrf _
@[simp] theorem noX_ret (s : Slot) (r : Env) : noX (some (.ret s r)) = some (.ret s r) := nrf _
@[simp] theorem gone_nx (i : Nat) (r : Env) : goneX i (.nx r) = .nx (r.set i .no) := nrf _
@[simp] theorem gone_ret (i : Nat) (s : Slot) (r : Env) : goneX i (.ret s r) = .ret s (r.set i .no) := nrf _
@[simp] theorem hitX_own (c d : Nat) : hitX c (.own d) = (c == d) := nrf _
@[simp] theorem hitX_sup (c : Nat) (x : Str) : hitX c (.sup x) = true := nrf _
@[simp] theorem xfE_some (i j c : Nat) (w : List (Str × D)) (f : Str) (ρ : Env) : xfE (some (j, c, w)) i f ρ = if i = j then ok1 (w.lookup f) ρ else none := nrf _
@[simp] theorem xisE_some (i j c : Nat) (w : List (Str × D)) (ts : List XT) (ρ : Env) : xisE (some (j, c, w)) i ts ρ = if i = j then some (.ok (.bl (ts.any (hitX c))) ρ) else none := nrf _
end VI
set_option maxHeartbeats 2000000
/-! the head's run, in parts: each part is one look of the kernel's, so that none of them asks for too much memory. -/
namespace VI
open PySem PySem.W HandSHeadRun He
abbrev KX (n : Nat) (s : SharedT) : PySem.W.Frag := frG (HandSHeadRun.getT s) (asD (HandSHeadRun.getT s) n ++ [cStatics])
theorem runI_parts {r : OpenRow} {q : Program} {n : Nat} {fa : List Fa} {fn : List DefD} {ex : PySem.W.Frag → Bool} {M : Nat} {loose : List PySem.Str} {w : World} {Z : Option (Shared × SharedT)} (hZ : wholeF (fun p => stepQ (denQ tabQ) p w) fenceQ M r.prog = Z)
    (h1 : Z.map (fun x => (looksF r.prog x.1.heap x.2.abs, seenQ q loose (importedModules r.prog.main.body) (fun s => xlAt q [] s && recOk r.toRowW.records s) x.2.abs)) = some (true, openGood q loose))
    (h2 : Z.map (fun x => fa.all fun f => f.ok (KX n x.2)) = some true)
    (h3 : Z.map (fun x => fn.all fun d => d.ok (KX n x.2)) = some true)
    (h4 : Z.map (fun x => ex (KX n x.2)) = some true)
    (h5 : Z.map (fun x => fn.map fun d => fnW (KX n x.2) d.at_) = some (fn.map DefD.val)) :
    RunEqI r q (hookX n fa fn ex) (fun s => obsXG n fa fn ex (HandSHeadRun.getT s)) M loose w := by
  unfold RunEqI
  rw [hZ]
  cases Z with
  | none => cases h1
  | some x =>
    have e1 := Option.some.inj h1
    have e2 : (fa.all fun f => f.ok (KX n x.2)) = true := Option.some.inj h2
    have e3 : (fn.all fun d => d.ok (KX n x.2)) = true := Option.some.inj h3
    have e4 : ex (KX n x.2) = true := Option.some.inj h4
    have e5 : (fn.map fun d => fnW (KX n x.2) d.at_) = fn.map DefD.val := Option.some.inj h5
    obtain ⟨e6, e7⟩ := Prod.mk.inj e1
    refine congrArg some ?_
    refine Prod.ext e6 (Prod.ext e7 ?_)
    show (((fa.all fun f => f.ok (KX n x.2)) && (fn.all fun d => d.ok (KX n x.2)) && ex (KX n x.2), fn.map fun d => fnW (KX n x.2) d.at_) : AlD) = (true, fn.map DefD.val)
    rw [e2, e3, e4, e5]
    rfl
end VI
set_option maxHeartbeats 2000000
/-! Plain ground: rows of numbers, loops, comprehensions, of any law. -/
namespace VI
open PySem L2
abbrev iL (l : List Int) : List D := l.map D.int
abbrev nL (l : List Nat) : List D := l.map fun (k : Nat) => D.int (k : Int)
theorem nL_iL (l : List Nat) : nL l = iL (l.map fun (k : Nat) => (k : Int)) := by
  unfold nL iL
  rw [List.map_map]
  rfl
@[simp] theorem isTDD_non (ts : List Ty) : isTDD ts .non = some (.bl (ts.any fun t => isTy .non t)) := rfl
@[simp] theorem isTDD_str (ts : List Ty) (z : Str) : isTDD ts (.str z) = some (.bl (ts.any fun t => isTy (.str z) t)) := rfl
/-! equal, in -/
theorem toPys_ints (l : List Int) : toPys (iL l) = some (l.map PyData.int) := by
  induction l with
  | nil => rfl
  | cons a l ih =>
    show toPys (.int a :: iL l) = _
    unfold toPys
    rw [ih]
    rfl
theorem canLay_ints (l : List Int) : PyData.canLayAll0 (l.map PyData.int) = true := by
  induction l with
  | nil => rfl
  | cons a l ih => show (true && PyData.canLayAll0 (l.map PyData.int)) = true; rw [ih]; rfl
theorem depth_ints (l : List Int) : PyData.depthAll (l.map PyData.int) = 0 := by
  induction l with
  | nil => rfl
  | cons a l ih => show max 0 (PyData.depthAll (l.map PyData.int)) = 0; rw [ih]; rfl
theorem shaped_lst (l : List Int) : SeqAt.shaped (.list (l.map PyData.int)) = true := by
  unfold SeqAt.shaped
  rw [show PyData.canLay0 (.list (l.map PyData.int)) = true from canLay_ints l, show PyData.depth (.list (l.map PyData.int)) = 1 from congrArg (· + 1) (depth_ints l)]
  rfl
theorem shaped_tup (l : List Int) : SeqAt.shaped (.tuple (l.map PyData.int)) = true := by
  unfold SeqAt.shaped
  rw [show PyData.canLay0 (.tuple (l.map PyData.int)) = true from canLay_ints l, show PyData.depth (.tuple (l.map PyData.int)) = 1 from congrArg (· + 1) (depth_ints l)]
  rfl
theorem eqv_ints : ∀ a b : List Int, PyData.eqvAll (a.map PyData.int) (b.map PyData.int) = decide (a = b)
  | [], [] => rfl
  | [], _ :: _ => rfl
  | _ :: _, [] => rfl
  | x :: a, y :: b => by
    show (x == y && PyData.eqvAll (a.map PyData.int) (b.map PyData.int)) = _
    rw [eqv_ints a b]
    by_cases h : x = y <;> by_cases h2 : a = b <;> simp [h, h2]
theorem toPy_lst (l : List Int) : toPy (.lst (iL l)) = some (.list (l.map PyData.int)) := by
  unfold toPy
  rw [toPys_ints]
  rfl
theorem toPy_tup (l : List Int) : toPy (.tup (iL l)) = some (.tuple (l.map PyData.int)) := by
  unfold toPy
  rw [toPys_ints]
  rfl
theorem eqD_lst (a b : List Int) : eqD (.lst (iL a)) (.lst (iL b)) = some (decide (a = b)) := by
  unfold eqD
  rw [toPy_lst, toPy_lst]
  show (if SeqAt.shaped (.list (a.map PyData.int)) = true ∧ SeqAt.shaped (.list (b.map PyData.int)) = true then some (PyData.eqvAll (a.map PyData.int) (b.map PyData.int)) else none) = _
  rw [if_pos ⟨shaped_lst a, shaped_lst b⟩, eqv_ints]
theorem eqD_tup (a b : List Int) : eqD (.tup (iL a)) (.tup (iL b)) = some (decide (a = b)) := by
  unfold eqD
  rw [toPy_tup, toPy_tup]
  show (if SeqAt.shaped (.tuple (a.map PyData.int)) = true ∧ SeqAt.shaped (.tuple (b.map PyData.int)) = true then some (PyData.eqvAll (a.map PyData.int) (b.map PyData.int)) else none) = _
  rw [if_pos ⟨shaped_tup a, shaped_tup b⟩, eqv_ints]
theorem any_eqv (i : Int) (l : List Int) : ((l.map PyData.int).any fun z => PyData.eqv z (.int i)) = decide (i ∈ l) := by
  induction l with
  | nil => rfl
  | cons a l ih =>
    show (a == i || (l.map PyData.int).any fun z => PyData.eqv z (.int i)) = _
    rw [ih]
    by_cases h : a = i
    · subst h; simp
    · have : i ≠ a := fun z => h z.symm
      by_cases h2 : i ∈ l <;> simp [h, h2, this]
theorem innB_lst (i : Int) (l : List Int) : innB (.int i) (.lst (iL l)) = some (decide (i ∈ l)) := by
  show ((toPy (.int i)).bind fun p => (toPys (iL l)).bind fun qs => if SeqAt.shaped p = true ∧ SeqAt.shaped (.list qs) = true then some (qs.any fun z => PyData.eqv z p) else none) = _
  rw [toPys_ints]
  show (if SeqAt.shaped (.int i) = true ∧ SeqAt.shaped (.list (l.map PyData.int)) = true then some ((l.map PyData.int).any fun z => PyData.eqv z (.int i)) else none) = _
  rw [if_pos ⟨rfl, shaped_lst l⟩, any_eqv]
theorem inScal_ints (i : Int) (l : List Int) : inScal (.int i) (iL l) = decide (i ∈ l) := by
  induction l with
  | nil => rfl
  | cons a l ih =>
    show (a == i || inScal (.int i) (iL l)) = _
    rw [ih]
    by_cases h : a = i
    · subst h; simp
    · have : i ≠ a := fun z => h z.symm
      by_cases h2 : i ∈ l <;> simp [h, h2, this]
theorem isScal_ints (l : List Int) : (iL l).all isScal = true := by
  rw [List.all_eq_true]
  intro d hd
  obtain ⟨i, _, rfl⟩ := List.mem_map.mp hd
  rfl
theorem innB_tup (i : Int) (l : List Int) : innB (.int i) (.tup (iL l)) = some (decide (i ∈ l)) := by
  show (if isScal (.int i) = true ∧ (iL l).all isScal = true then some (inScal (.int i) (iL l)) else none) = _
  rw [if_pos ⟨rfl, isScal_ints l⟩, inScal_ints]
theorem innD_lst (ne : Bool) (i : Int) (l : List Int) : innD ne (.int i) (.lst (iL l)) = some (.bl (if ne then !decide (i ∈ l) else decide (i ∈ l))) := by
  unfold innD
  rw [innB_lst]
  rfl
theorem innD_tup (ne : Bool) (i : Int) (l : List Int) : innD ne (.int i) (.tup (iL l)) = some (.bl (if ne then !decide (i ∈ l) else decide (i ∈ l))) := by
  unfold innD
  rw [innB_tup]
  rfl
/-! sorted, any, min -/
theorem allOf_iL (l : List Int) : allOf intOf (iL l) = some l := by
  induction l with
  | nil => rfl
  | cons a l ih =>
    show (some a).bind (fun a => (allOf intOf (iL l)).map fun r => a :: r) = _
    rw [ih]
    rfl
theorem sortD_iL (l : List Int) : sortD (.lst (iL l)) = some (iL (l.mergeSort fun a b => decide (a ≤ b))) := by
  show (match allOf intOf (iL l) with
      | some ns => some ((ns.mergeSort fun a b => decide (a ≤ b)).map D.int)
      | none => (allOf pairOf (iL l)).map fun (ps : List (Int × Int)) => (ps.mergeSort lePair).map pairD) = _
  rw [allOf_iL]
theorem allOf_bls (l : List Bool) : allOf blOf (l.map D.bl) = some l := by
  induction l with
  | nil => rfl
  | cons a l ih =>
    show (some a).bind (fun a => (allOf blOf (l.map D.bl)).map fun r => a :: r) = _
    rw [ih]
    rfl
theorem un_any (l : List Bool) : unD .any (.lst (l.map D.bl)) = some (.bl (l.any id)) := by
  show (allOf blOf (l.map D.bl)).map (fun ns => D.bl (ns.any id)) = _
  rw [allOf_bls]
  rfl
theorem un_all (l : List Bool) : unD .all (.lst (l.map D.bl)) = some (.bl (l.all id)) := by
  show (allOf blOf (l.map D.bl)).map (fun ns => D.bl (ns.all id)) = _
  rw [allOf_bls]
  rfl
theorem un_mn (a : Int) (l : List Int) : unD .mn (.lst (iL (a :: l))) = some (.int (l.foldl (fun m x => if x < m then x else m) a)) := by
  show ((allOf intOf (iL (a :: l))).bind fun ns => (mnI ns).map D.int) = _
  rw [allOf_iL]
  rfl
theorem un_sum (l : List Int) : unD .sum (.lst (iL l)) = some (.int l.sum) := by
  show (allOf intOf (iL l)).map (fun ns => D.int ns.sum) = _
  rw [allOf_iL]
  rfl
theorem pairOf_pair (p : Int × Int) : pairOf (pairD p) = some p := rfl
theorem allOf_pairs (l : List (Int × Int)) : allOf pairOf (l.map pairD) = some l := by
  induction l with
  | nil => rfl
  | cons a l ih =>
    show (some a).bind (fun a => (allOf pairOf (l.map pairD)).map fun r => a :: r) = _
    rw [ih]
    rfl
theorem sortD_pairs (l : List (Int × Int)) : sortD (.lst (l.map pairD)) = some ((l.mergeSort lePair).map pairD) := by
  cases l with
  | nil => simp [sortD, allOf]
  | cons p l =>
    show (match allOf intOf ((p :: l).map pairD) with
      | some ns => some ((ns.mergeSort fun a b => decide (a ≤ b)).map D.int)
      | none => (allOf pairOf ((p :: l).map pairD)).map fun (ps : List (Int × Int)) => (ps.mergeSort lePair).map pairD) = _
    rw [show allOf intOf ((p :: l).map pairD) = none from rfl, allOf_pairs]
    rfl
/-! ranges, places -/
theorem okR_nat {n : Nat} (h : n < 2 ^ 62) : okR (n : Int) = true := by
  unfold okR
  exact decide_eq_true ⟨by omega, by omega⟩
theorem rngD_nat (n : Nat) : rngD 0 1 n = nL (List.range n) := by
  unfold rngD nL
  refine List.map_congr_left fun k _ => ?_
  rw [Int.mul_one, Int.zero_add]
theorem rng1D_nat {n : Nat} (h : n < 2 ^ 62) : rng1D (.int n) = some (nL (List.range n)) := by
  show (if okR (n : Int) = true then some (rngD 0 1 (n : Int).toNat) else none) = _
  rw [if_pos (okR_nat h), Int.toNat_natCast, rngD_nat]
theorem rng2D_nat {a n : Nat} (h : a + n < 2 ^ 62) : rng2D (.int a) (.int ((a + n : Nat) : Int)) = some (nL (List.range' a n)) := by
  show (if okR (a : Int) = true ∧ okR ((a + n : Nat) : Int) = true then some (rngD a 1 (((a + n : Nat) : Int) - a).toNat) else none) = _
  rw [if_pos ⟨okR_nat (by omega), okR_nat h⟩]
  have e : (((a + n : Nat) : Int) - a).toNat = n := by omega
  rw [e]
  unfold rngD nL
  rw [List.range'_eq_map_range, List.map_map]
  refine congrArg some (List.map_congr_left fun k _ => ?_)
  show D.int ((a : Int) + (k : Int) * 1) = D.int ((a + k : Nat) : Int)
  rw [Int.mul_one]
  rfl
theorem ixN_nat {n j : Nat} (h : j < n) : ixN n (j : Int) = some j := by
  unfold ixN
  rw [if_pos (by omega), if_pos (by omega), Int.toNat_natCast]
theorem atI_map {α : Type} {f : α → D} {l : List α} {j : Nat} {a : α} (h : l[j]? = some a) : atI (l.map f) (j : Int) = some (f a) := atI_nat (by rw [List.getElem?_map, h]; rfl)
theorem atI_at {l : List D} {j : Nat} (h : j < l.length) : atI l (j : Int) = some l[j] := atI_nat (List.getElem?_eq_getElem h)
theorem getIS_nat {i j : Nat} {ρ : Env} {ds : List D} {d : D} (q : ρ.at i = .l ds) (h : ds[j]? = some d) : getIS i (.int j) ρ = some d := by
  unfold getIS
  rw [q]
  exact atI_nat h
theorem setIS_nat {i j : Nat} {d : D} {ρ : Env} {ds : List D} (q : ρ.at i = .l ds) (h : j < ds.length) : setIS i (.int j) d ρ = some (.nx (ρ.set i (.l (ds.set j d)))) := by
  unfold setIS
  rw [q]
  show (match ixN ds.length (j : Int) with | some j => some (SOut.nx (ρ.set i (.l (ds.set j d)))) | none => none) = _
  rw [ixN_nat h]
theorem celAt_nat {i j : Nat} {ρ : Env} {cs : List Cel} {es : List D} (q : ρ.at i = .t cs) (h : cs[j]? = some (.l es)) : celAt i (.int j) ρ = some (j, es) := by
  unfold celAt
  rw [q]
  show (match ixN cs.length (j : Int) with | some j => (match cs[j]? with | some (.l es) => some (j, es) | _ => none) | none => none) = _
  rw [ixN_nat (List.getElem?_eq_some_iff.mp h).1]
  show (match cs[j]? with | some (Cel.l es) => some (j, es) | _ => none) = _
  rw [h]
/-! loops -/
theorem loop_inv {f : D → Env → Option SOut} (Inv : Nat → Env → Prop) : ∀ (ds : List D) (k : Nat) (ρ : Env), Inv k ρ →
    (∀ j d ρ, ds[j]? = some d → Inv (k + j) ρ → ∃ ρ', (f d ρ = some (.nx ρ') ∨ f d ρ = some (.ct ρ')) ∧ Inv (k + j + 1) ρ') → ∃ ρ', loopS f ds ρ = some (.nx ρ') ∧ Inv (k + ds.length) ρ'
  | [], k, ρ, h, _ => ⟨ρ, rfl, h⟩
  | d :: ds, k, ρ, h, hs => by
    obtain ⟨ρ1, h1, h2⟩ := hs 0 d ρ rfl h
    obtain ⟨ρ2, h3, h4⟩ := loop_inv Inv ds (k + 1) ρ1 h2 fun j d ρ hd hi => by
      have e : k + 1 + j = k + (j + 1) := by omega
      rw [e] at hi
      obtain ⟨ρ', g1, g2⟩ := hs (j + 1) d ρ (by simpa using hd) hi
      exact ⟨ρ', g1, by rw [e]; exact g2⟩
    refine ⟨ρ2, ?_, by rw [List.length_cons, show k + (ds.length + 1) = k + 1 + ds.length by omega]; exact h4⟩
    unfold loopS
    rcases h1 with h1 | h1 <;> rw [h1] <;> exact h3
/-- a loop, and where it leaves the def -/
theorem loop_ret {f : D → Env → Option SOut} (Inv : Nat → Env → Prop) (Rt : Slot → Env → Prop) : ∀ (ds : List D) (k : Nat) (ρ : Env), Inv k ρ →
    (∀ j d ρ, ds[j]? = some d → Inv (k + j) ρ → (∃ ρ', (f d ρ = some (.nx ρ') ∨ f d ρ = some (.ct ρ')) ∧ Inv (k + j + 1) ρ') ∨ ∃ r ρ', f d ρ = some (.ret r ρ') ∧ Rt r ρ') →
    (∃ ρ', loopS f ds ρ = some (.nx ρ') ∧ Inv (k + ds.length) ρ') ∨ ∃ r ρ', loopS f ds ρ = some (.ret r ρ') ∧ Rt r ρ'
  | [], k, ρ, h, _ => .inl ⟨ρ, rfl, h⟩
  | d :: ds, k, ρ, h, hs => by
    rcases hs 0 d ρ rfl h with ⟨ρ1, h1, h2⟩ | ⟨r, ρ', h1, h2⟩
    · rcases loop_ret Inv Rt ds (k + 1) ρ1 h2 (fun j d ρ hd hi => by
        have e : k + 1 + j = k + (j + 1) := by omega
        rw [e] at hi
        rcases hs (j + 1) d ρ (by simpa using hd) hi with ⟨ρ', g1, g2⟩ | g
        · exact .inl ⟨ρ', g1, by rw [e]; exact g2⟩
        · exact .inr g) with ⟨ρ2, h3, h4⟩ | ⟨r, ρ', h3, h4⟩
      · refine .inl ⟨ρ2, ?_, by rw [List.length_cons, show k + (ds.length + 1) = k + 1 + ds.length by omega]; exact h4⟩
        unfold loopS
        rcases h1 with h1 | h1 <;> rw [h1] <;> exact h3
      · refine .inr ⟨r, ρ', ?_, h4⟩
        unfold loopS
        rcases h1 with h1 | h1 <;> rw [h1] <;> exact h3
    · refine .inr ⟨r, ρ', ?_, h2⟩
      unfold loopS
      rw [h1]
theorem while_inv {c : Env → Option (Out Bool)} {f : Env → Option SOut} (Inv Done : Env → Prop) (μ : Env → Nat)
    (hs : ∀ ρ, Inv ρ → (∃ ρ', c ρ = some (.ok false ρ') ∧ Done ρ') ∨ ∃ ρ1 ρ2, c ρ = some (.ok true ρ1) ∧ (f ρ1 = some (.nx ρ2) ∨ f ρ1 = some (.ct ρ2)) ∧ Inv ρ2 ∧ μ ρ2 < μ ρ) : ∀ (fu : Nat) (ρ : Env), Inv ρ → μ ρ < fu → ∃ ρ', whileS c f fu ρ = some (.nx ρ') ∧ Done ρ'
  | 0, ρ, _, h => absurd h (Nat.not_lt_zero _)
  | fu + 1, ρ, hi, h => by
    rcases hs ρ hi with ⟨ρ', h1, h2⟩ | ⟨ρ1, ρ2, h1, h2, h3, h4⟩
    · refine ⟨ρ', ?_, h2⟩
      rw [whileS, h1]
      rfl
    · obtain ⟨ρ', h5, h6⟩ := while_inv Inv Done μ hs fu ρ2 h3 (by omega)
      refine ⟨ρ', ?_, h6⟩
      rw [whileS, h1]
      show (match f ρ1 with
        | some (.nx ρ') => whileS c f fu ρ'
        | some (.ct ρ') => whileS c f fu ρ'
        | some (.bk ρ') => some (.nx ρ')
        | o => o) = _
      rcases h2 with h2 | h2 <;> rw [h2] <;> exact h5
@[simp] theorem testL_of {i : Nat} {ρ : Env} {ds : List D} (q : ρ.at i = .l ds) : testL i ρ = some (.ok (!ds.isEmpty) ρ) := by
  unfold testL
  rw [q]
/-! comprehensions -/
theorem env_ext {a b : Env} (hl : a.length = b.length) (h : ∀ j, a.at j = b.at j) : a = b := by
  refine List.ext_getElem hl fun j h1 h2 => ?_
  have z := h j
  unfold Env.at at z
  rw [List.getD_eq_getElem?_getD, List.getD_eq_getElem?_getD, List.getElem?_eq_getElem h1, List.getElem?_eq_getElem h2] at z
  exact z
theorem back_wipe (ρ : Env) (own : List Nat) : backE ρ (wipeE ρ own) own = ρ := by
  refine env_ext (by rw [backE_len, wipeE_len]) fun j => ?_
  rw [backE_at ρ _ (wipeE_len ρ own).symm, wipeE_at]
  split <;> rfl
theorem lcS_map {g : D → Env → Option (Out (Option D))} {own : List Nat} {ρ0 : Env} (F : D → D) : ∀ (ds acc : List D), (∀ d ∈ ds, ∃ ρ', g d ρ0 = some (.ok (some (F d)) ρ') ∧ wipeE ρ' own = ρ0) → acc.length + ds.length ≤ sizeLine → lcS g own ds acc ρ0 = some (acc ++ ds.map F, ρ0)
  | [], acc, _, _ => by unfold lcS; rw [List.map_nil, List.append_nil]
  | d :: ds, acc, h, hz => by
    obtain ⟨ρ', h1, h2⟩ := h d List.mem_cons_self
    rw [List.length_cons] at hz
    unfold lcS
    rw [h1]
    show (if acc.length < sizeLine then lcS g own ds (acc ++ [F d]) (wipeE ρ' own) else none) = _
    rw [if_pos (by omega), h2, lcS_map F ds (acc ++ [F d]) (fun d hd => h d (List.mem_cons_of_mem _ hd)) (by rw [List.length_append, List.length_singleton]; omega), List.append_assoc]
    rfl
theorem lcS_fil {g : D → Env → Option (Out (Option D))} {own : List Nat} {ρ0 : Env} (F : D → Option D) : ∀ (ds acc : List D), (∀ d ∈ ds, ∃ ρ', g d ρ0 = some (.ok (F d) ρ') ∧ wipeE ρ' own = ρ0) → acc.length + ds.length ≤ sizeLine → lcS g own ds acc ρ0 = some (acc ++ ds.filterMap F, ρ0)
  | [], acc, _, _ => by unfold lcS; rw [List.filterMap_nil, List.append_nil]
  | d :: ds, acc, h, hz => by
    obtain ⟨ρ', h1, h2⟩ := h d List.mem_cons_self
    rw [List.length_cons] at hz
    unfold lcS
    rw [h1]
    cases q : F d with
    | none =>
      show lcS g own ds acc (wipeE ρ' own) = _
      rw [h2, lcS_fil F ds acc (fun d hd => h d (List.mem_cons_of_mem _ hd)) (by omega), List.filterMap_cons, q]
    | some x =>
      show (if acc.length < sizeLine then lcS g own ds (acc ++ [x]) (wipeE ρ' own) else none) = _
      rw [if_pos (by omega), h2, lcS_fil F ds (acc ++ [x]) (fun d hd => h d (List.mem_cons_of_mem _ hd)) (by rw [List.length_append, List.length_singleton]; omega), List.append_assoc, List.filterMap_cons, q]
      rfl
theorem lc_map {g : D → Env → Option (Out (Option D))} {own : List Nat} {ρ : Env} {ds : List D} (F : D → D) (ho : (own.all fun i => !isOwn (ρ.at i)) = true) (h : ∀ d ∈ ds, ∃ ρ', g d (wipeE ρ own) = some (.ok (some (F d)) ρ') ∧ wipeE ρ' own = wipeE ρ own) (hz : ds.length ≤ sizeLine) :
    lcE own g ds ρ = some (.ok (ds.map F) ρ) := by
  unfold lcE
  rw [if_pos ho, lcS_map F ds [] h (by rw [List.length_nil]; omega)]
  show some (Out.ok ([] ++ ds.map F) (backE ρ (wipeE ρ own) own)) = _
  rw [back_wipe, List.nil_append]
theorem lc_fil {g : D → Env → Option (Out (Option D))} {own : List Nat} {ρ : Env} {ds : List D} (F : D → Option D) (ho : (own.all fun i => !isOwn (ρ.at i)) = true) (h : ∀ d ∈ ds, ∃ ρ', g d (wipeE ρ own) = some (.ok (F d) ρ') ∧ wipeE ρ' own = wipeE ρ own) (hz : ds.length ≤ sizeLine) :
    lcE own g ds ρ = some (.ok (ds.filterMap F) ρ) := by
  unfold lcE
  rw [if_pos ho, lcS_fil F ds [] h (by rw [List.length_nil]; omega)]
  show some (Out.ok ([] ++ ds.filterMap F) (backE ρ (wipeE ρ own) own)) = _
  rw [back_wipe, List.nil_append]
theorem lcT_map {g : D → Env → Option (Out (List D))} {own : List Nat} {ρ0 : Env} (F : D → List D) : ∀ (ds : List D) (acc : List Cel), (∀ d ∈ ds, ∃ ρ', g d ρ0 = some (.ok (F d) ρ') ∧ wipeE ρ' own = ρ0) → acc.length + ds.length ≤ sizeLine → lcT g own ds acc ρ0 = some (acc ++ ds.map fun d => .l (F d), ρ0)
  | [], acc, _, _ => by unfold lcT; rw [List.map_nil, List.append_nil]
  | d :: ds, acc, h, hz => by
    obtain ⟨ρ', h1, h2⟩ := h d List.mem_cons_self
    rw [List.length_cons] at hz
    unfold lcT
    rw [h1]
    show (if acc.length < sizeLine then lcT g own ds (acc ++ [.l (F d)]) (wipeE ρ' own) else none) = _
    rw [if_pos (by omega), h2, lcT_map F ds (acc ++ [Cel.l (F d)]) (fun d hd => h d (List.mem_cons_of_mem _ hd)) (by rw [List.length_append, List.length_singleton]; omega), List.append_assoc]
    rfl
theorem lcN_map {g : D → Env → Option (Out (List D))} {own : List Nat} {ρ : Env} {ds : List D} (F : D → List D) (ho : (own.all fun i => !isOwn (ρ.at i)) = true) (h : ∀ d ∈ ds, ∃ ρ', g d (wipeE ρ own) = some (.ok (F d) ρ') ∧ wipeE ρ' own = wipeE ρ own) (hz : ds.length ≤ sizeLine) :
    lcN own g ds ρ = some (.ok (ds.map fun d => .l (F d)) ρ) := by
  unfold lcN
  rw [if_pos ho, lcT_map F ds [] h (by rw [List.length_nil]; omega)]
  show some (Out.ok ([] ++ ds.map fun d => Cel.l (F d)) (backE ρ (wipeE ρ own) own)) = _
  rw [back_wipe, List.nil_append]
/-- .. that changes what the frame owns -/
theorem lcS_inv {g : D → Env → Option (Out (Option D))} {own : List Nat} (Inv : List D → Env → Prop) : ∀ (ds acc : List D) (ρ : Env), Inv acc ρ → (∀ d acc ρ, d ∈ ds → Inv acc ρ → ∃ x ρ', g d ρ = some (.ok (some x) ρ') ∧ Inv (acc ++ [x]) (wipeE ρ' own)) → acc.length + ds.length ≤ sizeLine →
    ∃ acc' ρ', lcS g own ds acc ρ = some (acc', ρ') ∧ Inv acc' ρ' ∧ acc'.length = acc.length + ds.length
  | [], acc, ρ, h, _, _ => ⟨acc, ρ, by unfold lcS; rfl, h, by simp⟩
  | d :: ds, acc, ρ, h, hs, hz => by
    obtain ⟨x, ρ', h1, h2⟩ := hs d acc ρ List.mem_cons_self h
    rw [List.length_cons] at hz
    obtain ⟨acc', ρ2, h3, h4, h5⟩ := lcS_inv Inv ds (acc ++ [x]) _ h2 (fun d acc ρ hd hi => hs d acc ρ (List.mem_cons_of_mem _ hd) hi) (by rw [List.length_append, List.length_singleton]; omega)
    refine ⟨acc', ρ2, ?_, h4, by rw [h5]; simp; omega⟩
    unfold lcS
    rw [h1]
    show (if acc.length < sizeLine then lcS g own ds (acc ++ [x]) (wipeE ρ' own) else none) = _
    rw [if_pos (by omega)]
    exact h3
theorem sub_line {n : Nat} (h : n ≤ 100000) : n ≤ sizeLine := le_line h
/-! what a run comes to, by what is asked of it -/
def WS (o : Option SOut) (P : SOut → Prop) : Prop := ∃ s, o = some s ∧ P s
def WO {α : Type} (o : Option (Out α)) (P : α → Env → Prop) : Prop := ∃ d ρ, o = some (.ok d ρ) ∧ P d ρ
def nxP (f : Env → Prop) (P : SOut → Prop) : SOut → Prop
  | .nx ρ => f ρ
  | s => P s
def loopP (I B : Env → Prop) (P : SOut → Prop) : SOut → Prop
  | .nx ρ => I ρ
  | .ct ρ => I ρ
  | .bk ρ => B ρ
  | s => P s
@[simp] theorem WS_some (s : SOut) (P : SOut → Prop) : WS (some s) P ↔ P s := ⟨fun ⟨_, h, p⟩ => by cases h; exact p, fun p => ⟨s, rfl, p⟩⟩
@[simp] theorem WO_some {α : Type} (d : α) (ρ : Env) (P : α → Env → Prop) : WO (some (.ok d ρ)) P ↔ P d ρ := ⟨fun ⟨_, _, h, p⟩ => by cases h; exact p, fun p => ⟨d, ρ, rfl, p⟩⟩
@[simp] theorem nxP_nx (f : Env → Prop) (P : SOut → Prop) (ρ : Env) : nxP f P (.nx ρ) = f ρ := rfl
@[simp] theorem nxP_ret (f : Env → Prop) (P : SOut → Prop) (r : Slot) (ρ : Env) : nxP f P (.ret r ρ) = P (.ret r ρ) := rfl
@[simp] theorem nxP_ex (f : Env → Prop) (P : SOut → Prop) (c : Nat) (w : List (Str × D)) (ρ : Env) : nxP f P (.ex c w ρ) = P (.ex c w ρ) := rfl
@[simp] theorem nxP_bk (f : Env → Prop) (P : SOut → Prop) (ρ : Env) : nxP f P (.bk ρ) = P (.bk ρ) := rfl
@[simp] theorem nxP_ct (f : Env → Prop) (P : SOut → Prop) (ρ : Env) : nxP f P (.ct ρ) = P (.ct ρ) := rfl
@[simp] theorem loopP_nx (I B : Env → Prop) (P : SOut → Prop) (ρ : Env) : loopP I B P (.nx ρ) = I ρ := rfl
@[simp] theorem loopP_ct (I B : Env → Prop) (P : SOut → Prop) (ρ : Env) : loopP I B P (.ct ρ) = I ρ := rfl
@[simp] theorem loopP_bk (I B : Env → Prop) (P : SOut → Prop) (ρ : Env) : loopP I B P (.bk ρ) = B ρ := rfl
@[simp] theorem loopP_ret (I B : Env → Prop) (P : SOut → Prop) (r : Slot) (ρ : Env) : loopP I B P (.ret r ρ) = P (.ret r ρ) := rfl
@[simp] theorem loopP_ex (I B : Env → Prop) (P : SOut → Prop) (c : Nat) (w : List (Str × D)) (ρ : Env) : loopP I B P (.ex c w ρ) = P (.ex c w ρ) := rfl
theorem WS.mono {o : Option SOut} {P Q : SOut → Prop} (h : WS o P) (k : ∀ s, P s → Q s) : WS o Q := by
  obtain ⟨s, e, p⟩ := h
  exact ⟨s, e, k s p⟩
theorem ws_then {m : Option SOut} {g : Env → Option SOut} {P : SOut → Prop} (h : WS m (nxP (fun ρ => WS (g ρ) P) P)) : WS (thenS m g) P := by
  obtain ⟨s, rfl, p⟩ := h
  cases s with
  | nx ρ => exact p
  | _ => exact ⟨_, rfl, p⟩
theorem ws_sbnd {α : Type} {m : Option (Out α)} {f : α → Env → Option SOut} {P : SOut → Prop} (h : WO m fun d ρ => WS (f d ρ) P) : WS (sbnd m f) P := by
  obtain ⟨d, ρ, rfl, p⟩ := h
  exact p
theorem wo_bnd {α β : Type} {m : Option (Out α)} {f : α → Env → Option (Out β)} {P : β → Env → Prop} (h : WO m fun d ρ => WO (f d ρ) P) : WO (bnd m f) P := by
  obtain ⟨d, ρ, rfl, p⟩ := h
  exact p
theorem ws_if {c : Prop} [Decidable c] {a b : Option SOut} {P : SOut → Prop} (h1 : c → WS a P) (h2 : ¬ c → WS b P) : WS (if c then a else b) P := by
  by_cases h : c
  · rw [if_pos h]; exact h1 h
  · rw [if_neg h]; exact h2 h
theorem wo_if {α : Type} {c : Prop} [Decidable c] {a b : Option (Out α)} {P : α → Env → Prop} (h1 : c → WO a P) (h2 : ¬ c → WO b P) : WO (if c then a else b) P := by
  by_cases h : c
  · rw [if_pos h]; exact h1 h
  · rw [if_neg h]; exact h2 h
/-- what stands ahead, told once -/
theorem ws_cut {m : Option SOut} {g : Env → Option SOut} {P : SOut → Prop} (Mid : Env → Prop) (h : WS m (nxP Mid P)) (k : ∀ ρ, Mid ρ → WS (g ρ) P) : WS (thenS m g) P := by
  refine ws_then (h.mono fun s p => ?_)
  cases s with
  | nx ρ => exact k ρ p
  | _ => exact p
theorem ws_loop0 {f : D → Env → Option SOut} {P : SOut → Prop} (Inv : Nat → Env → Prop) : ∀ (ds : List D) (k : Nat) (ρ : Env), Inv k ρ →
    (∀ j d ρ, ds[j]? = some d → Inv (k + j) ρ → WS (f d ρ) (loopP (Inv (k + j + 1)) (fun ρ => P (.nx ρ)) P)) → (∀ ρ, Inv (k + ds.length) ρ → P (.nx ρ)) → WS (loopS f ds ρ) P
  | [], k, ρ, h, _, e => ⟨_, rfl, e ρ h⟩
  | d :: ds, k, ρ, h, hs, e => by
    obtain ⟨s, h1, h2⟩ := hs 0 d ρ rfl h
    have rest : ∀ ρ', Inv (k + 1) ρ' → WS (loopS f ds ρ') P := fun ρ' h' => ws_loop0 Inv ds (k + 1) ρ' h' (fun j d ρ hd hi => by
      have e : k + 1 + j = k + (j + 1) := by omega
      rw [e] at hi ⊢
      exact hs (j + 1) d ρ (by simpa using hd) hi) fun ρ h => e ρ (by rw [List.length_cons, show k + (ds.length + 1) = k + 1 + ds.length by omega]; exact h)
    unfold loopS
    rw [h1]
    cases s with
    | nx ρ' => exact rest ρ' h2
    | ct ρ' => exact rest ρ' h2
    | bk ρ' => exact ⟨_, rfl, h2⟩
    | ret r ρ' => exact ⟨_, rfl, h2⟩
    | ex c w ρ' => exact ⟨_, rfl, h2⟩
theorem ws_loop {f : D → Env → Option SOut} {P : SOut → Prop} {ds : List D} {ρ : Env} {g : Env → Option SOut} (Inv : Nat → Env → Prop) (h0 : Inv 0 ρ)
    (hs : ∀ j d ρ, ds[j]? = some d → Inv j ρ → WS (f d ρ) (loopP (Inv (j + 1)) (fun ρ => WS (g ρ) P) P)) (he : ∀ ρ, Inv ds.length ρ → WS (g ρ) P) : WS (thenS (loopS f ds ρ) g) P := by
  refine ws_then (ws_loop0 Inv ds 0 ρ h0 (fun j d ρ hd hi => ?_) fun ρ h => by rw [Nat.zero_add] at h; exact he ρ h)
  rw [Nat.zero_add] at hi ⊢
  refine (hs j d ρ hd hi).mono fun s p => ?_
  cases s <;> exact p
theorem ws_while {c : Env → Option (Out Bool)} {f : Env → Option SOut} {P : SOut → Prop} {ρ : Env} {fu : Nat} {g : Env → Option SOut} (Inv : Env → Prop) (μ : Env → Nat) (h0 : Inv ρ) (hm : μ ρ < fu)
    (hs : ∀ ρ, Inv ρ → WO (c ρ) fun b ρ1 => if b = true then WS (f ρ1) (loopP (fun ρ2 => Inv ρ2 ∧ μ ρ2 < μ ρ) (fun ρ => WS (g ρ) P) P) else WS (g ρ1) P) : WS (thenS (whileS c f fu ρ) g) P := by
  refine ws_then ?_
  have main : ∀ (fu : Nat) (ρ : Env), Inv ρ → μ ρ < fu → WS (whileS c f fu ρ) (nxP (fun ρ => WS (g ρ) P) P) := by
    intro fu
    induction fu with
    | zero => exact fun ρ _ h => absurd h (Nat.not_lt_zero _)
    | succ fu ih =>
      intro ρ hi h
      obtain ⟨b, ρ1, h1, h2⟩ := hs ρ hi
      rw [whileS, h1]
      cases b with
      | false =>
        rw [if_neg Bool.false_ne_true] at h2
        exact ⟨_, rfl, h2⟩
      | true =>
        rw [if_pos rfl] at h2
        obtain ⟨s, h3, h4⟩ := h2
        show WS (match f ρ1 with
          | some (.nx ρ') => whileS c f fu ρ'
          | some (.ct ρ') => whileS c f fu ρ'
          | some (.bk ρ') => some (.nx ρ')
          | o => o) _
        rw [h3]
        cases s with
        | nx ρ' => exact ih ρ' h4.1 (by have := h4.2; omega)
        | ct ρ' => exact ih ρ' h4.1 (by have := h4.2; omega)
        | bk ρ' => exact ⟨_, rfl, h4⟩
        | ret r ρ' => exact ⟨_, rfl, h4⟩
        | ex c w ρ' => exact ⟨_, rfl, h4⟩
  exact main fu ρ h0 hm
/-- a comprehension that changes what the frame owns -/
theorem wo_lc {f : D → Env → Option (Out (Option D))} {own : List Nat} {ds : List D} {ρ : Env} {P : List D → Env → Prop} (Inv : List D → Env → Prop) (ho : (own.all fun i => !isOwn (ρ.at i)) = true) (h0 : Inv [] (wipeE ρ own)) (hz : ds.length ≤ sizeLine)
    (hs : ∀ d acc ρ, d ∈ ds → Inv acc ρ → WO (f d ρ) fun o ρ' => ∃ x, o = some x ∧ Inv (acc ++ [x]) (wipeE ρ' own)) (he : ∀ acc ρ', acc.length = ds.length → Inv acc ρ' → P acc (backE ρ ρ' own)) : WO (lcE own f ds ρ) P := by
  obtain ⟨acc, ρ', h1, h2, h3⟩ := lcS_inv Inv ds [] (wipeE ρ own) h0 (fun d acc ρ hd hi => by
    obtain ⟨o, ρ', e, x, rfl, h⟩ := hs d acc ρ hd hi
    exact ⟨x, ρ', e, h⟩) (by rw [List.length_nil]; omega)
  unfold lcE
  rw [if_pos ho, h1]
  refine ⟨acc, backE ρ ρ' own, rfl, he acc ρ' ?_ h2⟩
  rw [h3, List.length_nil, Nat.zero_add]
theorem fin_ws {d : Def} {o : Option SOut} {R : Option FOut} (h : WS o fun s => VI.finish d (some s) = R) : VI.finish d o = R := by
  obtain ⟨s, rfl, p⟩ := h
  exact p
theorem fin_ex {α : Sort _} {d : Def} {o : Option SOut} {R : α → Option FOut → Prop} (h : WS o fun s => ∃ x, R x (VI.finish d (some s))) : ∃ x, R x (VI.finish d o) := by
  obtain ⟨s, rfl, p⟩ := h
  exact p
def outP (io : List Nat) (np : Nat) (R : FOut → Prop) : SOut → Prop
  | .nx ρ => R (.ret (.v .non) (outsOf io np ρ))
  | .ret r ρ => R (.ret r (outsOf io np ρ))
  | .ex c w ρ => R (.ex c w (outsOf io np ρ))
  | _ => False
@[simp] theorem outP_nx (io : List Nat) (np : Nat) (R : FOut → Prop) (ρ : Env) : outP io np R (.nx ρ) = R (.ret (.v .non) (outsOf io np ρ)) := rfl
@[simp] theorem outP_ret (io : List Nat) (np : Nat) (R : FOut → Prop) (r : Slot) (ρ : Env) : outP io np R (.ret r ρ) = R (.ret r (outsOf io np ρ)) := rfl
@[simp] theorem outP_ex (io : List Nat) (np : Nat) (R : FOut → Prop) (c : Nat) (w : List (Str × D)) (ρ : Env) : outP io np R (.ex c w ρ) = R (.ex c w (outsOf io np ρ)) := rfl
theorem call_ws {defs : List Def} {fu n f : Nat} {d : Def} {avs : List Slot} {R : FOut → Prop} (hd : defs[f]? = some d) (hok : avsOk d avs = true) (h : WS (evS (callD defs fu n) fu d.body (startD d avs)) (outP d.io d.np R)) : ∃ o, callD defs fu (n + 1) f avs = some o ∧ R o := by
  rw [callD_succ, hd]
  show ∃ o, (if avsOk d avs = true then VI.finish d (evS (callD defs fu n) fu d.body (startD d avs)) else none) = some o ∧ R o
  rw [if_pos hok]
  obtain ⟨s, e, p⟩ := h
  rw [e]
  cases s with
  | nx ρ => exact ⟨_, rfl, p⟩
  | ret r ρ => exact ⟨_, rfl, p⟩
  | ex c w ρ => exact ⟨_, rfl, p⟩
  | bk ρ => exact p.elim
  | ct ρ => exact p.elim
theorem call_eq {defs : List Def} {fu n f : Nat} {d : Def} {avs : List Slot} {o : FOut} (hd : defs[f]? = some d) (hok : avsOk d avs = true) (h : WS (evS (callD defs fu n) fu d.body (startD d avs)) (outP d.io d.np (· = o))) : callD defs fu (n + 1) f avs = some o := by
  obtain ⟨o', e, rfl⟩ := call_ws hd hok h
  exact e
@[simp] theorem thenS_nil (Γ : Gam) (fu : Nat) (m : Option SOut) : thenS m (evS Γ fu .nil) = m := by
  cases m with
  | none => rfl
  | some s => cases s <;> simp
theorem ws_loopE {f : D → Env → Option SOut} {P : SOut → Prop} {ds : List D} {ρ : Env} (Inv : Nat → Env → Prop) (h0 : Inv 0 ρ)
    (hs : ∀ j d ρ, ds[j]? = some d → Inv j ρ → WS (f d ρ) (loopP (Inv (j + 1)) (fun ρ => P (.nx ρ)) P)) (he : ∀ ρ, Inv ds.length ρ → P (.nx ρ)) : WS (loopS f ds ρ) P := by
  refine ws_loop0 Inv ds 0 ρ h0 (fun j d ρ hd hi => ?_) fun ρ h => by rw [Nat.zero_add] at h; exact he ρ h
  rw [Nat.zero_add] at hi ⊢
  exact hs j d ρ hd hi
/-- one statement, then the others; what stands between -/
theorem ws_mid {Γ : Gam} {fu : Nat} {a b : S} {ρ : Env} {P : SOut → Prop} (Mid : Env → Prop) (h1 : WS (evS Γ fu a ρ) (nxP Mid P)) (h2 : ∀ ρ, Mid ρ → WS (evS Γ fu b ρ) P) : WS (evS Γ fu (.seq a b) ρ) P := by
  rw [evS_seq]
  exact ws_cut Mid h1 h2
theorem ws_body {Γ : Gam} {fu i : Nat} {b : S} {d : D} {ρ : Env} {P : SOut → Prop} (hi : i < ρ.length) (h : WS (evS Γ fu b (ρ.set i (.v d))) P) : WS (kBody Γ fu (.n i) b d ρ) P := by
  rw [kBody_def, bindE_n hi]
  exact h
theorem set_back {ρ : Env} {i : Nat} (h : i < ρ.length) : (ρ.set i .no).set i (ρ.at i) = ρ := by
  refine env_ext (by simp) fun j => ?_
  have h2 : i < (ρ.set i .no).length := by rw [List.length_set]; exact h
  rw [at_set h2, at_set h]
  by_cases e : j = i
  · rw [if_pos e, e]
  · rw [if_neg e, if_neg e]
theorem step_appP {Γ : Gam} {fu i j : Nat} {k e : E} {ρ : Env} {cs : List Cel} {es : List D} {d : D} (q : ρ.at i = .t cs) (hk : evE Γ k ρ = some (.ok (.int j) ρ)) (hc : cs[j]? = some (.l es)) (he : evE Γ e (ρ.set i .no) = some (.ok d (ρ.set i .no))) (hz : es.length < sizeLine) :
    evS Γ fu (.appP i k e) ρ = some (.nx (ρ.set i (.t (cs.set j (.l (es ++ [d])))))) := by
  have hi : i < ρ.length := at_lt (by rw [q]; exact fun w => nomatch w)
  rw [evS_appP, q, if_pos (show isOwn (Slot.t cs) = true from rfl), hk, sbnd_ok, kAppP_of Γ ρ (celAt_nat q hc), he, sbnd_ok, kAppP2_def, if_pos hz, set_back hi]
  unfold setC
  rw [q]
@[simp] theorem testL_l {ρ : Env} {i : Nat} : testL i ρ = match ρ.at i with | .l ds => some (.ok (!ds.isEmpty) ρ) | _ => none := rfl
theorem wipe1 {ρ : Env} {i : Nat} {s : Slot} (hi : i < ρ.length) : wipeE ((wipeE ρ [i]).set i s) [i] = wipeE ρ [i] := by
  refine env_ext (by rw [wipeE_len, List.length_set]) fun j => ?_
  rw [wipeE_at, wipeE_at]
  by_cases e : j ∈ [i]
  · rw [if_pos e, if_pos e]
  · rw [if_neg e, if_neg e, at_set (by rw [wipeE_len]; exact hi), if_neg (fun z => e (List.mem_singleton.mpr z)), wipeE_at, if_neg e]
theorem wipe1_at {ρ : Env} {i j : Nat} (h : j ≠ i) : (wipeE ρ [i]).at j = ρ.at j := by
  rw [wipeE_at, if_neg fun z => h (List.mem_singleton.mp z)]
@[simp] theorem lcN_nil {Γ : Gam} {i : Nat} {ρ : Env} {ds : List D} (hi : i < ρ.length) (ho : isOwn (ρ.at i) = false) (hz : ds.length ≤ sizeLine) : lcN [i] (kNc Γ (.n i) (.disp .nil)) ds ρ = some (.ok (List.replicate ds.length (.l [])) ρ) := by
  rw [lcN_map (fun _ => []) (by simp [ho]) (fun d hd => ⟨(wipeE ρ [i]).set i (.v d), ?_, wipe1 hi⟩) hz]
  · rw [List.map_const']
  · rw [kNc_def, bindE_n (by rw [wipeE_len]; exact hi)]
    simp
@[simp] theorem isNon_non : isNon .non = true := rfl
@[simp] theorem isNon_int (i : Int) : isNon (.int i) = false := rfl
@[simp] theorem isNon_bl (i : Bool) : isNon (.bl i) = false := rfl
@[simp] theorem isNon_tup (i : List D) : isNon (.tup i) = false := rfl
@[simp] theorem isNon_lst (i : List D) : isNon (.lst i) = false := rfl
theorem wipe_one (ρ : Env) (i : Nat) : wipeE ρ [i] = ρ.set i .no := rfl
theorem lc1_map {Γ : Gam} {i : Nat} {e : E} {ds : List D} {ρ : Env} (F : D → D) (hi : i < ρ.length) (ho : isOwn (ρ.at i) = false) (h : ∀ d ∈ ds, evE Γ e (ρ.set i (.v d)) = some (.ok (F d) (ρ.set i (.v d)))) (hz : ds.length ≤ sizeLine) :
    lcE [i] (kLc Γ (.n i) e) ds ρ = some (.ok (ds.map F) ρ) := by
  refine lc_map F (by simp [ho]) (fun d hd => ⟨ρ.set i (.v d), ?_, ?_⟩) hz
  · rw [kLc_def, bindE_n (by rw [wipeE_len]; exact hi), wipe_one, List.set_set, kLcE_def, h d hd]
    rfl
  · rw [wipe_one, wipe_one, List.set_set]
theorem lci1_fil {Γ : Gam} {i : Nat} {c e : E} {ds : List D} {ρ : Env} (p : D → Bool) (F : D → D) (hi : i < ρ.length) (ho : isOwn (ρ.at i) = false) (hc : ∀ d ∈ ds, evE Γ c (ρ.set i (.v d)) = some (.ok (.bl (p d)) (ρ.set i (.v d)))) (h : ∀ d ∈ ds, p d = true → evE Γ e (ρ.set i (.v d)) = some (.ok (F d) (ρ.set i (.v d)))) (hz : ds.length ≤ sizeLine) :
    lcE [i] (kLci Γ (.n i) c e) ds ρ = some (.ok ((ds.filter p).map F) ρ) := by
  rw [lc_fil (fun d => if p d = true then some (F d) else none) (by simp [ho]) (fun d hd => ⟨ρ.set i (.v d), ?_, ?_⟩) hz]
  · congr 2
    induction ds with
    | nil => rfl
    | cons a l ih =>
      have z := ih (fun d hd => hc d (List.mem_cons_of_mem _ hd)) (fun d hd => h d (List.mem_cons_of_mem _ hd)) (by rw [List.length_cons] at hz; omega)
      rw [List.filterMap_cons, List.filter_cons]
      cases q : p a with
      | true => rw [if_pos rfl, if_pos rfl, List.map_cons, z]
      | false => rw [if_neg Bool.false_ne_true, if_neg Bool.false_ne_true]; exact z
  · rw [kLci_def, bindE_n (by rw [wipeE_len]; exact hi), wipe_one, List.set_set, kLciE_def, hc d hd]
    cases q : p d with
    | true => simp [h d hd q]
    | false => simp
  · rw [wipe_one, wipe_one, List.set_set]
theorem lcS_filI {g : D → Env → Option (Out (Option D))} {own : List Nat} (Inv : Env → Prop) (F : D → Option D) : ∀ (ds acc : List D) (ρ : Env), Inv ρ → (∀ d ρ, d ∈ ds → Inv ρ → ∃ ρ', g d ρ = some (.ok (F d) ρ') ∧ Inv (wipeE ρ' own)) → acc.length + ds.length ≤ sizeLine →
    ∃ ρ', lcS g own ds acc ρ = some (acc ++ ds.filterMap F, ρ') ∧ Inv ρ'
  | [], acc, ρ, h, _, _ => ⟨ρ, by unfold lcS; rw [List.filterMap_nil, List.append_nil], h⟩
  | d :: ds, acc, ρ, h, hs, hz => by
    obtain ⟨ρ', h1, h2⟩ := hs d ρ List.mem_cons_self h
    rw [List.length_cons] at hz
    unfold lcS
    rw [h1]
    cases q : F d with
    | none =>
      obtain ⟨ρ2, h3, h4⟩ := lcS_filI Inv F ds acc _ h2 (fun d ρ hd hi => hs d ρ (List.mem_cons_of_mem _ hd) hi) (by omega)
      refine ⟨ρ2, ?_, h4⟩
      show lcS g own ds acc (wipeE ρ' own) = _
      rw [h3, List.filterMap_cons, q]
    | some x =>
      obtain ⟨ρ2, h3, h4⟩ := lcS_filI Inv F ds (acc ++ [x]) _ h2 (fun d ρ hd hi => hs d ρ (List.mem_cons_of_mem _ hd) hi) (by rw [List.length_append, List.length_singleton]; omega)
      refine ⟨ρ2, ?_, h4⟩
      show (if acc.length < sizeLine then lcS g own ds (acc ++ [x]) (wipeE ρ' own) else none) = _
      rw [if_pos (by omega), h3, List.filterMap_cons, q, List.append_assoc]
      rfl
theorem wo_lcF {f : D → Env → Option (Out (Option D))} {own : List Nat} {ds : List D} {ρ : Env} {P : List D → Env → Prop} (Inv : Env → Prop) (F : D → Option D) (ho : (own.all fun i => !isOwn (ρ.at i)) = true) (h0 : Inv (wipeE ρ own)) (hz : ds.length ≤ sizeLine)
    (hs : ∀ d ρ, d ∈ ds → Inv ρ → ∃ ρ', f d ρ = some (.ok (F d) ρ') ∧ Inv (wipeE ρ' own)) (he : ∀ ρ', Inv ρ' → P (ds.filterMap F) (backE ρ ρ' own)) : WO (lcE own f ds ρ) P := by
  obtain ⟨ρ', h1, h2⟩ := lcS_filI Inv F ds [] (wipeE ρ own) h0 hs (by rw [List.length_nil]; omega)
  unfold lcE
  rw [if_pos ho, h1]
  exact ⟨_, backE ρ ρ' own, rfl, he ρ' h2⟩
@[simp] theorem le_line8 : (8 ≤ sizeLine) = True := eq_true (by decide)
@[simp] theorem le_line9 : (9 ≤ sizeLine) = True := eq_true (by decide)
@[simp] theorem le_line10 : (10 ≤ sizeLine) = True := eq_true (by decide)
@[simp] theorem le_line11 : (11 ≤ sizeLine) = True := eq_true (by decide)
@[simp] theorem le_line12 : (12 ≤ sizeLine) = True := eq_true (by decide)
@[simp] theorem le_line13 : (13 ≤ sizeLine) = True := eq_true (by decide)
@[simp] theorem le_line14 : (14 ≤ sizeLine) = True := eq_true (by decide)
@[simp] theorem le_line15 : (15 ≤ sizeLine) = True := eq_true (by decide)
@[simp] theorem le_line16 : (16 ≤ sizeLine) = True := eq_true (by decide)
@[simp] theorem le_line17 : (17 ≤ sizeLine) = True := eq_true (by decide)
@[simp] theorem le_line18 : (18 ≤ sizeLine) = True := eq_true (by decide)
@[simp] theorem le_line19 : (19 ≤ sizeLine) = True := eq_true (by decide)
@[simp] theorem le_line20 : (20 ≤ sizeLine) = True := eq_true (by decide)
end VI
set_option maxHeartbeats 2000000
/-! Plain ground, second part: comprehensions that pass over some items and change what the frame owns. -/
namespace VI
open PySem L2
/-- what one turn of a comprehension leaves -/
def optA (acc : List D) : Option D → List D
  | some x => acc ++ [x]
  | none => acc
theorem lcS_x {g : D → Env → Option (Out (Option D))} {own : List Nat} (Inv : Nat → List D → Env → Prop) : ∀ (ds acc : List D) (k : Nat) (ρ : Env), Inv k acc ρ → (∀ j d acc ρ, ds[j]? = some d → Inv (k + j) acc ρ → ∃ o ρ', g d ρ = some (.ok o ρ') ∧ Inv (k + j + 1) (optA acc o) (wipeE ρ' own)) → acc.length + ds.length ≤ sizeLine →
    ∃ acc' ρ', lcS g own ds acc ρ = some (acc', ρ') ∧ Inv (k + ds.length) acc' ρ'
  | [], acc, k, ρ, h, _, _ => ⟨acc, ρ, by unfold lcS; rfl, h⟩
  | d :: ds, acc, k, ρ, h, hs, hz => by
    obtain ⟨o, ρ', h1, h2⟩ := hs 0 d acc ρ rfl h
    rw [List.length_cons] at hz
    have rest : ∀ acc', acc'.length ≤ acc.length + 1 → Inv (k + 1) acc' (wipeE ρ' own) → ∃ acc2 ρ2, lcS g own ds acc' (wipeE ρ' own) = some (acc2, ρ2) ∧ Inv (k + (d :: ds).length) acc2 ρ2 := fun acc' hl hi => by
      obtain ⟨acc2, ρ2, h3, h4⟩ := lcS_x Inv ds acc' (k + 1) _ hi (fun j d acc ρ hd hi => by
        have e : k + 1 + j = k + (j + 1) := by omega
        rw [e] at hi ⊢
        exact hs (j + 1) d acc ρ (by simpa using hd) hi) (by omega)
      exact ⟨acc2, ρ2, h3, by rw [List.length_cons, show k + (ds.length + 1) = k + 1 + ds.length by omega]; exact h4⟩
    unfold lcS
    rw [h1]
    cases o with
    | none => exact rest acc (by omega) h2
    | some x =>
      show ∃ acc' ρ2, (if acc.length < sizeLine then lcS g own ds (acc ++ [x]) (wipeE ρ' own) else none) = some (acc', ρ2) ∧ _
      rw [if_pos (by omega)]
      exact rest (acc ++ [x]) (by simp) h2
theorem wo_lcX {f : D → Env → Option (Out (Option D))} {own : List Nat} {ds : List D} {ρ : Env} {P : List D → Env → Prop} (Inv : Nat → List D → Env → Prop) (ho : (own.all fun i => !isOwn (ρ.at i)) = true) (h0 : Inv 0 [] (wipeE ρ own)) (hz : ds.length ≤ sizeLine)
    (hs : ∀ j d acc ρ, ds[j]? = some d → Inv j acc ρ → WO (f d ρ) fun o ρ' => Inv (j + 1) (optA acc o) (wipeE ρ' own)) (he : ∀ acc ρ', Inv ds.length acc ρ' → P acc (backE ρ ρ' own)) : WO (lcE own f ds ρ) P := by
  obtain ⟨acc, ρ', h1, h2⟩ := lcS_x Inv ds [] 0 (wipeE ρ own) h0 (fun j d acc ρ hd hi => by
    rw [Nat.zero_add] at hi ⊢
    exact hs j d acc ρ hd hi) (by rw [List.length_nil]; omega)
  rw [Nat.zero_add] at h2
  unfold lcE
  rw [if_pos ho, h1]
  exact ⟨acc, backE ρ ρ' own, rfl, he acc ρ' h2⟩
end VI
set_option maxHeartbeats 2000000
/-! Plain ground, third part: texts as lists of code points. -/
namespace VI
open PySem L2
abbrev xS (l : List Nat) : Str := ⟨l.toArray⟩
open Builtin.Str in
theorem inn_one (ne : Bool) (a : List Nat) (c : Nat) : innD ne (.str (xS [c])) (.str (xS a)) = some (.bl (if ne then !decide (c ∈ a) else decide (c ∈ a))) := by
  unfold innD
  show (some (!(occurrences (xS a) (xS [c]) 0 (xS a).length 1).isEmpty)).map _ = _
  rw [SX.in_one]
  rfl
theorem walk_S (a : List Nat) : walkD (.str (xS a)) = some (a.map fun c => D.str (xS [c])) := rfl
theorem len_S {a : List Nat} (h : a.length ≤ 100000) : lenD (.str (xS a)) = some (.int a.length) := by
  rw [lenD_str (by rw [SX.S_len]; exact le_line h), SX.S_len]
theorem ix_S {a : List Nat} {i : Nat} (h : i < a.length) (h2 : a.length ≤ 100000) : ixD (.str (xS a)) (.int i) = some (.str (xS [a[i]])) := by
  have e0 : ixD (.str (xS a)) (.int i) = ixS (xS a) (.int i) := rfl
  rw [e0]
  unfold ixS
  dsimp only
  have hl : (xS a).length = a.length := SX.S_len a
  rw [if_pos ⟨by omega, by omega, by omega⟩, Int.toNat_natCast]
  have : (xS a).cps[i]? = some a[i] := by
    show (a.toArray)[i]? = _
    rw [List.getElem?_toArray, List.getElem?_eq_getElem h]
  rw [this]
  rfl
theorem slF_S {a : List Nat} {i : Nat} (h2 : a.length ≤ 100000) : slFD (.str (xS a)) (.int i) = some (.str (xS (a.drop i))) := by
  show (if (xS a).length ≤ sizeLine then some (D.str (cutS (xS a) (some (i : Int)) none)) else none) = _
  rw [if_pos (by rw [SX.S_len]; exact le_line h2), C8.cutS_slice, SX.slice_from (by omega), Int.toNat_natCast]
theorem slT_S {a : List Nat} {i : Nat} (h2 : a.length ≤ 100000) : slTD (.str (xS a)) (.int i) = some (.str (xS (a.take i))) := by
  show (if (xS a).length ≤ sizeLine then some (D.str (cutS (xS a) none (some (i : Int)))) else none) = _
  rw [if_pos (by rw [SX.S_len]; exact le_line h2), C8.cutS_slice, SX.slice_to (by omega), Int.toNat_natCast]
theorem cat_S {a b : List Nat} (h : a.length + b.length ≤ 100000) : binD .add (.str (xS a)) (.str (xS b)) = some (.str (xS (a ++ b))) := by
  rw [bin_cat (by rw [SX.S_len, SX.S_len]; exact le_line h), SX.S_cat]
/-- code points that a text may hold -/
def okS (a : List Nat) : Prop := ∀ c ∈ a, c < 1114112
theorem shaped_S {a : List Nat} (h : okS a) : SeqAt.shaped (.str (xS a)) = true := by
  have h1 : PyData.canLay0 (.str (xS a)) = true := by
    show (xS a).cps.all (· < 0x110000) = true
    rw [Array.all_eq_true_iff_forall_mem]
    intro c hc
    exact decide_eq_true (h c (by simpa using hc))
  unfold SeqAt.shaped
  rw [h1]
  rfl
theorem eqq_S (ne : Bool) {a b : List Nat} (ha : okS a) (hb : okS b) : eqqD ne (.str (xS a)) (.str (xS b)) = some (.bl (if ne then !decide (a = b) else decide (a = b))) := by
  unfold eqqD eqD
  show ((if SeqAt.shaped (.str (xS a)) = true ∧ SeqAt.shaped (.str (xS b)) = true then some (xS a == xS b) else none).map fun k => D.bl (if ne then !k else k)) = _
  rw [if_pos ⟨shaped_S ha, shaped_S hb⟩]
  have : (xS a == xS b) = decide (a = b) := SX.S_beq_eq
  rw [this]
  rfl
/-- text.startswith(one sign) -/
theorem start_one (a : List Nat) (c : Nat) : startD' (.str (xS a)) (.str (xS [c])) = some (.bl (decide (a.head? = some c))) := by
  show some (D.bl (Txt.startswith (xS a) (xS [c]))) = _
  have : Txt.startswith (xS a) (xS [c]) = decide (a.head? = some c) := by
    have z := StrLaws.subAt_one (xS a) c 0
    have e : (xS a).cps.toList = a := rfl
    rw [e] at z
    rw [Bool.eq_iff_iff, decide_eq_true_eq]
    show (decide (0 + (xS [c]).length ≤ (xS a).length) && Builtin.Str.subAt (xS a) (xS [c]) 0) = true ↔ _
    rw [Bool.and_eq_true, decide_eq_true_eq]
    rw [z, List.head?_eq_getElem?]
  rw [this]
theorem part_no {a : List Nat} {c : Nat} (h : c ∉ a) (h2 : a.length ≤ 100000) : partD (.str (xS a)) (.str (xS [c])) = some (.tup [.str (xS a), .str (xS []), .str (xS [])]) := by
  show (if (xS [c]).length ≠ 0 ∧ (xS a).length ≤ sizeLine then _ else none) = _
  rw [if_pos ⟨by rw [SX.S_len]; exact Nat.one_ne_zero, by rw [SX.S_len]; exact le_line h2⟩, SX.partition_none (List.cons_ne_nil _ _) (SX.par_head_none h)]
theorem part_at {p q : List Nat} {c : Nat} (h : c ∉ p) (h2 : (p ++ c :: q).length ≤ 100000) : partD (.str (xS (p ++ c :: q))) (.str (xS [c])) = some (.tup [.str (xS p), .str (xS [c]), .str (xS q)]) := by
  show (if (xS [c]).length ≠ 0 ∧ (xS (p ++ c :: q)).length ≤ sizeLine then some (D.tup [.str (Txt.partition (xS (p ++ c :: q)) (xS [c])).1, .str (Txt.partition (xS (p ++ c :: q)) (xS [c])).2.1, .str (Txt.partition (xS (p ++ c :: q)) (xS [c])).2.2]) else none) = _
  have e : Txt.partition (xS (p ++ c :: q)) (xS [c]) = (xS p, xS [c], xS q) := SX.partition_some (b := [c]) (List.cons_ne_nil _ _) (SX.par_head (sep := []) q h)
  rw [if_pos ⟨by rw [SX.S_len]; exact Nat.one_ne_zero, by rw [SX.S_len]; exact le_line h2⟩, e]
theorem splt_of {a : List Nat} {c : Nat} (hc : c < 256) (h2 : a.length ≤ 100000) : spltD (.str (xS a)) (.str (xS [c])) = some ((TL.spl [c] 0 [] a).map fun p => D.str (xS p)) := by
  show (if (xS [c]).length ≠ 0 ∧ (xS a).length + 2 ≤ sizeLine then some ((Txt.split (xS a) (xS [c])).map D.str) else none) = _
  rw [if_pos ⟨by rw [SX.S_len]; exact Nat.one_ne_zero, by rw [SX.S_len]; exact Nat.le_trans (show a.length + 2 ≤ 100002 by omega) (by decide)⟩, SX.split_S (List.cons_ne_nil _ _) (by simpa using hc), List.map_map]
  rfl
theorem spl_no {a : List Nat} {c : Nat} (h : c ∉ a) : TL.spl [c] 0 [] a = [a] := SX.spl_join (parts := [a]) (List.cons_ne_nil _ _) (by simpa using h)
theorem spl_at {p : List Nat} (q : List Nat) {c : Nat} (h : c ∉ p) : TL.spl [c] 0 [] (p ++ c :: q) = p :: TL.spl [c] 0 [] q := SX.spl_free q (List.cons_ne_nil _ _) (SX.free_head h)
theorem spl_ne (a : List Nat) (c : Nat) : TL.spl [c] 0 [] a ≠ [] := by
  by_cases h : c ∈ a
  · obtain ⟨p, q, rfl, hp⟩ := List.append_of_mem h |> fun ⟨s, t, e⟩ => (⟨s, t, e, trivial⟩ : ∃ p q, a = p ++ c :: q ∧ True)
    intro e
    have : ∀ (l acc : List Nat), TL.spl [c] 0 acc l ≠ [] := by
      intro l
      induction l with
      | nil => intro acc h; rw [TL.spl_nil] at h; cases h
      | cons d l ih =>
        intro acc h
        cases z : TL.pre [c] (d :: l) with
        | true => rw [TL.spl_hit z] at h; cases h
        | false => rw [TL.spl_miss z] at h; exact ih _ h
    exact this _ _ e
  · rw [spl_no h]; exact List.cons_ne_nil _ _
/-- a number's figures -/
def intL (i : Int) : List Nat := if i < 0 then 45 :: TL.numL i.natAbs else TL.numL i.natAbs
theorem int_text (i : Int) : Str.ofString (toString i) = xS (intL i) := by
  by_cases h : i < 0
  · obtain ⟨m, rfl⟩ : ∃ m : Nat, i = Int.negSucc m := ⟨(-i - 1).toNat, by omega⟩
    refine TL.ext_tl ?_
    rw [TL.tl_ofString]
    have e : toString (Int.negSucc m) = "-" ++ Nat.repr (m + 1) := rfl
    rw [e, String.toList_append, List.map_append]
    unfold intL
    rw [if_pos h]
    show [45] ++ (Nat.repr (m + 1)).toList.map Char.toNat = 45 :: TL.numL (m + 1)
    rw [Nat.toList_repr]
    rfl
  · obtain ⟨m, rfl⟩ := Int.eq_ofNat_of_zero_le (show 0 ≤ i by omega)
    unfold intL
    rw [if_neg h, SX.num_S]
    rfl
end VI
set_option maxHeartbeats 4000000
namespace K01
open PySem L2 VI
/-! ### the program in the language (printed by gen4.py) -/
def b_is_whole : S := (.seq (.ret (.and (.isT (.var 0) [.int]) (.not (.isT (.var 0) [.bool]))))
  .nil)
def d_is_whole : Def := ⟨"is_whole", ["given"], 1, [], b_is_whole, none, []⟩
def b_raw_pair : S := (.seq (.ite (.call 0 (.cons (.var 0) .nil))
  (.seq (.ret (.tup (.cons (.var 0) (.cons (.cst (.int 1)) .nil))))
  .nil)
  .nil)
  (.seq (.ite (.and (.isT (.var 0) [.tuple]) (.eqq false (.len (.var 0)) (.cst (.int 2))))
  (.seq (.asgT [2, 3] (.var 0))
  (.seq (.ite (.and (.call 0 (.cons (.var 2) .nil)) (.and (.call 0 (.cons (.var 3) .nil)) (.cmp .ge (.var 3) (.cst (.int 1)))))
  (.seq (.ret (.tup (.cons (.var 2) (.cons (.var 3) .nil))))
  .nil)
  .nil)
  .nil))
  .nil)
  (.seq (.rse 0 "word" (.var 1))
  .nil)))
def d_raw_pair : Def := ⟨"raw_pair", ["given", "word", "top", "bottom"], 2, [], b_raw_pair, none, []⟩
def b_lowest_terms : S := (.seq (.ite (.cmp .lt (.var 1) (.cst (.int 0)))
  (.seq (.par 0 1 (.neg (.var 0)) (.neg (.var 1)))
  .nil)
  .nil)
  (.seq (.asg 2 (.gcd (.var 0) (.var 1)))
  (.seq (.ret (.tup (.cons (.bin .fdiv (.var 0) (.var 2)) (.cons (.bin .fdiv (.var 1) (.var 2)) .nil))))
  .nil)))
def d_lowest_terms : Def := ⟨"lowest_terms", ["top", "bottom", "common"], 2, [], b_lowest_terms, none, []⟩
def b_ratio_named : S := (.seq (.asgT [2, 3] (.call 1 (.cons (.var 0) (.cons (.var 1) .nil))))
  (.seq (.ret (.call 2 (.cons (.var 2) (.cons (.var 3) .nil))))
  .nil))
def d_ratio_named : Def := ⟨"ratio_named", ["given", "word", "top", "bottom"], 2, [], b_ratio_named, none, []⟩
def b_ratio : S := (.seq (.ret (.call 3 (.cons (.var 0) (.cons (.cst (.str "number")) .nil))))
  .nil)
def d_ratio : Def := ⟨"ratio", ["number"], 1, [], b_ratio, none, []⟩
def b_of : S := (.seq (.ite (.not (.call 0 (.cons (.var 0) .nil)))
  (.seq (.rse 0 "word" (.cst (.str "top")))
  .nil)
  .nil)
  (.seq (.ite (.or (.not (.call 0 (.cons (.var 1) .nil))) (.eqq false (.var 1) (.cst (.int 0))))
  (.seq (.rse 0 "word" (.cst (.str "bottom")))
  .nil)
  .nil)
  (.seq (.ret (.call 2 (.cons (.var 0) (.cons (.var 1) .nil))))
  .nil)))
def d_of : Def := ⟨"of", ["top", "bottom"], 2, [], b_of, none, []⟩
def b_plus : S := (.seq (.asgT [2, 3] (.call 1 (.cons (.var 0) (.cons (.cst (.str "one")) .nil))))
  (.seq (.asgT [4, 5] (.call 1 (.cons (.var 1) (.cons (.cst (.str "other")) .nil))))
  (.seq (.ite (.eqq false (.var 3) (.var 5))
  (.seq (.ret (.call 2 (.cons (.bin .add (.var 2) (.var 4)) (.cons (.var 3) .nil))))
  .nil)
  .nil)
  (.seq (.ret (.call 2 (.cons (.bin .add (.bin .mul (.var 2) (.var 5)) (.bin .mul (.var 4) (.var 3))) (.cons (.bin .mul (.var 3) (.var 5)) .nil))))
  .nil))))
def d_plus : Def := ⟨"plus", ["one", "other", "a", "b", "c", "d"], 2, [], b_plus, none, []⟩
def b_minus : S := (.seq (.asgT [2, 3] (.call 1 (.cons (.var 0) (.cons (.cst (.str "one")) .nil))))
  (.seq (.asgT [4, 5] (.call 1 (.cons (.var 1) (.cons (.cst (.str "other")) .nil))))
  (.seq (.ite (.eqq false (.var 3) (.var 5))
  (.seq (.ret (.call 2 (.cons (.bin .sub (.var 2) (.var 4)) (.cons (.var 3) .nil))))
  .nil)
  .nil)
  (.seq (.ret (.call 2 (.cons (.bin .sub (.bin .mul (.var 2) (.var 5)) (.bin .mul (.var 4) (.var 3))) (.cons (.bin .mul (.var 3) (.var 5)) .nil))))
  .nil))))
def d_minus : Def := ⟨"minus", ["one", "other", "a", "b", "c", "d"], 2, [], b_minus, none, []⟩
def b_times : S := (.seq (.asgT [2, 3] (.call 1 (.cons (.var 0) (.cons (.cst (.str "one")) .nil))))
  (.seq (.asgT [4, 5] (.call 1 (.cons (.var 1) (.cons (.cst (.str "other")) .nil))))
  (.seq (.ret (.call 2 (.cons (.bin .mul (.var 2) (.var 4)) (.cons (.bin .mul (.var 3) (.var 5)) .nil))))
  .nil)))
def d_times : Def := ⟨"times", ["one", "other", "a", "b", "c", "d"], 2, [], b_times, none, []⟩
def b_divided : S := (.seq (.asgT [2, 3] (.call 1 (.cons (.var 0) (.cons (.cst (.str "one")) .nil))))
  (.seq (.asgT [4, 5] (.call 1 (.cons (.var 1) (.cons (.cst (.str "other")) .nil))))
  (.seq (.ite (.eqq false (.var 4) (.cst (.int 0)))
  (.seq (.rse 0 "word" (.cst (.str "other")))
  .nil)
  .nil)
  (.seq (.ret (.call 2 (.cons (.bin .mul (.var 2) (.var 5)) (.cons (.bin .mul (.var 3) (.var 4)) .nil))))
  .nil))))
def d_divided : Def := ⟨"divided", ["one", "other", "a", "b", "c", "d"], 2, [], b_divided, none, []⟩
def b_compare : S := (.seq (.asgT [2, 3] (.call 1 (.cons (.var 0) (.cons (.cst (.str "one")) .nil))))
  (.seq (.asgT [4, 5] (.call 1 (.cons (.var 1) (.cons (.cst (.str "other")) .nil))))
  (.seq (.asg 6 (.bin .mul (.var 2) (.var 5)))
  (.seq (.asg 7 (.bin .mul (.var 4) (.var 3)))
  (.seq (.ite (.cmp .lt (.var 6) (.var 7))
  (.seq (.ret (.neg (.cst (.int 1))))
  .nil)
  .nil)
  (.seq (.ite (.cmp .gt (.var 6) (.var 7))
  (.seq (.ret (.cst (.int 1)))
  .nil)
  .nil)
  (.seq (.ret (.cst (.int 0)))
  .nil)))))))
def d_compare : Def := ⟨"compare", ["one", "other", "a", "b", "c", "d", "left", "right"], 2, [], b_compare, none, []⟩
def b_lesser : S := (.seq (.ite (.cmp .le (.call 10 (.cons (.var 0) (.cons (.var 1) .nil))) (.cst (.int 0)))
  (.seq (.ret (.call 3 (.cons (.var 0) (.cons (.cst (.str "one")) .nil))))
  .nil)
  .nil)
  (.seq (.ret (.call 3 (.cons (.var 1) (.cons (.cst (.str "other")) .nil))))
  .nil))
def d_lesser : Def := ⟨"lesser", ["one", "other"], 2, [], b_lesser, none, []⟩
def b_greater : S := (.seq (.ite (.cmp .ge (.call 10 (.cons (.var 0) (.cons (.var 1) .nil))) (.cst (.int 0)))
  (.seq (.ret (.call 3 (.cons (.var 0) (.cons (.cst (.str "one")) .nil))))
  .nil)
  .nil)
  (.seq (.ret (.call 3 (.cons (.var 1) (.cons (.cst (.str "other")) .nil))))
  .nil))
def d_greater : Def := ⟨"greater", ["one", "other"], 2, [], b_greater, none, []⟩
def b_sum_of : S := (.seq (.ite (.not (.isT (.var 0) [.list, .tuple]))
  (.seq (.rse 0 "word" (.cst (.str "numbers")))
  .nil)
  .nil)
  (.seq (.asg 1 (.cst (.int 0)))
  (.seq (.asg 2 (.cst (.int 1)))
  (.seq (.for (.n 3) (.seq (.var 0))
  (.seq (.asgT [4, 5] (.call 1 (.cons (.var 3) (.cons (.cst (.str "numbers")) .nil))))
  (.seq (.ite (.eqq false (.var 5) (.var 2))
  (.seq (.asg 1 (.bin .add (.var 1) (.var 4)))
  .nil)
  (.seq (.asgT [1, 2] (.call 2 (.cons (.bin .add (.bin .mul (.var 1) (.var 5)) (.bin .mul (.var 4) (.var 2))) (.cons (.bin .mul (.var 2) (.var 5)) .nil))))
  .nil))
  .nil)))
  (.seq (.ret (.call 2 (.cons (.var 1) (.cons (.var 2) .nil))))
  .nil)))))
def d_sum_of : Def := ⟨"sum_of", ["numbers", "top", "bottom", "given", "a", "b"], 1, [], b_sum_of, none, []⟩
def b_rounded_up : S := (.seq (.asgT [1, 2] (.call 1 (.cons (.var 0) (.cons (.cst (.str "number")) .nil))))
  (.seq (.ret (.neg (.bin .fdiv (.neg (.var 1)) (.var 2))))
  .nil))
def d_rounded_up : Def := ⟨"rounded_up", ["number", "top", "bottom"], 1, [], b_rounded_up, none, []⟩
def b_rounded_down : S := (.seq (.asgT [1, 2] (.call 1 (.cons (.var 0) (.cons (.cst (.str "number")) .nil))))
  (.seq (.ret (.bin .fdiv (.var 1) (.var 2)))
  .nil))
def d_rounded_down : Def := ⟨"rounded_down", ["number", "top", "bottom"], 1, [], b_rounded_down, none, []⟩
def b_ratio_text : S := (.seq (.asgT [1, 2] (.call 3 (.cons (.var 0) (.cons (.cst (.str "number")) .nil))))
  (.seq (.ite (.eqq false (.var 2) (.cst (.int 1)))
  (.seq (.ret (.strI (.var 1)))
  .nil)
  .nil)
  (.seq (.ret (.fst (.cons (.var 1) (.cons (.cst (.str "/")) (.cons (.var 2) .nil)))))
  .nil)))
def d_ratio_text : Def := ⟨"ratio_text", ["number", "top", "bottom"], 1, [], b_ratio_text, none, []⟩
def b_whole_from : S := (.seq (.asg 1 (.ifx (.startsw (.var 0) (.cst (.str "-"))) (.slF (.var 0) (.cst (.int 1))) (.var 0)))
  (.seq (.ite (.or (.eqq false (.len (.var 1)) (.cst (.int 0))) (.cmp .gt (.len (.var 1)) (.glo "LONGEST" (.int 40))))
  (.seq (.ret (.cst .non))
  .nil)
  .nil)
  (.seq (.ite (.not (.un .all (.ofL (.lc [2] (.seq (.var 1)) (.n 2) (.inn false (.var 2) (.glo "FIGURES" (.str "0123456789")))))))
  (.seq (.ret (.cst .non))
  .nil)
  .nil)
  (.seq (.ite (.and (.eqq false (.ix (.var 1) (.cst (.int 0))) (.cst (.str "0"))) (.cmp .gt (.len (.var 0)) (.cst (.int 1))))
  (.seq (.ret (.cst .non))
  .nil)
  .nil)
  (.seq (.ret (.int1 (.var 0)))
  .nil)))))
def d_whole_from : Def := ⟨"whole_from", ["text", "figures", "sign"], 1, [], b_whole_from, none, []⟩
def b_ratio_from : S := (.seq (.ite (.not (.isT (.var 0) [.str]))
  (.seq (.rse 0 "word" (.cst (.str "text")))
  .nil)
  .nil)
  (.seq (.asgT [1, 2, 3] (.partn (.var 0) (.cst (.str "/"))))
  (.seq (.asg 4 (.call 17 (.cons (.var 1) .nil)))
  (.seq (.asg 5 (.ifx (.eqq false (.var 2) (.cst (.str "/"))) (.call 17 (.cons (.var 3) .nil)) (.cst (.int 1))))
  (.seq (.ite (.or (.isN false (.var 4)) (.or (.isN false (.var 5)) (.cmp .lt (.var 5) (.cst (.int 1)))))
  (.seq (.rse 0 "word" (.cst (.str "text")))
  .nil)
  .nil)
  (.seq (.ret (.call 2 (.cons (.var 4) (.cons (.var 5) .nil))))
  .nil))))))
def d_ratio_from : Def := ⟨"ratio_from", ["text", "head", "mark", "tail", "top", "bottom"], 1, [], b_ratio_from, none, []⟩
def b__law_draws : S := (.seq (.newL 1 (.disp .nil))
  (.seq (.for (.n 2) (.rng1 (.min2 (.len (.var 0)) (.cst (.int 63))))
  (.seq (.asg 3 (.int1 (.ix (.var 0) (.var 2))))
  (.seq (.ite (.cmp .lt (.var 3) (.cst (.int 0)))
  (.seq (.asg 3 (.bin .sub (.cst (.int 1)) (.bin .mul (.cst (.int 2)) (.var 3))))
  .nil)
  .nil)
  (.seq (.ite (.cmp .ge (.var 3) (.bin .pow (.cst (.int 10)) (.cst (.int 18))))
  (.seq (.for (.n 4) (.rng1 (.cst (.int 50)))
  (.seq (.ite (.cmp .gt (.var 3) (.cst (.int 0)))
  (.seq (.app 1 (.bin .mod (.int1 (.var 3)) (.cst (.int 30))))
  (.seq (.asg 3 (.bin .fdiv (.var 3) (.cst (.int 30))))
  .nil))
  .nil)
  .nil))
  .nil)
  (.seq (.asg 5 (.bin .mod (.int1 (.bin .add (.bin .add (.bin .mul (.var 3) (.cst (.int 104729))) (.bin .mul (.var 2) (.cst (.int 7919)))) (.cst (.int 1)))) (.cst (.int 998244353))))
  (.seq (.for (.n 4) (.rng1 (.cst (.int 7)))
  (.seq (.asg 5 (.bin .mod (.int1 (.bin .add (.bin .add (.bin .add (.bin .mul (.var 5) (.var 5)) (.bin .mul (.var 4) (.cst (.int 65537)))) (.var 2)) (.cst (.int 3)))) (.cst (.int 1000000007))))
  (.seq (.app 1 (.var 5))
  .nil)))
  .nil)))
  .nil))))
  (.seq (.rev 1)
  (.seq (.retL 1)
  .nil))))
def d__law_draws : Def := ⟨"_law_draws", ["script", "draws", "at", "cell", "k", "number"], 1, [], b__law_draws, none, []⟩
def b__law_take : S := (.seq (.ite (.eqq false (.lenl 0) (.cst (.int 0)))
  (.seq (.ret (.cst (.int 0)))
  .nil)
  .nil)
  (.seq (.ret (.bin .mod (.int1 (.pop 0)) (.var 1)))
  .nil))
def d__law_take : Def := ⟨"_law_take", ["draws", "many"], 2, [0], b__law_take, none, []⟩
def b__law_whole : S := (.seq (.ret (.and (.isT (.var 0) [.int]) (.not (.isT (.var 0) [.bool]))))
  .nil)
def d__law_whole : Def := ⟨"_law_whole", ["value"], 1, [], b__law_whole, none, []⟩
def b__law_pair : S := (.seq (.asg 2 (.abs (.var 0)))
  (.seq (.asg 3 (.var 1))
  (.seq (.for (.n 4) (.rng1 (.bin .add (.bin .mul (.cst (.int 2)) (.bits (.var 1))) (.cst (.int 10))))
  (.seq (.ite (.eqq false (.var 3) (.cst (.int 0)))
  (.seq .brk
  .nil)
  .nil)
  (.seq (.asg 5 (.bin .mod (.int1 (.var 2)) (.var 3)))
  (.seq (.asg 2 (.var 3))
  (.seq (.asg 3 (.var 5))
  .nil)))))
  (.seq (.ret (.tup (.cons (.bin .fdiv (.var 0) (.var 2)) (.cons (.bin .fdiv (.var 1) (.var 2)) .nil))))
  .nil))))
def d__law_pair : Def := ⟨"_law_pair", ["top", "bottom", "one", "other", "k", "rest"], 2, [], b__law_pair, none, []⟩
def b__law_number : S := (.seq (.ite (.or (.not (.isT (.var 0) [.tuple])) (.eqq true (.len (.var 0)) (.cst (.int 2))))
  (.seq (.ret (.cst (.bl false)))
  .nil)
  .nil)
  (.seq (.ite (.or (.not (.call 21 (.cons (.ix (.var 0) (.cst (.int 0))) .nil))) (.or (.not (.call 21 (.cons (.ix (.var 0) (.cst (.int 1))) .nil))) (.cmp .lt (.ix (.var 0) (.cst (.int 1))) (.cst (.int 1)))))
  (.seq (.ret (.cst (.bl false)))
  .nil)
  .nil)
  (.seq (.ret (.eqq false (.var 0) (.call 22 (.cons (.ix (.var 0) (.cst (.int 0))) (.cons (.ix (.var 0) (.cst (.int 1))) .nil)))))
  .nil)))
def d__law_number : Def := ⟨"_law_number", ["value"], 1, [], b__law_number, none, []⟩
def b__law_great : S := (.seq (.asg 2 (.cst (.int 0)))
  (.seq (.asg 3 (.cst (.int 0)))
  (.seq (.for (.n 4) (.rng1 (.var 1))
  (.seq (.asg 2 (.bin .add (.bin .mul (.var 2) (.cst (.int 30))) (.call 20 (.io 0 (.cons (.cst (.int 30)) .nil)))))
  (.seq (.asg 3 (.bin .add (.bin .mul (.var 3) (.cst (.int 30))) (.call 20 (.io 0 (.cons (.cst (.int 30)) .nil)))))
  .nil)))
  (.seq (.ite (.eqq false (.call 20 (.io 0 (.cons (.cst (.int 2)) .nil))) (.cst (.int 1)))
  (.seq (.asg 2 (.neg (.var 2)))
  .nil)
  .nil)
  (.seq (.ret (.tup (.cons (.var 2) (.cons (.bin .add (.var 3) (.cst (.int 1))) .nil))))
  .nil)))))
def d__law_great : Def := ⟨"_law_great", ["draws", "many", "top", "bottom", "k"], 2, [0], b__law_great, none, []⟩
def b__law_given : S := (.seq (.asg 1 (.call 20 (.io 0 (.cons (.cst (.int 5)) .nil))))
  (.seq (.ite (.eqq false (.var 1) (.cst (.int 0)))
  (.seq (.ret (.bin .sub (.call 20 (.io 0 (.cons (.cst (.int 27)) .nil))) (.cst (.int 13))))
  .nil)
  .nil)
  (.seq (.ite (.eqq false (.var 1) (.cst (.int 4)))
  (.seq (.ret (.call 24 (.io 0 (.cons (.cst (.int 27)) .nil))))
  .nil)
  .nil)
  (.seq (.ret (.tup (.cons (.bin .sub (.call 20 (.io 0 (.cons (.cst (.int 29)) .nil))) (.cst (.int 14))) (.cons (.bin .add (.cst (.int 1)) (.call 20 (.io 0 (.cons (.cst (.int 9)) .nil)))) .nil))))
  .nil))))
def d__law_given : Def := ⟨"_law_given", ["draws", "word"], 1, [0], b__law_given, none, []⟩
def b__law_is : S := (.seq (.ite (.call 21 (.cons (.var 0) .nil))
  (.seq (.ret (.cst (.bl true)))
  .nil)
  .nil)
  (.seq (.ite (.or (.not (.isT (.var 0) [.tuple])) (.eqq true (.len (.var 0)) (.cst (.int 2))))
  (.seq (.ret (.cst (.bl false)))
  .nil)
  .nil)
  (.seq (.ret (.and (.call 21 (.cons (.ix (.var 0) (.cst (.int 0))) .nil)) (.and (.call 21 (.cons (.ix (.var 0) (.cst (.int 1))) .nil)) (.cmp .ge (.ix (.var 0) (.cst (.int 1))) (.cst (.int 1))))))
  .nil)))
def d__law_is : Def := ⟨"_law_is", ["given"], 1, [], b__law_is, none, []⟩
def b__law_value : S := (.seq (.ite (.isT (.var 0) [.tuple])
  (.seq (.ret (.call 22 (.cons (.ix (.var 0) (.cst (.int 0))) (.cons (.ix (.var 0) (.cst (.int 1))) .nil))))
  .nil)
  .nil)
  (.seq (.ret (.tup (.cons (.var 0) (.cons (.cst (.int 1)) .nil))))
  .nil))
def d__law_value : Def := ⟨"_law_value", ["given"], 1, [], b__law_value, none, []⟩
def b__law_figures : S := (.seq (.ite (.or (.eqq false (.len (.var 0)) (.cst (.int 0))) (.cmp .gt (.len (.var 0)) (.cst (.int 40))))
  (.seq (.ret (.cst (.bl false)))
  .nil)
  .nil)
  (.seq (.for (.n 1) (.seq (.var 0))
  (.seq (.ite (.inn true (.var 1) (.cst (.str "0123456789")))
  (.seq (.ret (.cst (.bl false)))
  .nil)
  .nil)
  .nil))
  (.seq (.ret (.or (.eqq true (.ix (.var 0) (.cst (.int 0))) (.cst (.str "0"))) (.eqq false (.len (.var 0)) (.cst (.int 1)))))
  .nil)))
def d__law_figures : Def := ⟨"_law_figures", ["text", "sign"], 1, [], b__law_figures, none, []⟩
def b__law_reads : S := (.seq (.asg 1 (.ofL (.splt (.var 0) (.cst (.str "/")))))
  (.seq (.ite (.cmp .gt (.len (.var 1)) (.cst (.int 2)))
  (.seq (.ret (.cst .non))
  .nil)
  .nil)
  (.seq (.asg 2 (.ix (.var 1) (.cst (.int 0))))
  (.seq (.ite (.eqq false (.slT (.var 2) (.cst (.int 1))) (.cst (.str "-")))
  (.seq (.asg 2 (.slF (.var 2) (.cst (.int 1))))
  (.seq (.ite (.eqq false (.var 2) (.cst (.str "0")))
  (.seq (.ret (.cst .non))
  .nil)
  .nil)
  .nil))
  .nil)
  (.seq (.ite (.not (.call 28 (.cons (.var 2) .nil)))
  (.seq (.ret (.cst .non))
  .nil)
  .nil)
  (.seq (.asg 3 (.cst (.int 1)))
  (.seq (.ite (.eqq false (.len (.var 1)) (.cst (.int 2)))
  (.seq (.ite (.or (.not (.call 28 (.cons (.ix (.var 1) (.cst (.int 1))) .nil))) (.eqq false (.ix (.var 1) (.cst (.int 1))) (.cst (.str "0"))))
  (.seq (.ret (.cst .non))
  .nil)
  .nil)
  (.seq (.asg 3 (.int1 (.ix (.var 1) (.cst (.int 1)))))
  .nil))
  .nil)
  (.seq (.asg 4 (.int1 (.var 2)))
  (.seq (.ite (.eqq false (.slT (.ix (.var 1) (.cst (.int 0))) (.cst (.int 1))) (.cst (.str "-")))
  (.seq (.asg 4 (.neg (.var 4)))
  .nil)
  .nil)
  (.seq (.ret (.call 22 (.cons (.var 4) (.cons (.var 3) .nil))))
  .nil))))))))))
def d__law_reads : Def := ⟨"_law_reads", ["text", "words", "top", "bottom", "value"], 1, [], b__law_reads, none, []⟩
def b__law_text : S := (.seq (.ite (.isT (.var 0) [.tuple])
  (.seq (.ite (.eqq false (.ix (.var 0) (.cst (.int 1))) (.cst (.int 1)))
  (.seq (.ret (.strI (.ix (.var 0) (.cst (.int 0)))))
  .nil)
  .nil)
  (.seq (.ret (.bin .add (.bin .add (.strI (.ix (.var 0) (.cst (.int 0)))) (.cst (.str "/"))) (.strI (.ix (.var 0) (.cst (.int 1))))))
  .nil))
  .nil)
  (.seq (.ret (.strI (.var 0)))
  .nil))
def d__law_text : Def := ⟨"_law_text", ["given"], 1, [], b__law_text, none, []⟩
def b__law_sign : S := (.seq (.ret (.ix (.cst (.str "0123456789-/ +._x\n")) (.call 20 (.io 0 (.cons (.cst (.int 18)) .nil)))))
  .nil)
def d__law_sign : Def := ⟨"_law_sign", ["draws"], 1, [0], b__law_sign, none, []⟩
def b__law_long : S := (.seq (.asg 1 (.cst (.str "")))
  (.seq (.ite (.eqq false (.call 20 (.io 0 (.cons (.cst (.int 3)) .nil))) (.cst (.int 1)))
  (.seq (.asg 1 (.cst (.str "-")))
  .nil)
  .nil)
  (.seq (.asg 1 (.bin .add (.var 1) (.ix (.cst (.str "123456789")) (.call 20 (.io 0 (.cons (.cst (.int 9)) .nil))))))
  (.seq (.for (.n 2) (.rng1 (.bin .add (.cst (.int 37)) (.call 20 (.io 0 (.cons (.cst (.int 5)) .nil)))))
  (.seq (.asg 1 (.bin .add (.var 1) (.ix (.cst (.str "0123456789")) (.call 20 (.io 0 (.cons (.cst (.int 10)) .nil))))))
  .nil))
  (.seq (.ret (.var 1))
  .nil)))))
def d__law_long : Def := ⟨"_law_long", ["draws", "text", "k"], 1, [0], b__law_long, none, []⟩
def b__law_drawn_text : S := (.seq (.asg 1 (.call 20 (.io 0 (.cons (.cst (.int 6)) .nil))))
  (.seq (.asg 2 (.call 30 (.cons (.call 25 (.io 0 .nil)) .nil)))
  (.seq (.ite (.eqq false (.call 20 (.io 0 (.cons (.cst (.int 4)) .nil))) (.cst (.int 3)))
  (.seq (.asg 2 (.bin .add (.bin .add (.var 2) (.cst (.str "/"))) (.strI (.bin .add (.cst (.int 1)) (.call 20 (.io 0 (.cons (.cst (.int 12)) .nil)))))))
  .nil)
  .nil)
  (.seq (.asg 3 (.call 20 (.io 0 (.cons (.len (.var 2)) .nil))))
  (.seq (.ite (.eqq false (.var 1) (.cst (.int 0)))
  (.seq (.ret (.var 2))
  .nil)
  .nil)
  (.seq (.ite (.eqq false (.var 1) (.cst (.int 1)))
  (.seq (.ret (.bin .add (.bin .add (.slT (.var 2) (.var 3)) (.call 31 (.io 0 .nil))) (.slF (.var 2) (.var 3))))
  .nil)
  .nil)
  (.seq (.ite (.eqq false (.var 1) (.cst (.int 2)))
  (.seq (.ret (.bin .add (.slT (.var 2) (.var 3)) (.slF (.var 2) (.bin .add (.var 3) (.cst (.int 1))))))
  .nil)
  .nil)
  (.seq (.ite (.eqq false (.var 1) (.cst (.int 3)))
  (.seq (.ret (.bin .add (.bin .add (.slT (.var 2) (.var 3)) (.call 31 (.io 0 .nil))) (.slF (.var 2) (.bin .add (.var 3) (.cst (.int 1))))))
  .nil)
  .nil)
  (.seq (.ite (.eqq false (.var 1) (.cst (.int 4)))
  (.seq (.asg 2 (.call 32 (.io 0 .nil)))
  (.seq (.ite (.eqq false (.call 20 (.io 0 (.cons (.cst (.int 2)) .nil))) (.cst (.int 1)))
  (.seq (.asg 2 (.bin .add (.bin .add (.var 2) (.cst (.str "/"))) (.call 32 (.io 0 .nil))))
  .nil)
  .nil)
  (.seq (.ret (.var 2))
  .nil)))
  .nil)
  (.seq (.asg 2 (.cst (.str "")))
  (.seq (.for (.n 4) (.rng1 (.call 20 (.io 0 (.cons (.cst (.int 8)) .nil))))
  (.seq (.asg 2 (.bin .add (.var 2) (.call 31 (.io 0 .nil))))
  .nil))
  (.seq (.ret (.var 2))
  .nil))))))))))))
def d__law_drawn_text : Def := ⟨"_law_drawn_text", ["draws", "word", "text", "at", "k"], 1, [0], b__law_drawn_text, none, []⟩
def b__law_any : S := (.seq (.asg 1 (.ofL (.disp (.cons (.cst (.bl true)) (.cons (.cst (.bl false)) (.cons (.cst .non) (.cons (.cst (.str "3")) (.cons (.cst (.str "1/2")) (.cons (.tup (.cons (.cst (.int 1)) (.cons (.cst (.int 0)) .nil))) (.cons (.tup (.cons (.cst (.int 2)) (.cons (.neg (.cst (.int 3))) .nil))) (.cons (.tup (.cons (.cst (.int 1)) .nil)) (.cons (.tup (.cons (.cst (.int 1)) (.cons (.cst (.int 2)) (.cons (.cst (.int 3)) .nil)))) (.cons (.tup (.cons (.cst (.bl true)) (.cons (.cst (.int 2)) .nil))) (.cons (.tup (.cons (.cst (.int 1)) (.cons (.cst (.bl true)) .nil))) .nil))))))))))))))
  (.seq (.asg 1 (.ofL (.cat (.var 1) (.ofL (.disp (.cons (.ofL (.disp (.cons (.cst (.int 1)) (.cons (.cst (.int 2)) .nil)))) (.cons (.tup .nil) (.cons (.tup (.cons (.tup (.cons (.cst (.int 1)) (.cons (.cst (.int 1)) .nil))) (.cons (.cst (.int 2)) .nil))) .nil))))))))
  (.seq (.ite (.eqq false (.call 20 (.io 0 (.cons (.cst (.int 2)) .nil))) (.cst (.int 1)))
  (.seq (.ret (.ix (.var 1) (.call 20 (.io 0 (.cons (.cst (.int 14)) .nil)))))
  .nil)
  .nil)
  (.seq (.ret (.call 25 (.io 0 .nil)))
  .nil))))
def d__law_any : Def := ⟨"_law_any", ["draws", "wrong"], 1, [0], b__law_any, none, []⟩
def b__law_call : S := (.seq (.ite (.eqq false (.var 0) (.cst (.int 0)))
  (.seq (.ret (.call 6 (.cons (.var 1) (.cons (.var 2) .nil))))
  .nil)
  .nil)
  (.seq (.ite (.eqq false (.var 0) (.cst (.int 1)))
  (.seq (.ret (.call 7 (.cons (.var 1) (.cons (.var 2) .nil))))
  .nil)
  .nil)
  (.seq (.ite (.eqq false (.var 0) (.cst (.int 2)))
  (.seq (.ret (.call 8 (.cons (.var 1) (.cons (.var 2) .nil))))
  .nil)
  .nil)
  (.seq (.ite (.eqq false (.var 0) (.cst (.int 3)))
  (.seq (.ret (.call 9 (.cons (.var 1) (.cons (.var 2) .nil))))
  .nil)
  .nil)
  (.seq (.ite (.eqq false (.var 0) (.cst (.int 4)))
  (.seq (.ret (.call 10 (.cons (.var 1) (.cons (.var 2) .nil))))
  .nil)
  .nil)
  (.seq (.ite (.eqq false (.var 0) (.cst (.int 5)))
  (.seq (.ret (.call 11 (.cons (.var 1) (.cons (.var 2) .nil))))
  .nil)
  .nil)
  (.seq (.ite (.eqq false (.var 0) (.cst (.int 6)))
  (.seq (.ret (.call 12 (.cons (.var 1) (.cons (.var 2) .nil))))
  .nil)
  .nil)
  (.seq (.ite (.eqq false (.var 0) (.cst (.int 7)))
  (.seq (.ret (.call 4 (.cons (.var 1) .nil)))
  .nil)
  .nil)
  (.seq (.ite (.eqq false (.var 0) (.cst (.int 8)))
  (.seq (.ret (.call 14 (.cons (.var 1) .nil)))
  .nil)
  .nil)
  (.seq (.ite (.eqq false (.var 0) (.cst (.int 9)))
  (.seq (.ret (.call 15 (.cons (.var 1) .nil)))
  .nil)
  .nil)
  (.seq (.ite (.eqq false (.var 0) (.cst (.int 10)))
  (.seq (.ret (.call 16 (.cons (.var 1) .nil)))
  .nil)
  .nil)
  (.seq (.ite (.eqq false (.var 0) (.cst (.int 11)))
  (.seq (.ret (.call 5 (.cons (.var 1) (.cons (.var 2) .nil))))
  .nil)
  .nil)
  (.seq (.ite (.eqq false (.var 0) (.cst (.int 12)))
  (.seq (.ret (.call 13 (.cons (.ofL (.disp (.cons (.var 1) (.cons (.var 2) (.cons (.var 1) .nil))))) .nil)))
  .nil)
  .nil)
  (.seq (.ite (.eqq false (.var 0) (.cst (.int 13)))
  (.seq (.ret (.call 13 (.cons (.var 2) .nil)))
  .nil)
  .nil)
  (.seq (.ret (.call 18 (.cons (.var 1) .nil)))
  .nil)))))))))))))))
def d__law_call : Def := ⟨"_law_call", ["turn", "left", "right"], 3, [], b__law_call, none, []⟩
def b__law_due : S := (.seq (.ite (.cmp .le (.var 0) (.cst (.int 6)))
  (.seq (.ite (.not (.call 26 (.cons (.var 1) .nil)))
  (.seq (.ret (.cst (.str "one")))
  .nil)
  .nil)
  (.seq (.ite (.or (.not (.call 26 (.cons (.var 2) .nil))) (.and (.eqq false (.var 0) (.cst (.int 3))) (.eqq false (.ix (.call 27 (.cons (.var 2) .nil)) (.cst (.int 0))) (.cst (.int 0)))))
  (.seq (.ret (.cst (.str "other")))
  .nil)
  .nil)
  (.seq (.ret (.cst (.str "")))
  .nil)))
  .nil)
  (.seq (.ite (.and (.cmp .le (.var 0) (.cst (.int 10))) (.not (.call 26 (.cons (.var 1) .nil))))
  (.seq (.ret (.cst (.str "number")))
  .nil)
  .nil)
  (.seq (.ite (.and (.eqq false (.var 0) (.cst (.int 11))) (.not (.call 21 (.cons (.var 1) .nil))))
  (.seq (.ret (.cst (.str "top")))
  .nil)
  .nil)
  (.seq (.ite (.and (.eqq false (.var 0) (.cst (.int 11))) (.or (.not (.call 21 (.cons (.var 2) .nil))) (.eqq false (.var 2) (.cst (.int 0)))))
  (.seq (.ret (.cst (.str "bottom")))
  .nil)
  .nil)
  (.seq (.ite (.and (.eqq false (.var 0) (.cst (.int 12))) (.not (.and (.call 26 (.cons (.var 1) .nil)) (.call 26 (.cons (.var 2) .nil)))))
  (.seq (.ret (.cst (.str "numbers")))
  .nil)
  .nil)
  (.seq (.ite (.eqq false (.var 0) (.cst (.int 13)))
  (.seq (.ite (.and (.not (.isT (.var 2) [.list])) (.not (.isT (.var 2) [.tuple])))
  (.seq (.ret (.cst (.str "numbers")))
  .nil)
  .nil)
  (.seq (.for (.n 3) (.seq (.var 2))
  (.seq (.ite (.not (.call 26 (.cons (.var 3) .nil)))
  (.seq (.ret (.cst (.str "numbers")))
  .nil)
  .nil)
  .nil))
  .nil))
  .nil)
  (.seq (.ite (.and (.eqq false (.var 0) (.cst (.int 14))) (.or (.not (.isT (.var 1) [.str])) (.isN false (.call 29 (.cons (.var 1) .nil)))))
  (.seq (.ret (.cst (.str "text")))
  .nil)
  .nil)
  (.seq (.ret (.cst (.str "")))
  .nil))))))))
def d__law_due : Def := ⟨"_law_due", ["turn", "left", "right", "entry"], 3, [], b__law_due, none, []⟩
def b__law_refused : S := (.seq (.asg 3 (.tup (.cons (.cst (.str "fine")) .nil)))
  (.seq (.asg 4 (.cst .non))
  (.seq (.tryx 2 (.seq (.asg 4 (.call 35 (.cons (.var 0) (.cons (.var 1) (.cons (.var 2) .nil)))))
  .nil)
  (.hnd (.own 0) (some 5) (.seq (.asg 6 (.and (.xis 5 [(.sup "RainError")]) (.xis 5 [(.sup "ValueError")])))
  (.seq (.asg 3 (.tup (.cons (.cst (.str "bad")) (.cons (.xf 5 "word") (.cons (.and (.var 6) (.not (.xis 5 [(.own 1)]))) .nil)))))
  .nil))
  .nil))
  (.seq (.ite (.and (.eqq false (.var 3) (.tup (.cons (.cst (.str "fine")) .nil))) (.isN false (.var 4)))
  (.seq (.ret (.tup (.cons (.cst (.str "none")) .nil)))
  .nil)
  .nil)
  (.seq (.ret (.var 3))
  .nil)))))
def d__law_refused : Def := ⟨"_law_refused", ["turn", "left", "right", "told", "answer", "raised", "base"], 3, [], b__law_refused, none, []⟩
def b__law_asked : S := (.seq (.asg 1 (.call 20 (.io 0 (.cons (.cst (.int 15)) .nil))))
  (.seq (.asg 2 (.call 34 (.io 0 .nil)))
  (.seq (.asg 3 (.call 34 (.io 0 .nil)))
  (.seq (.asg 4 (.call 36 (.cons (.var 1) (.cons (.var 2) (.cons (.var 3) .nil)))))
  (.seq (.asg 5 (.call 37 (.cons (.var 1) (.cons (.var 2) (.cons (.var 3) .nil)))))
  (.seq (.ite (.eqq false (.var 4) (.cst (.str "")))
  (.seq (.ret (.eqq false (.var 5) (.tup (.cons (.cst (.str "fine")) .nil))))
  .nil)
  .nil)
  (.seq (.ret (.eqq false (.var 5) (.tup (.cons (.cst (.str "bad")) (.cons (.var 4) (.cons (.cst (.bl true)) .nil))))))
  .nil)))))))
def d__law_asked : Def := ⟨"_law_asked", ["draws", "turn", "left", "right", "due", "told"], 1, [0], b__law_asked, none, []⟩
def b__law_read_back : S := (.seq (.asg 1 (.call 29 (.cons (.var 0) .nil)))
  (.seq (.ite (.isN false (.var 1))
  (.seq (.ret (.eqq false (.call 37 (.cons (.cst (.int 14)) (.cons (.var 0) (.cons (.cst (.int 0)) .nil)))) (.tup (.cons (.cst (.str "bad")) (.cons (.cst (.str "text")) (.cons (.cst (.bl true)) .nil))))))
  .nil)
  .nil)
  (.seq (.asg 2 (.call 18 (.cons (.var 0) .nil)))
  (.seq (.ite (.or (.not (.call 23 (.cons (.var 2) .nil))) (.eqq true (.var 2) (.var 1)))
  (.seq (.ret (.cst (.bl false)))
  .nil)
  .nil)
  (.seq (.asg 3 (.call 16 (.cons (.var 2) .nil)))
  (.seq (.ite (.or (.not (.isT (.var 3) [.str])) (.eqq true (.var 3) (.call 30 (.cons (.var 1) .nil))))
  (.seq (.ret (.cst (.bl false)))
  .nil)
  .nil)
  (.seq (.ret (.eqq false (.call 18 (.cons (.var 3) .nil)) (.var 1)))
  .nil)))))))
def d__law_read_back : Def := ⟨"_law_read_back", ["text", "due", "told", "again"], 1, [], b__law_read_back, none, []⟩
def b_law : S := (.seq (.newL 1 (.callL 19 (.cons (.var 0) .nil)))
  (.seq (.for (.n 2) (.rng1 (.cst (.int 4)))
  (.seq (.asg 4 (.call 25 (.io 1 .nil)))
  (.seq (.asg 5 (.call 30 (.cons (.call 27 (.cons (.var 4) .nil)) .nil)))
  (.seq (.asg 6 (.call 16 (.cons (.var 4) .nil)))
  (.seq (.ite (.or (.not (.isT (.var 6) [.str])) (.eqq true (.var 6) (.var 5)))
  (.seq (.ret (.cst (.bl false)))
  .nil)
  .nil)
  (.seq (.ite (.eqq true (.call 18 (.cons (.var 6) .nil)) (.call 27 (.cons (.var 4) .nil)))
  (.seq (.ret (.cst (.bl false)))
  .nil)
  .nil)
  .nil))))))
  (.seq (.for (.n 2) (.rng1 (.cst (.int 10)))
  (.seq (.ite (.not (.call 39 (.cons (.call 33 (.io 1 .nil)) .nil)))
  (.seq (.ret (.cst (.bl false)))
  .nil)
  .nil)
  (.seq (.ite (.not (.call 38 (.io 1 .nil)))
  (.seq (.ret (.cst (.bl false)))
  .nil)
  .nil)
  .nil)))
  (.seq (.for (.n 3) (.rng1 (.cst (.int 15)))
  (.seq (.ite (.eqq true (.call 37 (.cons (.var 3) (.cons (.cst .non) (.cons (.cst .non) .nil)))) (.tup (.cons (.cst (.str "bad")) (.cons (.call 36 (.cons (.var 3) (.cons (.cst .non) (.cons (.cst .non) .nil)))) (.cons (.cst (.bl true)) .nil)))))
  (.seq (.ret (.cst (.bl false)))
  .nil)
  .nil)
  .nil))
  (.seq (.ret (.cst (.bl true)))
  .nil)))))
def d_law : Def := ⟨"law", ["script", "draws", "k", "turn", "given", "due", "told"], 1, [], b_law, none, []⟩
def defs : List Def := [d_is_whole, d_raw_pair, d_lowest_terms, d_ratio_named, d_ratio, d_of, d_plus, d_minus, d_times, d_divided, d_compare, d_lesser, d_greater, d_sum_of, d_rounded_up, d_rounded_down, d_ratio_text, d_whole_from, d_ratio_from, d__law_draws, d__law_take, d__law_whole, d__law_pair, d__law_number, d__law_great, d__law_given, d__law_is, d__law_value, d__law_figures, d__law_reads, d__law_text, d__law_sign, d__law_long, d__law_drawn_text, d__law_any, d__law_call, d__law_due, d__law_refused, d__law_asked, d__law_read_back, d_law]
def inf : Inf := ⟨["abs", "all", "bool", "int", "isinstance", "len", "list", "min", "range", "str", "tuple", "super"], ["gcd"], [⟨"BadNumber", "word"⟩, ⟨"BadText", "line"⟩], [], ["RainError", "ValueError"], ["line", "word"], [("LONGEST", (.int 40)), ("FIGURES", (.str "0123456789"))], []⟩
abbrev i_is_whole : Nat := 0
abbrev i_raw_pair : Nat := 1
abbrev i_lowest_terms : Nat := 2
abbrev i_ratio_named : Nat := 3
abbrev i_ratio : Nat := 4
abbrev i_of : Nat := 5
abbrev i_plus : Nat := 6
abbrev i_minus : Nat := 7
abbrev i_times : Nat := 8
abbrev i_divided : Nat := 9
abbrev i_compare : Nat := 10
abbrev i_lesser : Nat := 11
abbrev i_greater : Nat := 12
abbrev i_sum_of : Nat := 13
abbrev i_rounded_up : Nat := 14
abbrev i_rounded_down : Nat := 15
abbrev i_ratio_text : Nat := 16
abbrev i_whole_from : Nat := 17
abbrev i_ratio_from : Nat := 18
abbrev i__law_draws : Nat := 19
abbrev i__law_take : Nat := 20
abbrev i__law_whole : Nat := 21
abbrev i__law_pair : Nat := 22
abbrev i__law_number : Nat := 23
abbrev i__law_great : Nat := 24
abbrev i__law_given : Nat := 25
abbrev i__law_is : Nat := 26
abbrev i__law_value : Nat := 27
abbrev i__law_figures : Nat := 28
abbrev i__law_reads : Nat := 29
abbrev i__law_text : Nat := 30
abbrev i__law_sign : Nat := 31
abbrev i__law_long : Nat := 32
abbrev i__law_drawn_text : Nat := 33
abbrev i__law_any : Nat := 34
abbrev i__law_call : Nat := 35
abbrev i__law_due : Nat := 36
abbrev i__law_refused : Nat := 37
abbrev i__law_asked : Nat := 38
abbrev i__law_read_back : Nat := 39
abbrev i_law : Nat := 40
abbrev c_BadNumber : Nat := 0
abbrev c_BadText : Nat := 1
abbrev FU : Nat := 1000
abbrev CD : Nat → Gam := callD defs FU
end K01
set_option maxHeartbeats 4000000
namespace K01
open PySem L2 VI
/-! part L1 -/
theorem step {n f : Nat} {d : Def} {avs : List Slot} (hd : defs[f]? = some d) (hok : avsOk d avs = true) : CD (n + 1) f avs = VI.finish d (evS (CD n) FU d.body (startD d avs)) := by
  show callD defs FU (n + 1) f avs = _
  rw [callD_succ, hd]
  show (if avsOk d avs = true then _ else none) = _
  rw [if_pos hok]
def one (d : D) : Option FOut := some (.ret (.v d) [.no])
def two (d : D) : Option FOut := some (.ret (.v d) [.no, .no])
def thr (d : D) : Option FOut := some (.ret (.v d) [.no, .no, .no])
def isInt : D → Bool
  | .int _ => true
  | _ => false
theorem whole_int (n : Nat) (a : Int) : CD (n + 1) i_is_whole [.v (.int a)] = one (.bl true) := by
  rw [step (d := d_is_whole) rfl rfl]
  rfl
theorem whole_tup (n : Nat) (l : List D) : CD (n + 1) i_is_whole [.v (.tup l)] = one (.bl false) := by
  rw [step (d := d_is_whole) rfl rfl]
  rfl
theorem whole_lst (n : Nat) (l : List D) : CD (n + 1) i_is_whole [.v (.lst l)] = one (.bl false) := by
  rw [step (d := d_is_whole) rfl rfl]
  rfl
theorem whole_str (n : Nat) (l : Str) : CD (n + 1) i_is_whole [.v (.str l)] = one (.bl false) := by
  rw [step (d := d_is_whole) rfl rfl]
  rfl
theorem whole_non (n : Nat) : CD (n + 1) i_is_whole [.v .non] = one (.bl false) := by
  rw [step (d := d_is_whole) rfl rfl]
  rfl
theorem whole_bl (n : Nat) (b : Bool) : CD (n + 1) i_is_whole [.v (.bl b)] = one (.bl false) := by
  rw [step (d := d_is_whole) rfl rfl]
  rfl
theorem lwhole_int (n : Nat) (a : Int) : CD (n + 1) i__law_whole [.v (.int a)] = one (.bl true) := by
  rw [step (d := d__law_whole) rfl rfl]
  rfl
def prR (r : Rat) : D := .tup [.int r.num, .int (r.den : Int)]
theorem den_pos (r : Rat) : (0 : Int) < (r.den : Int) := by have := r.den_pos; omega
theorem low_num {a b : Int} (hb : 0 < b) : (Rat.divInt a b).num = a / ((Nat.gcd a.natAbs b.natAbs : Nat) : Int) := by
  rw [Rat.num_divInt, Int.sign_eq_one_of_pos hb, Int.one_mul, Int.gcd_comm]
  rfl
theorem low_den {a b : Int} (hb : 0 < b) : ((Rat.divInt a b).den : Int) = b / ((Nat.gcd a.natAbs b.natAbs : Nat) : Int) := by
  rw [Rat.den_divInt, if_neg (by omega), Int.gcd_comm]
  show ((b.natAbs / (Nat.gcd a.natAbs b.natAbs) : Nat) : Int) = _
  rw [Int.natCast_ediv, Int.natAbs_of_nonneg (by omega)]
theorem gcd_pos' {a b : Int} (hb : 0 < b) : (0 : Int) < ((Nat.gcd a.natAbs b.natAbs : Nat) : Int) := by
  have := Nat.gcd_pos_of_pos_right a.natAbs (show 0 < b.natAbs by omega)
  omega
theorem gcd_le' {a b : Int} (hb : 0 < b) : (((Nat.gcd a.natAbs b.natAbs : Nat) : Int)).natAbs ≤ b.natAbs := by
  have := Nat.gcd_le_right a.natAbs (show 0 < b.natAbs by omega)
  omega
def Raw (d : D) (a b : Int) : Prop := (d = .int a ∧ b = 1) ∨ (d = .tup [.int a, .int b] ∧ 1 ≤ b)
theorem Raw.pos {d : D} {a b : Int} (h : Raw d a b) : 0 < b := by
  rcases h with ⟨_, rfl⟩ | ⟨_, h⟩ <;> omega
theorem raw_ok (n : Nat) {d : D} {a b : Int} (w : D) (h : Raw d a b) : CD (n + 2) i_raw_pair [.v d, .v w] = two (.tup [.int a, .int b]) := by
  rw [step (d := d_raw_pair) rfl rfl]
  rcases h with ⟨rfl, rfl⟩ | ⟨rfl, hb⟩
  · simp [d_raw_pair, b_raw_pair, whole_int, one, two]
  · simp [d_raw_pair, b_raw_pair, whole_int, whole_tup, one, two, isTy, hb]
theorem low_pos (n : Nat) {a b : Int} {s : Nat} (hb : 0 < b) (hs : b.natAbs < 2 ^ s) (h9 : s ≤ 8000) : CD (n + 1) i_lowest_terms [.v (.int a), .v (.int b)] = two (prR (Rat.divInt a b)) := by
  rw [step (d := d_lowest_terms) rfl rfl]
  have hk : okDiv ((Nat.gcd a.natAbs b.natAbs : Nat) : Int) = true := okDiv_of (b := s) (gcd_pos' hb) (Nat.lt_of_le_of_lt (gcd_le' hb) hs) (by omega)
  have hn : ¬ b < 0 := by omega
  simp [d_lowest_terms, b_lowest_terms, hn, bin_fdiv hk, two, prR, low_num hb, low_den hb]
theorem named_ok (n : Nat) {d : D} {a b : Int} {s : Nat} (w : D) (h : Raw d a b) (hs : b.natAbs < 2 ^ s) (h9 : s ≤ 8000) : CD (n + 3) i_ratio_named [.v d, .v w] = two (prR (Rat.divInt a b)) := by
  rw [step (d := d_ratio_named) rfl rfl]
  have h1 := raw_ok n w h
  have h2 := low_pos (n + 1) (a := a) h.pos hs h9
  simp [d_ratio_named, b_ratio_named, h1, h2, two]
/-- what is no number -/
inductive NoNum : D → Prop
  | non : NoNum .non
  | str (z : Str) : NoNum (.str z)
  | lst (l : List D) : NoNum (.lst l)
  | low (a b : Int) (h : b ≤ 0) : NoNum (.tup [.int a, .int b])
  | three (a b c : D) : NoNum (.tup [a, b, c])
theorem raw_bad (n : Nat) {d : D} (w : D) (h : NoNum d) : CD (n + 2) i_raw_pair [.v d, .v w] = some (.ex c_BadNumber [("word", w)] [.no, .no]) := by
  rw [step (d := d_raw_pair) rfl rfl]
  cases h with
  | non => simp [d_raw_pair, b_raw_pair, whole_non, one, isTy]
  | str z => simp [d_raw_pair, b_raw_pair, whole_str, one, isTy]
  | lst l => simp [d_raw_pair, b_raw_pair, whole_lst, one, isTy]
  | low a b hb => 
    have : ¬ 1 ≤ b := by omega
    simp [d_raw_pair, b_raw_pair, whole_tup, whole_int, one, isTy, this]
  | three a b c => simp [d_raw_pair, b_raw_pair, whole_tup, one, isTy]
theorem named_bad (n : Nat) {d : D} (w : D) (h : NoNum d) : CD (n + 3) i_ratio_named [.v d, .v w] = some (.ex c_BadNumber [("word", w)] [.no, .no]) := by
  rw [step (d := d_ratio_named) rfl rfl]
  have h1 := raw_bad n w h
  simp [d_ratio_named, b_ratio_named, h1]
/-! draws -/
def Dr (l : List Int) : Slot := .l (iL l)
theorem at_last (l : List Int) (a : Int) : (iL (l ++ [a]))[(iL (l ++ [a])).length - 1]? = some (.int a) := by simp
theorem take_ok (n : Nat) (xs : List Int) {m : Int} (hm : 0 < m) : ∃ xs' v, 0 ≤ v ∧ v < m ∧ CD (n + 1) i__law_take [Dr xs, .v (.int m)] = some (.ret (.v (.int v)) [Dr xs', .no]) := by
  rcases List.eq_nil_or_concat xs with rfl | ⟨ys, v, rfl⟩
  · refine ⟨[], 0, by decide, hm, ?_⟩
    rw [step (d := d__law_take) rfl rfl]
    simp [d__law_take, b__law_take, Dr]
  · refine ⟨ys, v % m, Int.emod_nonneg _ (by omega), Int.emod_lt_of_pos _ hm, ?_⟩
    rw [step (d := d__law_take) rfl rfl]
    have hne : ¬ ((ys.length : Int) + 1 = 0) := by omega
    simp [d__law_take, b__law_take, Dr, hne, bin_mod hm]
/-! part L2 -/
@[simp] theorem lenD_scr (l : List D) : lenD (.scr l) = some (.int l.length) := rfl
@[simp] theorem ixD_scr (l : List D) (i : Int) : ixD (.scr l) (.int i) = atI l i := rfl
theorem pow18 : binD .pow (.int 10) (.int 18) = some (.int 1000000000000000000) := by
  show (if okPow 10 18 = true then some (D.int ((10 : Int) ^ (18 : Int).toNat)) else none) = _
  rw [if_pos (by decide)]
  rfl
theorem dv30 (i : Int) : binD .fdiv (.int i) (.int 30) = some (.int (i / 30)) := bin_fdiv (okDiv_of (b := 10) (by decide) (by decide) (by decide))
theorem md (i m : Int) (h : 0 < m) : binD .mod (.int i) (.int m) = some (.int (i % m)) := bin_mod h
theorem mulR (i j : Int) (h : -(2 ^ 64) < j ∧ j < 2 ^ 64) : binD .mul (.int i) (.int j) = some (.int (i * j)) := bin_mul (okMul_r h)
theorem mulL (i j : Int) (h : -(2 ^ 64) < i ∧ i < 2 ^ 64) : binD .mul (.int i) (.int j) = some (.int (i * j)) := bin_mul (okMul_l h)
theorem rng_lit (n : Nat) (i : Int) (hi : i = (n : Int)) (h : n < 2 ^ 62) : rng1D (.int i) = some (nL (List.range n)) := by rw [hi, rng1D_nat h]
theorem min_len (n : Nat) : rng1D (.int (if (63 : Int) < (n : Int) then 63 else (n : Int))) = some (nL (List.range (min n 63))) := by
  refine rng_lit _ _ ?_ (by omega)
  split <;> omega
def DI (s0 : Slot) (k : Nat) (ρ : VI.Env) : Prop := ∃ xs s2 s3 s4 s5, xs.length ≤ 50 * k ∧ ρ = [s0, Dr xs, s2, s3, s4, s5]
def D50 (s0 : VI.Slot) (j k : Nat) (ρ : VI.Env) : Prop := ∃ ys c s4 s5, ys.length ≤ 50 * j + k ∧ ρ = [s0, Dr ys, .v (.int j), .v (.int c), s4, s5]
def D7 (s0 : VI.Slot) (j k : Nat) (ρ : VI.Env) : Prop := ∃ ys c s4, ys.length ≤ 50 * j + k ∧ 0 ≤ c ∧ c < 1000000007 ∧ ∃ s3, ρ = [s0, Dr ys, .v (.int j), s3, s4, .v (.int c)]
theorem draws_ok (n : Nat) (ns : List Int) (hl : ns.length ≤ 63) : ∃ xs, CD (n + 1) i__law_draws [.v (.scr (iL ns))] = some (.ret (Dr xs) [.no]) := by
  suffices h : ∃ o, CD (n + 1) i__law_draws [.v (.scr (iL ns))] = some o ∧ ∃ xs, o = .ret (Dr xs) [.no] by
    obtain ⟨_, h, xs, rfl⟩ := h
    exact ⟨xs, h⟩
  refine call_ws (d := d__law_draws) rfl rfl ?_
  simp [d__law_draws, b__law_draws, min_len]
  refine ws_loop (DI (.v (.scr (iL ns)))) ⟨[], .no, .no, .no, .no, by simp, rfl⟩ ?_ ?_
  · rintro j d ρ hd ⟨xs, s2, s3, s4, s5, hx, rfl⟩
    have hj : j < ns.length := by
      have := (List.getElem?_eq_some_iff.mp hd).1
      simp at this
      omega
    have hj2 : j < min ns.length 63 := by omega
    simp [hj2, List.getElem?_range] at hd
    subst hd
    have hat : atI (iL ns) (j : Int) = some (.int ns[j]) := atI_map (List.getElem?_eq_getElem hj)
    have key : ∀ (c : Int) (s4 s5 : VI.Slot), WS (evS (CD n) FU (.seq (.ite (.cmp .ge (.var 3) (.bin .pow (.cst (.int 10)) (.cst (.int 18))))
        (.seq (.for (.n 4) (.rng1 (.cst (.int 50))) (.seq (.ite (.cmp .gt (.var 3) (.cst (.int 0))) (.seq (.app 1 (.bin .mod (.int1 (.var 3)) (.cst (.int 30)))) (.seq (.asg 3 (.bin .fdiv (.var 3) (.cst (.int 30)))) .nil)) .nil) .nil)) .nil)
        (.seq (.asg 5 (.bin .mod (.int1 (.bin .add (.bin .add (.bin .mul (.var 3) (.cst (.int 104729))) (.bin .mul (.var 2) (.cst (.int 7919)))) (.cst (.int 1)))) (.cst (.int 998244353))))
        (.seq (.for (.n 4) (.rng1 (.cst (.int 7))) (.seq (.asg 5 (.bin .mod (.int1 (.bin .add (.bin .add (.bin .add (.bin .mul (.var 5) (.var 5)) (.bin .mul (.var 4) (.cst (.int 65537)))) (.var 2)) (.cst (.int 3)))) (.cst (.int 1000000007)))) (.seq (.app 1 (.var 5)) .nil))) .nil))) .nil)
        [.v (.scr (iL ns)), Dr xs, .v (.int j), .v (.int c), s4, s5]) (nxP (DI (.v (.scr (iL ns))) (j + 1)) fun _ => False) := by
      intro c s4 s5
      simp [pow18]
      refine ws_if (fun hc => ?_) (fun hc => ?_)
      · simp [rng_lit 50 50 rfl (by decide)]
        refine ws_loopE (D50 (.v (.scr (iL ns))) j) ⟨xs, c, s4, s5, by omega, rfl⟩ ?_ ?_
        · rintro k d ρ hd ⟨ys, c, s4, s5, hy, rfl⟩
          have hk : k < 50 := by have := (List.getElem?_eq_some_iff.mp hd).1; simpa using this
          have hl2 : ys.length < sizeLine := lt_line (by omega)
          simp
          refine ws_if (fun h => ?_) (fun h => ?_)
          · simp [md, dv30, Dr, hl2]
            exact ⟨ys ++ [c % 30], c / 30, .v d, s5, by simp; omega, by simp [Dr]⟩
          · simp
            exact ⟨ys, _, _, _, by omega, rfl⟩
        · rintro ρ ⟨ys, c, s4, s5, hy, rfl⟩
          simp at hy
          simp
          exact ⟨ys, _, _, _, _, by omega, rfl⟩
      · simp [mulR, md, rng_lit 7 7 rfl (by decide)]
        refine ws_loopE (D7 (.v (.scr (iL ns))) j) ⟨xs, _, s4, by omega, Int.emod_nonneg _ (by decide), ?_, _, rfl⟩ ?_ ?_
        · have := Int.emod_lt_of_pos (c * 104729 + j * 7919 + 1) (show (0 : Int) < 998244353 by decide)
          omega
        · rintro k d ρ hd ⟨ys, c, s4, hy, c0, c1, s3, rfl⟩
          have hk : k < 7 := by have := (List.getElem?_eq_some_iff.mp hd).1; simpa using this
          have hl2 : ys.length < sizeLine := lt_line (by omega)
          simp [List.getElem?_range hk] at hd
          subst hd
          have m1 : okMul c c = true := okMul_of (a := 40) (b := 40) (by omega) (by omega) (by decide)
          simp [mulR, md, bin_mul m1, Dr, hl2]
          exact ⟨ys ++ [(c * c + k * 65537 + j + 3) % 1000000007], (c * c + k * 65537 + j + 3) % 1000000007, .v (.int k), by simp; omega, Int.emod_nonneg _ (by decide), Int.emod_lt_of_pos _ (by decide), s3, by simp [Dr]⟩
        · rintro ρ ⟨ys, c, s4, hy, c0, c1, s3, rfl⟩
          simp at hy
          simp
          exact ⟨ys, _, _, _, _, by omega, rfl⟩
    have fin : ∀ {o : Option SOut} {B P}, WS o (nxP (DI (.v (.scr (iL ns))) (j + 1)) fun _ => False) → WS o (loopP (DI (.v (.scr (iL ns))) (j + 1)) B P) := fun h => h.mono fun s p => by
      cases s <;> first | exact p | exact p.elim
    refine ws_body (by simp) ?_
    refine ws_mid (fun ρ => ∃ c : Int, ρ = [.v (.scr (iL ns)), Dr xs, .v (.int j), .v (.int c), s4, s5]) ?_ ?_
    · simp [hat]
    rintro _ ⟨c, rfl⟩
    refine ws_mid (fun ρ => ∃ c : Int, ρ = [.v (.scr (iL ns)), Dr xs, .v (.int j), .v (.int c), s4, s5]) ?_ ?_
    · simp [mulL]
      exact ws_if (fun h => by simp) (fun h => by simp)
    rintro _ ⟨c, rfl⟩
    exact fin (key _ _ _)
  · rintro ρ ⟨xs, s2, s3, s4, s5, hx, rfl⟩
    simp [Dr]
    exact ⟨xs.reverse, by simp⟩
/-! part L3 -/
@[simp] theorem isOwn_Dr (l : List Int) : isOwn (Dr l) = true := rfl
@[simp] theorem forL (f : D → VI.Env → Option SOut) (ρ : VI.Env) : loopS f [] ρ = some (.nx ρ) := rfl
/-! part L29 -/
theorem cat_ok {a b : List VI.D} (h : a.length + b.length ≤ 1000) : catL (.lst a) (.lst b) = some (a ++ b) := if_pos (le_line (by omega))
/-! part L30 -/
theorem take_cell (n : Nat) (xs : List Int) {m : Nat} (hm : 0 < m) : ∃ xs', ∃ v : Nat, v < m ∧ CD (n + 1) i__law_take [Dr xs, .v (.int (m : Int))] = some (.ret (.v (.int (v : Int))) [Dr xs', .no]) := by
  obtain ⟨x1, v, v1, v2, e1⟩ := take_ok n xs (m := (m : Int)) (by omega)
  refine ⟨x1, v.toNat, by omega, ?_⟩
  rw [e1, Int.toNat_of_nonneg v1]
/-! part R1 -/
theorem num_le {a b : Int} (hb : 0 < b) : (Rat.divInt a b).num.natAbs ≤ a.natAbs := by
  rw [low_num hb]
  exact Int.natAbs_ediv_le_natAbs _ _
theorem den_le {a b : Int} (hb : 0 < b) : ((Rat.divInt a b).den : Int).natAbs ≤ b.natAbs := by
  rw [low_den hb]
  exact Int.natAbs_ediv_le_natAbs _ _
theorem rat_ne {b : Int} (hb : 0 < b) : (b : Rat) ≠ 0 := by
  intro h
  have : b = 0 := by exact_mod_cast h
  omega
theorem rat_pos {b : Int} (hb : 0 < b) : (0 : Rat) < (b : Rat) := by exact_mod_cast hb
theorem add_same (a c : Int) {b : Int} : Rat.divInt (a + c) b = Rat.divInt a b + Rat.divInt c b := by
  rw [Rat.divInt_eq_div, Rat.divInt_eq_div, Rat.divInt_eq_div, Rat.div_def, Rat.div_def, Rat.div_def, Rat.intCast_add, Rat.add_mul]
theorem sub_same (a c : Int) {b : Int} : Rat.divInt (a - c) b = Rat.divInt a b - Rat.divInt c b := by
  rw [Rat.divInt_eq_div, Rat.divInt_eq_div, Rat.divInt_eq_div, Rat.div_def, Rat.div_def, Rat.div_def, Rat.intCast_sub]
  grind
theorem lt_iff {a b c d : Int} (hb : 0 < b) (hd : 0 < d) : Rat.divInt a b < Rat.divInt c d ↔ a * d < c * b := by
  rw [Rat.divInt_eq_div, Rat.divInt_eq_div, Rat.div_lt_iff (rat_pos hb), Rat.div_def, Rat.mul_assoc, Rat.mul_comm _ (b : Rat), ← Rat.mul_assoc, ← Rat.div_def, Rat.lt_div_iff (rat_pos hd)]
  exact_mod_cast Iff.rfl
theorem le_div {x y c : Rat} (hc : 0 < c) : x ≤ y / c ↔ x * c ≤ y := by
  rw [← Rat.not_lt, ← Rat.not_lt, Rat.div_lt_iff hc]
theorem floor_divInt {a b : Int} (hb : 0 < b) : (Rat.divInt a b).floor = a / b := by
  refine Int.le_antisymm ?_ ?_
  · refine (Int.le_ediv_iff_mul_le hb).mpr ?_
    have h := Rat.floor_le (Rat.divInt a b)
    rw [Rat.divInt_eq_div] at h ⊢
    have h2 := (le_div (rat_pos hb)).mp h
    exact_mod_cast h2
  · rw [Rat.le_floor_iff, Rat.divInt_eq_div, le_div (rat_pos hb)]
    have h := Int.ediv_mul_le a (show b ≠ 0 by omega)
    exact_mod_cast h
theorem num_den_floor (r : Rat) : r.num / (r.den : Int) = r.floor := (Rat.floor_def r).symm
structure Sz (d : VI.D) (r : Rat) (s : Nat) : Prop where
  has : ∃ a b, Raw d a b ∧ r = Rat.divInt a b ∧ a.natAbs < 2 ^ s ∧ b.natAbs < 2 ^ s
theorem pw {x : Nat} {s t : Nat} (h : x < 2 ^ s) (hs : s ≤ t) : x < 2 ^ t := Nat.lt_of_lt_of_le h (Nat.pow_le_pow_right (by decide) hs)
theorem prR_raw (r : Rat) : Raw (prR r) r.num (r.den : Int) := .inr ⟨rfl, by have := den_pos r; omega⟩
theorem prR_sz {r : Rat} {a b : Int} {s : Nat} (hb : 0 < b) (h : r = Rat.divInt a b) (ha : a.natAbs < 2 ^ s) (hb' : b.natAbs < 2 ^ s) : Sz (prR r) r s :=
  ⟨r.num, (r.den : Int), prR_raw r, (Rat.num_divInt_den r).symm, by rw [h]; exact Nat.lt_of_le_of_lt (num_le hb) ha, by rw [h]; exact Nat.lt_of_le_of_lt (den_le hb) hb'⟩
theorem mul_lt {a d : Int} {s t : Nat} (ha : a.natAbs < 2 ^ s) (hd : d.natAbs < 2 ^ t) : (a * d).natAbs < 2 ^ (s + t) := by
  rw [Int.natAbs_mul, Nat.pow_add]
  exact Nat.mul_lt_mul_of_lt_of_lt ha hd
theorem add_lt {a d : Int} {s : Nat} (ha : a.natAbs < 2 ^ s) (hd : d.natAbs < 2 ^ s) : (a + d).natAbs < 2 ^ (s + 1) := by
  have := Int.natAbs_add_le a d
  rw [Nat.pow_succ]
  omega
theorem sub_lt {a d : Int} {s : Nat} (ha : a.natAbs < 2 ^ s) (hd : d.natAbs < 2 ^ s) : (a - d).natAbs < 2 ^ (s + 1) := by
  have := Int.natAbs_sub_le a d
  rw [Nat.pow_succ]
  omega
structure Bd (r : Rat) (s : Nat) : Prop where
  n : r.num.natAbs < 2 ^ s
  d : (r.den : Int).natAbs < 2 ^ s
theorem Sz.bd {d : VI.D} {r : Rat} {s : Nat} (h : Sz d r s) : Bd r s := by
  obtain ⟨a, b, hr, e, h1, h2⟩ := h.has
  exact ⟨by rw [e]; exact Nat.lt_of_le_of_lt (num_le hr.pos) h1, by rw [e]; exact Nat.lt_of_le_of_lt (den_le hr.pos) h2⟩
theorem Bd.sz {r : Rat} {s : Nat} (h : Bd r s) : Sz (prR r) r s := ⟨r.num, (r.den : Int), prR_raw r, (Rat.num_divInt_den r).symm, h.n, h.d⟩
theorem Bd.up {r : Rat} {s t : Nat} (h : Bd r s) (hs : s ≤ t) : Bd r t := ⟨pw h.n hs, pw h.d hs⟩
theorem bd_div {a b : Int} {s : Nat} (hb : 0 < b) (h1 : a.natAbs < 2 ^ s) (h2 : b.natAbs < 2 ^ s) : Bd (Rat.divInt a b) s := ⟨Nat.lt_of_le_of_lt (num_le hb) h1, Nat.lt_of_le_of_lt (den_le hb) h2⟩
theorem rat_add (r q : Rat) : r + q = Rat.divInt (r.num * q.den + q.num * r.den) (r.den * q.den) := by
  have h1 := den_pos r
  have h2 := den_pos q
  rw [← Rat.divInt_add_divInt _ _ (by omega) (by omega), Rat.num_divInt_den, Rat.num_divInt_den]
theorem rat_sub (r q : Rat) : r - q = Rat.divInt (r.num * q.den - q.num * r.den) (r.den * q.den) := by
  have h1 := den_pos r
  have h2 := den_pos q
  rw [← Rat.divInt_sub_divInt _ _ (by omega) (by omega), Rat.num_divInt_den, Rat.num_divInt_den]
theorem rat_mul (r q : Rat) : r * q = Rat.divInt (r.num * q.num) (r.den * q.den) := by
  rw [← Rat.divInt_mul_divInt, Rat.num_divInt_den, Rat.num_divInt_den]
theorem Bd.add {r q : Rat} {s t : Nat} (h : Bd r s) (k : Bd q t) : Bd (r + q) (s + t + 1) := by
  rw [rat_add]
  exact bd_div (Int.mul_pos (den_pos r) (den_pos q)) (add_lt (mul_lt h.n k.d) (by rw [Nat.add_comm]; exact mul_lt k.n h.d)) (pw (mul_lt h.d k.d) (by omega))
theorem Bd.sub {r q : Rat} {s t : Nat} (h : Bd r s) (k : Bd q t) : Bd (r - q) (s + t + 1) := by
  rw [rat_sub]
  exact bd_div (Int.mul_pos (den_pos r) (den_pos q)) (sub_lt (mul_lt h.n k.d) (by rw [Nat.add_comm]; exact mul_lt k.n h.d)) (pw (mul_lt h.d k.d) (by omega))
theorem Bd.mul {r q : Rat} {s t : Nat} (h : Bd r s) (k : Bd q t) : Bd (r * q) (s + t) := by
  rw [rat_mul]
  exact bd_div (Int.mul_pos (den_pos r) (den_pos q)) (mul_lt h.n k.n) (mul_lt h.d k.d)
theorem rat_div (a b c d : Int) : Rat.divInt a b / Rat.divInt c d = Rat.divInt (a * d) (b * c) := by
  rw [Rat.div_def, Rat.inv_divInt, Rat.divInt_mul_divInt]
theorem beq_refl_int (a : Int) : (a == a) = true := by simp
theorem eq_pair (a b c d : Int) : eqD (.tup [.int a, .int b]) (.tup [.int c, .int d]) = some (a == c && b == d) := by
  show some _ = _
  congr 1
  show ((a == c) && ((b == d) && true)) = _
  rw [Bool.and_true]
theorem eqq_prR (r : Rat) : eqqD false (prR r) (prR r) = some (.bl true) := by
  unfold eqqD prR
  rw [eq_pair]
  simp
theorem prR_int (a : Int) : prR (Rat.divInt a 1) = .tup [.int a, .int 1] := by
  unfold prR
  rw [low_num (by decide), low_den (by decide)]
  simp
theorem prR_nd (r : Rat) : prR (Rat.divInt r.num r.den) = prR r := by rw [Rat.num_divInt_den]
theorem lt_nd (r q : Rat) : r < q ↔ r.num * q.den < q.num * r.den := by
  have := lt_iff (den_pos r) (den_pos q) (a := r.num) (c := q.num)
  rwa [Rat.num_divInt_den, Rat.num_divInt_den] at this
/-! part R2 -/
theorem low_neg (n : Nat) {a b : Int} {s : Nat} (hb : b < 0) (hs : b.natAbs < 2 ^ s) (h9 : s ≤ 8000) : CD (n + 1) i_lowest_terms [.v (.int a), .v (.int b)] = two (prR (Rat.divInt a b)) := by
  rw [step (d := d_lowest_terms) rfl rfl]
  have hb' : 0 < -b := by omega
  have hk : okDiv ((Nat.gcd (-a).natAbs (-b).natAbs : Nat) : Int) = true := okDiv_of (b := s) (gcd_pos' hb') (Nat.lt_of_le_of_lt (gcd_le' hb') (by rw [Int.natAbs_neg]; exact hs)) (by omega)
  have e : Rat.divInt a b = Rat.divInt (-a) (-b) := (Rat.neg_divInt_neg a b).symm
  have h1 := bin_fdiv (i := -a) hk
  have h2 := bin_fdiv (i := -b) hk
  rw [e]
  simp only [Int.natAbs_neg] at h1 h2
  simp [d_lowest_terms, b_lowest_terms, hb, h1, h2, two, prR, low_num hb', low_den hb']
theorem low_any (n : Nat) {s : Nat} {a b : Int} (hb : b ≠ 0) (hs : b.natAbs < 2 ^ s) (h9 : s ≤ 8000) : CD (n + 1) i_lowest_terms [.v (.int a), .v (.int b)] = two (prR (Rat.divInt a b)) := by
  by_cases h : 0 < b
  · exact low_pos n h hs h9
  · exact low_neg n (by omega) hs h9
/-- what compare says -/
def cmpR (r q : Rat) : Int := if r < q then -1 else if q < r then 1 else 0
theorem cmpR_le (r q : Rat) : cmpR r q ≤ 0 ↔ r ≤ q := by
  unfold cmpR
  split
  · rename_i h
    exact ⟨fun _ => Rat.le_of_lt h, fun _ => by decide⟩
  · split
    · rename_i h
      exact ⟨fun h => absurd h (by decide), fun h' => absurd h (Rat.not_lt.mpr h')⟩
    · rename_i h
      exact ⟨fun _ => Rat.not_lt.mp h, fun _ => by decide⟩
theorem cmpR_ge (r q : Rat) : 0 ≤ cmpR r q ↔ q ≤ r := by
  unfold cmpR
  split
  · rename_i h
    exact ⟨fun h => absurd h (by decide), fun h' => absurd h (Rat.not_lt.mpr h')⟩
  · rename_i h
    refine ⟨fun _ => Rat.not_lt.mp h, fun _ => ?_⟩
    split <;> decide
theorem ratio_named_ok {x : VI.D} {r : Rat} {s : Nat} (n : Nat) (w : VI.D) (hx : Sz x r s) (h9 : s ≤ 8000) : CD (n + 3) i_ratio_named [.v x, .v w] = two (prR r) := by
  obtain ⟨a, b, hr, rfl, h1, h2⟩ := hx.has
  rw [step (d := d_ratio_named) rfl rfl]
  simp [d_ratio_named, b_ratio_named, raw_ok n _ hr, low_pos _ hr.pos h2 h9, two]
theorem ratio_ok {x : VI.D} {r : Rat} {s : Nat} (n : Nat) (hx : Sz x r s) (h9 : s ≤ 8000) : CD (n + 4) i_ratio [.v x] = one (prR r) := by
  rw [step (d := d_ratio) rfl rfl]
  simp [d_ratio, b_ratio, ratio_named_ok n _ hx h9, one, two]
theorem plus_ok {x : VI.D} {y : VI.D} {r : Rat} {q : Rat} {s : Nat} {t : Nat} (n : Nat) (hx : Sz x r s) (hy : Sz y q t) (h9 : s + t ≤ 8000) : CD (n + 3) i_plus [.v x, .v y] = two (prR (r + q)) := by
  obtain ⟨a, b, hr, rfl, h1, h2⟩ := hx.has
  obtain ⟨c, d, hq, rfl, h3, h4⟩ := hy.has
  have hb := hr.pos
  have hd := hq.pos
  rw [step (d := d_plus) rfl rfl]
  by_cases hbd : b = d
  · subst hbd
    simp [d_plus, b_plus, raw_ok n _ hr, raw_ok n _ hq, low_pos _ hb h2 (show s ≤ 8000 by omega), two, add_same]
  · rw [Rat.divInt_add_divInt _ _ (by omega) (by omega)]
    simp [d_plus, b_plus, raw_ok n _ hr, raw_ok n _ hq, hbd, bin_mul (okMul_of h1 h4 (by omega)), bin_mul (okMul_of h3 h2 (by omega)), bin_mul (okMul_of h2 h4 (by omega)), low_pos _ (Int.mul_pos hb hd) (mul_lt h2 h4) (show s + t ≤ 8000 by omega), two]
theorem minus_ok {x : VI.D} {y : VI.D} {r : Rat} {q : Rat} {s : Nat} {t : Nat} (n : Nat) (hx : Sz x r s) (hy : Sz y q t) (h9 : s + t ≤ 8000) : CD (n + 3) i_minus [.v x, .v y] = two (prR (r - q)) := by
  obtain ⟨a, b, hr, rfl, h1, h2⟩ := hx.has
  obtain ⟨c, d, hq, rfl, h3, h4⟩ := hy.has
  have hb := hr.pos
  have hd := hq.pos
  rw [step (d := d_minus) rfl rfl]
  by_cases hbd : b = d
  · subst hbd
    simp [d_minus, b_minus, raw_ok n _ hr, raw_ok n _ hq, low_pos _ hb h2 (show s ≤ 8000 by omega), two, sub_same]
  · rw [Rat.divInt_sub_divInt _ _ (by omega) (by omega)]
    simp [d_minus, b_minus, raw_ok n _ hr, raw_ok n _ hq, hbd, bin_mul (okMul_of h1 h4 (by omega)), bin_mul (okMul_of h3 h2 (by omega)), bin_mul (okMul_of h2 h4 (by omega)), low_pos _ (Int.mul_pos hb hd) (mul_lt h2 h4) (show s + t ≤ 8000 by omega), two]
theorem times_ok {x : VI.D} {y : VI.D} {r : Rat} {q : Rat} {s : Nat} {t : Nat} (n : Nat) (hx : Sz x r s) (hy : Sz y q t) (h9 : s + t ≤ 8000) : CD (n + 3) i_times [.v x, .v y] = two (prR (r * q)) := by
  obtain ⟨a, b, hr, rfl, h1, h2⟩ := hx.has
  obtain ⟨c, d, hq, rfl, h3, h4⟩ := hy.has
  rw [step (d := d_times) rfl rfl, Rat.divInt_mul_divInt]
  simp [d_times, b_times, raw_ok n _ hr, raw_ok n _ hq, bin_mul (okMul_of h1 h3 (by omega)), bin_mul (okMul_of h2 h4 (by omega)), low_pos _ (Int.mul_pos hr.pos hq.pos) (mul_lt h2 h4) (show s + t ≤ 8000 by omega), two]
theorem divided_ok {x : VI.D} {y : VI.D} {r : Rat} {q : Rat} {s : Nat} {t : Nat} (n : Nat) (hx : Sz x r s) (hy : Sz y q t) (h0 : q ≠ 0) (h9 : s + t ≤ 8000) : CD (n + 3) i_divided [.v x, .v y] = two (prR (r / q)) := by
  obtain ⟨a, b, hr, rfl, h1, h2⟩ := hx.has
  obtain ⟨c, d, hq, rfl, h3, h4⟩ := hy.has
  have hc : c ≠ 0 := by
    intro e
    subst e
    exact h0 (Rat.zero_divInt _)
  have hb := hr.pos
  rw [step (d := d_divided) rfl rfl, rat_div]
  simp [d_divided, b_divided, raw_ok n _ hr, raw_ok n _ hq, hc, bin_mul (okMul_of h1 h4 (by omega)), bin_mul (okMul_of h2 h3 (by omega)), low_any _ (Int.mul_ne_zero (by omega) hc) (mul_lt h2 h3) (show s + t ≤ 8000 by omega), two]
theorem compare_ok {x : VI.D} {y : VI.D} {r : Rat} {q : Rat} {s : Nat} {t : Nat} (n : Nat) (hx : Sz x r s) (hy : Sz y q t) (h9 : s + t ≤ 8000) : CD (n + 3) i_compare [.v x, .v y] = two (.int (cmpR r q)) := by
  obtain ⟨a, b, hr, rfl, h1, h2⟩ := hx.has
  obtain ⟨c, d, hq, rfl, h3, h4⟩ := hy.has
  rw [step (d := d_compare) rfl rfl]
  unfold cmpR
  simp only [lt_iff hr.pos hq.pos, lt_iff hq.pos hr.pos]
  simp [d_compare, b_compare, raw_ok n _ hr, raw_ok n _ hq, bin_mul (okMul_of h1 h4 (by omega)), bin_mul (okMul_of h3 h2 (by omega)), two]
  by_cases e1 : a * d < c * b
  · simp [e1]
  · by_cases e2 : c * b < a * d
    · simp [e1, e2]
    · simp [e1, e2]
theorem lesser_ok {x : VI.D} {y : VI.D} {r : Rat} {q : Rat} {s : Nat} {t : Nat} (n : Nat) (hx : Sz x r s) (hy : Sz y q t) (h9 : s + t ≤ 8000) : CD (n + 4) i_lesser [.v x, .v y] = two (prR (if r ≤ q then r else q)) := by
  rw [step (d := d_lesser) rfl rfl]
  by_cases h : r ≤ q
  · simp [d_lesser, b_lesser, compare_ok n hx hy h9, cmpR_le, h, ratio_named_ok n _ hx (show s ≤ 8000 by omega), two]
  · simp [d_lesser, b_lesser, compare_ok n hx hy h9, cmpR_le, h, ratio_named_ok n _ hy (show t ≤ 8000 by omega), two]
theorem greater_ok {x : VI.D} {y : VI.D} {r : Rat} {q : Rat} {s : Nat} {t : Nat} (n : Nat) (hx : Sz x r s) (hy : Sz y q t) (h9 : s + t ≤ 8000) : CD (n + 4) i_greater [.v x, .v y] = two (prR (if q ≤ r then r else q)) := by
  rw [step (d := d_greater) rfl rfl]
  by_cases h : q ≤ r
  · simp [d_greater, b_greater, compare_ok n hx hy h9, cmpR_ge, h, ratio_named_ok n _ hx (show s ≤ 8000 by omega), two]
  · simp [d_greater, b_greater, compare_ok n hx hy h9, cmpR_ge, h, ratio_named_ok n _ hy (show t ≤ 8000 by omega), two]
theorem down_ok {x : VI.D} {r : Rat} {s : Nat} (n : Nat) (hx : Sz x r s) (h9 : s ≤ 8000) : CD (n + 3) i_rounded_down [.v x] = one (.int r.floor) := by
  obtain ⟨a, b, hr, rfl, h1, h2⟩ := hx.has
  rw [step (d := d_rounded_down) rfl rfl, floor_divInt hr.pos]
  simp [d_rounded_down, b_rounded_down, raw_ok n _ hr, bin_fdiv (okDiv_of hr.pos h2 (by omega)), one, two]
theorem up_ok {x : VI.D} {r : Rat} {s : Nat} (n : Nat) (hx : Sz x r s) (h9 : s ≤ 8000) : CD (n + 3) i_rounded_up [.v x] = one (.int (-(-r).floor)) := by
  obtain ⟨a, b, hr, rfl, h1, h2⟩ := hx.has
  rw [step (d := d_rounded_up) rfl rfl, Rat.neg_divInt, floor_divInt hr.pos]
  simp [d_rounded_up, b_rounded_up, raw_ok n _ hr, bin_fdiv (okDiv_of hr.pos h2 (by omega)), one, two]
theorem of_ok {s : Nat} (n : Nat) {a b : Int} (hb : b ≠ 0) (hs : b.natAbs < 2 ^ s) (h9 : s ≤ 8000) : CD (n + 2) i_of [.v (.int a), .v (.int b)] = two (prR (Rat.divInt a b)) := by
  rw [step (d := d_of) rfl rfl]
  simp [d_of, b_of, whole_int, hb, low_any _ hb hs h9, one, two]
/-! part R3 -/
def euB : S := (.seq (.ite (.eqq false (.var 3) (.cst (.int 0)))
  (.seq .brk
  .nil)
  .nil)
  (.seq (.asg 5 (.bin .mod (.int1 (.var 2)) (.var 3)))
  (.seq (.asg 2 (.var 3))
  (.seq (.asg 3 (.var 5))
  .nil))))
theorem half {b c : Nat} (h0 : 0 < c) (h : c < b) : 2 * (b % c) < b := by
  have h1 := Nat.div_add_mod b c
  have h2 := Nat.mod_lt b h0
  have h3 : 0 < b / c := Nat.div_pos (by omega) h0
  have h4 : c * 1 ≤ c * (b / c) := Nat.mul_le_mul_left c h3
  omega
theorem eu_stop (Γ : Gam) (d : VI.D) (ds : List D) (a : Nat) (t u k r : Slot) :
    loopS (kBody Γ FU (.n 4) euB) (d :: ds) [t, u, .v (.int a), .v (.int 0), k, r] = some (.nx [t, u, .v (.int a), .v (.int 0), .v d, r]) := by
  simp [loopS, euB]
theorem eu_go (Γ : Gam) (d : VI.D) (ds : List D) (a b : Nat) (h : 0 < b) (t u k r : Slot) :
    loopS (kBody Γ FU (.n 4) euB) (d :: ds) [t, u, .v (.int a), .v (.int b), k, r] = loopS (kBody Γ FU (.n 4) euB) ds [t, u, .v (.int b), .v (.int (a % b : Nat)), .v d, .v (.int (a % b : Nat))] := by
  have hb : (0 : Int) < b := by omega
  have h0 : ¬ (b = 0) := by omega
  rw [loopS]
  simp [euB, h0, bin_mod (i := (a : Int)) hb]
theorem eu_loop (Γ : Gam) : ∀ (m : Nat) (ds : List D) (a b : Nat) (t u k r : Slot), b < 2 ^ m → 2 * m + 1 ≤ ds.length → ∃ k' r',
    loopS (kBody Γ FU (.n 4) euB) ds [t, u, .v (.int a), .v (.int b), k, r] = some (.nx [t, u, .v (.int (Nat.gcd a b : Nat)), .v (.int 0), k', r'])
  | 0, [], _, _, _, _, _, _, _, hl => absurd hl (by simp)
  | 0, d :: ds, a, b, t, u, k, r, hb, _ => by
    obtain rfl : b = 0 := by simpa using hb
    exact ⟨_, _, (eu_stop Γ d ds a t u k r).trans (by rw [Nat.gcd_zero_right])⟩
  | m + 1, [], _, _, _, _, _, _, _, hl => absurd hl (by simp)
  | m + 1, [_], _, _, _, _, _, _, _, hl => absurd hl (by simp)
  | m + 1, d :: e :: ds, a, b, t, u, k, r, hb, hl => by
    rcases Nat.eq_zero_or_pos b with rfl | h
    · rw [Nat.gcd_zero_right]
      exact ⟨_, _, eu_stop Γ d _ a t u k r⟩
    · rw [eu_go Γ d _ a b h]
      have e1 : Nat.gcd a b = Nat.gcd (a % b) b := by rw [Nat.gcd_comm, Nat.gcd_rec]
      rcases Nat.eq_zero_or_pos (a % b) with h1 | h1
      · rw [e1, h1, Nat.gcd_zero_left]
        exact ⟨_, _, eu_stop Γ e _ b t u _ _⟩
      · rw [eu_go Γ e _ b (a % b) h1]
        have hh := half h1 (Nat.mod_lt a h)
        have e2 : Nat.gcd (a % b) b = Nat.gcd (a % b) (b % (a % b)) := by rw [Nat.gcd_rec, Nat.gcd_comm]
        rw [e1, e2]
        exact eu_loop Γ m ds (a % b) (b % (a % b)) t u (.v e) (.v (.int (b % (a % b) : Nat))) (by rw [Nat.pow_succ] at hb; omega) (by simp at hl; omega)
theorem law_pair_ok (n : Nat) {a b : Int} {s : Nat} (hb : 0 < b) (hs : b.natAbs < 2 ^ s) (h9 : s ≤ 8000) : CD (n + 1) i__law_pair [.v (.int a), .v (.int b)] = two (prR (Rat.divInt a b)) := by
  rw [step (d := d__law_pair) rfl rfl]
  have hbits : Builtin.Int.intBits b ≤ s := PySem.intBits_le_iff.mpr hs
  have hbb : b.natAbs < 2 ^ (Builtin.Int.intBits b) := PySem.intBits_le_iff.mp (Nat.le_refl _)
  have hk : okDiv ((Nat.gcd a.natAbs b.natAbs : Nat) : Int) = true := okDiv_of (b := s) (gcd_pos' hb) (Nat.lt_of_le_of_lt (gcd_le' hb) hs) (by omega)
  obtain ⟨k', r', hl⟩ := eu_loop (CD n) (Builtin.Int.intBits b) (nL (List.range (2 * Builtin.Int.intBits b + 10))) a.natAbs b.natAbs (.v (.int a)) (.v (.int b)) .no .no hbb (by simp)
  have ea : (if a < 0 then -a else a) = ((a.natAbs : Nat) : Int) := by split <;> omega
  have eb : ((b.natAbs : Nat) : Int) = b := by omega
  rw [eb] at hl
  have hm : okMul 2 ((Builtin.Int.intBits b : Nat) : Int) = true := okMul_l (by decide)
  have hrg : rng1D (.int (2 * ((Builtin.Int.intBits b : Nat) : Int) + 10)) = some (nL (List.range (2 * Builtin.Int.intBits b + 10))) := by
    have := rng1D_nat (n := 2 * Builtin.Int.intBits b + 10) (by omega)
    simpa using this
  unfold euB at hl
  simp [d__law_pair, b__law_pair, ea, bin_mul hm, hrg, hl, bin_fdiv hk, two, prR, low_num hb, low_den hb]
theorem number_ok {r : Rat} {s : Nat} (n : Nat) (h : Bd r s) (h9 : s ≤ 8000) : CD (n + 2) i__law_number [.v (prR r)] = one (.bl true) := by
  have hp := law_pair_ok n (den_pos r) h.d h9 (a := r.num)
  rw [prR_nd] at hp
  have hd := r.den_pos
  have hd' : ¬ r.den < 1 := by omega
  have hd2 : ¬ (r.den : Int) < 1 := by omega
  have hq := eqq_prR r
  rw [step (d := d__law_number) rfl rfl]
  unfold prR at hp hq ⊢
  simp [d__law_number, b__law_number, lwhole_int, hp, one, two, hd', hd2, hq, isTy]
theorem value_ok {x : VI.D} {r : Rat} {s : Nat} (n : Nat) (h : Sz x r s) (h9 : s ≤ 8000) : CD (n + 2) i__law_value [.v x] = one (prR r) := by
  obtain ⟨a, b, hr, rfl, h1, h2⟩ := h.has
  rw [step (d := d__law_value) rfl rfl]
  rcases hr with ⟨rfl, rfl⟩ | ⟨rfl, hb⟩
  · rw [prR_int]
    simp [d__law_value, b__law_value, one, isTy]
  · simp [d__law_value, b__law_value, one, two, isTy, law_pair_ok n (show 0 < b by omega) h2 h9]
/-! part VV9 -/
theorem eqq_pr (ne : Bool) (r q : Rat) : eqqD ne (prR r) (prR q) = some (.bl (if ne then !decide (r = q) else decide (r = q))) := by
  unfold eqqD prR
  rw [eq_pair]
  have e : ((r.num == q.num) && ((r.den : Int) == (q.den : Int))) = decide (r = q) := by
    by_cases h : r = q
    · subst h; simp
    · have : ¬ (r.num = q.num ∧ r.den = q.den) := fun ⟨a, b⟩ => h (Rat.ext a b)
      rw [decide_eq_false h, Bool.and_eq_false_iff]
      by_cases c : r.num = q.num
      · right
        have c2 : r.den ≠ q.den := fun z => this ⟨c, z⟩
        simp; omega
      · left; simpa using c
  rw [e]
  rfl
end K01
set_option maxHeartbeats 4000000
namespace K01
open PySem L2 VI
/-! whole numbers as texts -/
theorem c_minus : Str.ofString "-" = xS [45] := by decide +kernel
theorem c_slash : Str.ofString "/" = xS [47] := by decide +kernel
theorem c_zero : Str.ofString "0" = xS [48] := by decide +kernel
theorem c_empty : Str.ofString "" = xS [] := by decide +kernel
theorem c_figs : Str.ofString "0123456789" = xS [48, 49, 50, 51, 52, 53, 54, 55, 56, 57] := by decide +kernel
def isFig (c : Nat) : Bool := decide (48 ≤ c ∧ c ≤ 57)
theorem in_figs (ne : Bool) (c : Nat) : innD ne (.str (xS [c])) (.str (xS [48, 49, 50, 51, 52, 53, 54, 55, 56, 57])) = some (.bl (if ne then !isFig c else isFig c)) := by
  rw [inn_one]
  have : decide (c ∈ [48, 49, 50, 51, 52, 53, 54, 55, 56, 57]) = isFig c := by
    unfold isFig
    refine decide_eq_decide.mpr ?_
    simp
    omega
  rw [this]
def figs (l : List Nat) : Bool := decide (1 ≤ l.length ∧ l.length ≤ 40) && l.all isFig
def body (l : List Nat) : List Nat := if l.head? = some 45 then l.drop 1 else l
def val (l : List Nat) : Int := if l.head? = some 45 then -((NumText.digitsVal (body l) : Nat) : Int) else ((NumText.digitsVal (body l) : Nat) : Int)
def WF (l : List Nat) : Option Int := if (figs (body l) && !(decide ((body l).head? = some 48) && decide (1 < l.length))) = true then some (val l) else none
def oI : Option Int → VI.D
  | some i => .int i
  | none => .non
theorem figs_all {l : List Nat} (h : figs l = true) : NumText.AllDigits l ∧ l ≠ [] ∧ l.length ≤ 40 := by
  unfold figs at h
  rw [Bool.and_eq_true, decide_eq_true_eq, List.all_eq_true] at h
  refine ⟨fun c hc => of_decide_eq_true (h.2 c hc), fun z => ?_, h.1.2⟩
  have := h.1.1
  rw [z] at this
  cases this
theorem int_of {l : List Nat} (h : figs (body l) = true) : int1D (.str (xS l)) = some (.int (val l)) := by
  obtain ⟨h1, h2, h3⟩ := figs_all h
  have hlen : l.length ≤ 41 := by
    unfold body at h3
    split at h3
    · rw [List.length_drop] at h3; omega
    · omega
  have hl : (xS l).length = l.length := SX.S_len l
  have key : PySem.intText? (xS l) = some (val l) := by
    unfold body val at *
    by_cases c : l.head? = some 45
    · rw [if_pos c] at h1 h2 ⊢
      obtain ⟨r, rfl⟩ : ∃ r, l = 45 :: r := by
        cases l with
        | nil => cases c
        | cons a r => cases c; exact ⟨r, rfl⟩
      exact intText_neg (x := xS (45 :: r)) rfl h1 h2 (by omega)
    · rw [if_neg c] at h1 h2
      rw [if_neg c, show body l = l from if_neg c]
      exact intText_digits (x := xS l) h1 h2 (by omega)
  show (if (xS l).length ≤ 640 then (PySem.intText? (xS l)).map D.int else none) = _
  rw [if_pos (by omega), key]
  rfl
def figB : VI.D → VI.D
  | .str z => .bl (isFig (z.cps.toList.headD 0))
  | d => d
theorem lc_figs (Γ : Gam) (ρ : VI.Env) (l : List Nat) (hl : l.length ≤ 1000) (h2 : 2 < ρ.length) (ho : isOwn (ρ.at 2) = false) :
    lcE [2] (kLc Γ (.n 2) (.inn false (.var 2) (.glo (Str.ofString "FIGURES") (.str (xS [48, 49, 50, 51, 52, 53, 54, 55, 56, 57]))))) (l.map fun c => VI.D.str (xS [c])) ρ = some (.ok ((l.map isFig).map VI.D.bl) ρ) := by
  rw [lc1_map figB h2 ho (fun d hd => ?_) (le_line (by rw [List.length_map]; omega))]
  · rw [List.map_map, List.map_map]
    rfl
  · obtain ⟨c, _, rfl⟩ := List.mem_map.mp hd
    have e1 : Env.at (ρ.set 2 (.v (.str (xS [c])))) 2 = .v (.str (xS [c])) := by rw [at_set h2, if_pos rfl]
    have hi := in_figs false c
    show evE Γ _ _ = some (.ok (.bl (isFig c)) _)
    rw [evE_inn, evE_varV Γ _ e1, bnd_ok]
    simp only [b1_def, evE_glo, bnd_ok]
    rw [u1_def, hi]
    rfl
theorem okS_sub {a b : List Nat} (h : okS a) (hs : ∀ c ∈ b, c ∈ a) : okS b := fun c hc => h c (hs c hc)
theorem okS1 {c : Nat} (h : c < 1114112) : okS [c] := fun d hd => by rw [List.mem_singleton.mp hd]; exact h
theorem whole_from_ok (n : Nat) (l : List Nat) (hl : l.length ≤ 1000) (ho : okS l) : CD (n + 1) i_whole_from [.v (.str (xS l))] = one (oI (WF l)) := by
  have hst := start_one l 45
  have hsl : slFD (.str (xS l)) (.int ((1 : Nat) : Int)) = some (.str (xS (l.drop 1))) := slF_S (by omega)
  refine call_eq (d := d_whole_from) rfl rfl ?_
  show WS (evS (callD defs FU n) FU b_whole_from _) _
  unfold b_whole_from
  rw [c_minus, c_figs, c_zero]
  refine ws_mid (fun ρ => ρ = [.v (.str (xS l)), .v (.str (xS (body l))), .no]) ?_ ?_
  · unfold body
    by_cases c : l.head? = some 45
    · have hsl' : slFD (.str (xS l)) (.int 1) = some (.str (xS (l.drop 1))) := hsl
      rw [if_pos c]
      simp [d_whole_from, hst, c, hsl']
    · rw [if_neg c]
      simp [d_whole_from, hst, c]
  rintro _ rfl
  have hbl : (body l).length ≤ 1000 := by
    unfold body
    split
    · rw [List.length_drop]; omega
    · exact hl
  have hbo : okS (body l) := by
    unfold body
    split
    · exact okS_sub ho fun c hc => List.mem_of_mem_drop hc
    · exact ho
  have e1 := len_S (a := body l) (by omega)
  have e2 := len_S (a := l) (by omega)
  have e3 := lc_figs (callD defs FU n) [.v (.str (xS l)), .v (.str (xS (body l))), .no] (body l) hbl (by simp) rfl
  have e4 := un_all ((body l).map isFig)
  have e5 : ((body l).map isFig).all id = (body l).all isFig := by rw [List.all_map]; rfl
  rw [e5] at e4
  have e6 := walk_S (body l)
  generalize ((body l).map isFig).map VI.D.bl = FD at *
  generalize ((body l).map fun c => VI.D.str (xS [c])) = CD' at *
  unfold WF
  obtain ⟨m, hm⟩ : ∃ m, (body l).length = m := ⟨_, rfl⟩
  obtain ⟨k, hk⟩ : ∃ k, l.length = k := ⟨_, rfl⟩
  have hz : ∀ (h : 0 < (body l).length), ixD (.str (xS (body l))) (.int 0) = some (.str (xS [(body l)[0]])) := fun h => ix_S (i := 0) h (by omega)
  by_cases c1 : 1 ≤ (body l).length ∧ (body l).length ≤ 40
  · have n1 : ¬ ((body l).length : Int) = 0 := by omega
    have n2 : ¬ (40 : Int) < (body l).length := by omega
    rw [hm] at e1 n1 n2
    rw [hk] at e2
    have n3 : ¬ m = 0 := by omega
    have hz' := hz (by omega)
    have h0 : (body l).head? = some (body l)[0] := by rw [List.head?_eq_getElem?, List.getElem?_eq_getElem (by omega)]
    have e7 := eqq_S false (a := [(body l)[0]]) (b := [48]) (okS1 (hbo _ (List.getElem_mem _))) (okS1 (by decide))
    rw [h0]
    generalize (body l)[0] = c0 at *
    generalize hxs : xS (body l) = XB at *
    generalize hxl : xS l = XL at *
    have hv : figs (body l) = true → int1D (.str XL) = some (.int (val l)) := fun h => by rw [← hxl]; exact int_of h
    have hf : figs (body l) = (body l).all isFig := by unfold figs; rw [decide_eq_true c1, Bool.true_and]
    rw [hf] at hv ⊢
    generalize hA : (body l).all isFig = A at *
    cases A with
    | false =>
      simp [e1, n3, n2, e6, e3, e4, oI, one, d_whole_from]
    | true =>
      have hv' := hv rfl
      by_cases c2 : c0 = 48
      · subst c2
        rw [hk]
        by_cases c3 : 1 < k
        · have c3' : (1 : Int) < k := by omega
          simp [e1, e2, n3, n2, e6, e3, e4, hz', e7, c3, c3', oI, one, d_whole_from]
        · have c3' : ¬ (1 : Int) < k := by omega
          simp [e1, e2, n3, n2, e6, e3, e4, hz', e7, c3, c3', hv', oI, one, d_whole_from]
      · simp [e1, e2, n3, n2, e6, e3, e4, hz', e7, c2, hv', oI, one, d_whole_from]
  · have hf : figs (body l) = false := by unfold figs; rw [decide_eq_false c1]; rfl
    rw [hf]
    rw [hm] at e1 c1
    by_cases c2 : m = 0
    · simp [e1, c2, oI, one, d_whole_from]
    · have n2 : (40 : Int) < m := by omega
      simp [e1, c2, n2, oI, one, d_whole_from]
end K01
set_option maxHeartbeats 4000000
namespace K01
open PySem L2 VI
/-! numbers as texts -/
theorem fold_val : ∀ (l : List Nat) (a : Nat), l.foldl (fun acc c => acc * 10 + (c - 48)) a = a * 10 ^ l.length + NumText.digitsVal l
  | [], a => by simp [NumText.digitsVal]
  | c :: l, a => by
    rw [List.foldl_cons, fold_val l]
    have e : NumText.digitsVal (c :: l) = (0 * 10 + (c - 48)) * 10 ^ l.length + NumText.digitsVal l := by
      unfold NumText.digitsVal
      rw [List.foldl_cons]
      exact fold_val l _
    rw [e, List.length_cons, Nat.pow_succ, Nat.zero_mul, Nat.zero_add, Nat.add_mul, Nat.mul_assoc, Nat.mul_comm 10 (10 ^ l.length), Nat.add_assoc]
theorem val_cons (c : Nat) (l : List Nat) : NumText.digitsVal (c :: l) = (c - 48) * 10 ^ l.length + NumText.digitsVal l := by
  show (c :: l).foldl (fun acc c => acc * 10 + (c - 48)) 0 = _
  rw [List.foldl_cons, Nat.zero_mul, Nat.zero_add]
  exact fold_val l _
theorem val_lt : ∀ (l : List Nat), NumText.AllDigits l → NumText.digitsVal l < 10 ^ l.length
  | [], _ => by decide
  | c :: l, h => by
    have h1 := val_lt l h.tail
    have h2 := h.head
    rw [val_cons, List.length_cons, Nat.pow_succ]
    have : (c - 48) * 10 ^ l.length ≤ 9 * 10 ^ l.length := Nat.mul_le_mul_right _ (by omega)
    omega
theorem val_zero {l : List Nat} (h : NumText.AllDigits l) (hne : l ≠ []) (h0 : l.head? = some 48 → l.length = 1) (hv : NumText.digitsVal l = 0) : l = [48] := by
  cases l with
  | nil => exact absurd rfl hne
  | cons c r =>
    have h2 := h.head
    rw [val_cons] at hv
    by_cases c48 : c = 48
    · subst c48
      have := h0 rfl
      rw [List.length_cons] at this
      have : r = [] := List.length_eq_zero_iff.mp (by omega)
      rw [this]
    · have : 1 * 10 ^ r.length ≤ (c - 48) * 10 ^ r.length := Nat.mul_le_mul_right _ (by omega)
      have := Nat.pow_pos (n := r.length) (show 0 < 10 by decide)
      omega
theorem ten40 : (10 : Nat) ^ 40 < 2 ^ 133 := by decide
theorem figs_bd {l : List Nat} (h : figs l = true) : NumText.digitsVal l < 10 ^ 40 := by
  obtain ⟨h1, h2, h3⟩ := figs_all h
  exact Nat.lt_of_lt_of_le (val_lt l h1) (Nat.pow_le_pow_right (by decide) h3)
theorem WF_some {l : List Nat} {a : Int} (h : WF l = some a) : figs (body l) = true ∧ ¬ ((body l).head? = some 48 ∧ 1 < l.length) ∧ a = val l := by
  unfold WF at h
  split at h
  · rename_i c
    rw [Bool.and_eq_true] at c
    refine ⟨c.1, fun ⟨z1, z2⟩ => ?_, (Option.some.inj h).symm⟩
    have := c.2
    rw [decide_eq_true z1, decide_eq_true z2] at this
    cases this
  · cases h
theorem WF_of {l : List Nat} (h1 : figs (body l) = true) (h2 : ¬ ((body l).head? = some 48 ∧ 1 < l.length)) : WF l = some (val l) := by
  unfold WF
  rw [if_pos]
  rw [h1, Bool.true_and, Bool.not_eq_true', Bool.and_eq_false_iff]
  by_cases c : (body l).head? = some 48
  · right; exact decide_eq_false fun z => h2 ⟨c, z⟩
  · left; exact decide_eq_false c
theorem WF_bd {l : List Nat} {a : Int} (h : WF l = some a) : a.natAbs < 10 ^ 40 := by
  obtain ⟨h1, _, rfl⟩ := WF_some h
  have := figs_bd h1
  unfold val
  split <;> omega
def RD1 (l : List Nat) : Option Rat := (WF l).map fun a => Rat.divInt a 1
def RD2 (p q : List Nat) : Option Rat := match WF p, WF q with
  | some a, some b => if 1 ≤ b then some (Rat.divInt a b) else none
  | _, _ => none
inductive Reads : List Nat → Option Rat → Prop
  | whole (l : List Nat) (h : 47 ∉ l) : Reads l (RD1 l)
  | frac (p q : List Nat) (h : 47 ∉ p) : Reads (p ++ 47 :: q) (RD2 p q)
theorem reads_any (l : List Nat) : ∃ o, Reads l o := by
  by_cases h : 47 ∈ l
  · obtain ⟨p, q, rfl, hp⟩ := List.eq_append_cons_of_mem h
    exact ⟨_, .frac p q hp⟩
  · exact ⟨_, .whole l h⟩
theorem Reads.bd {l : List Nat} {r : Rat} (h : Reads l (some r)) : Bd r 133 := by
  generalize ho : some r = o at h
  cases h with
  | whole l h =>
    unfold RD1 at ho
    cases hw : WF l with
    | none => rw [hw] at ho; cases ho
    | some a =>
      rw [hw] at ho
      cases ho
      exact bd_div (by decide) (Nat.lt_trans (WF_bd hw) ten40) (by decide)
  | frac p q h =>
    unfold RD2 at ho
    cases hw : WF p with
    | none => rw [hw] at ho; cases ho
    | some a =>
      cases hv : WF q with
      | none => rw [hw, hv] at ho; cases ho
      | some b =>
        rw [hw, hv] at ho
        simp only at ho
        split at ho
        · cases ho
          exact bd_div (by omega) (Nat.lt_trans (WF_bd hw) ten40) (Nat.lt_trans (WF_bd hv) ten40)
        · cases ho
def resR : Option Rat → FOut
  | some r => .ret (.v (prR r)) [.no]
  | none => .ex c_BadNumber [("word", .str (Str.ofString "text"))] [.no]
theorem ratio_from_ok (n : Nat) {l : List Nat} {o : Option Rat} (h : Reads l o) (hl : l.length ≤ 1000) (ho : okS l) : CD (n + 2) i_ratio_from [.v (.str (xS l))] = some (resR o) := by
  cases h with
  | whole l h =>
    have e1 := whole_from_ok n l hl ho
    have e2 := part_no h (show l.length ≤ 100000 by omega)
    have e3 := eqq_S false (a := []) (b := [47]) (fun c hc => by cases hc) (okS1 (by decide))
    have hne : decide (([] : List Nat) = [47]) = false := rfl
    rw [hne] at e3
    refine call_eq (d := d_ratio_from) rfl rfl ?_
    show WS (evS (callD defs FU (n + 1)) FU b_ratio_from _) _
    unfold b_ratio_from
    rw [c_slash]
    unfold RD1
    cases hw : WF l with
    | none =>
      rw [hw] at e1
      simp [d_ratio_from, isTy, e2, e1, oI, one, e3, resR]
    | some a =>
      rw [hw] at e1
      have e4 := low_pos n (a := a) (b := 1) (s := 1) (by decide) (by decide) (by decide)
      have e4' : CD (n + 1) i_lowest_terms [.v (.int a), .v (.int 1)] = two (prR (Rat.divInt a 1)) := e4
      simp [d_ratio_from, isTy, e2, e1, oI, one, e3, e4', two, resR]
  | frac p q h =>
    have hpl : p.length ≤ 1000 := by rw [List.length_append] at hl; omega
    have hql : q.length ≤ 1000 := by rw [List.length_append, List.length_cons] at hl; omega
    have e1 := whole_from_ok n p hpl (okS_sub ho fun c hc => List.mem_append_left _ hc)
    have e1q := whole_from_ok n q hql (okS_sub ho fun c hc => List.mem_append_right _ (List.mem_cons_of_mem _ hc))
    have e2 := part_at h (show (p ++ 47 :: q).length ≤ 100000 by omega)
    have e3 := eqq_S false (a := [47]) (b := [47]) (okS1 (by decide)) (okS1 (by decide))
    have hne : decide (([47] : List Nat) = [47]) = true := rfl
    rw [hne] at e3
    generalize xS (p ++ 47 :: q) = Z at *
    refine call_eq (d := d_ratio_from) rfl rfl ?_
    show WS (evS (callD defs FU (n + 1)) FU b_ratio_from _) _
    unfold b_ratio_from
    rw [c_slash]
    unfold RD2
    cases hw : WF p with
    | none =>
      rw [hw] at e1
      cases hv : WF q with
      | none =>
        rw [hv] at e1q
        simp [d_ratio_from, isTy, e2, e1, e1q, oI, one, e3, resR]
      | some b =>
        rw [hv] at e1q
        simp [d_ratio_from, isTy, e2, e1, e1q, oI, one, e3, resR]
    | some a =>
      rw [hw] at e1
      cases hv : WF q with
      | none =>
        rw [hv] at e1q
        simp [d_ratio_from, isTy, e2, e1, e1q, oI, one, e3, resR]
      | some b =>
        rw [hv] at e1q
        by_cases hb : 1 ≤ b
        · have hb' : ¬ b < 1 := by omega
          have e4 := low_pos n (a := a) (b := b) (s := 133) (by omega) (Nat.lt_trans (WF_bd hv) ten40) (by decide)
          have e4' : CD (n + 1) i_lowest_terms [.v (.int a), .v (.int b)] = two (prR (Rat.divInt a b)) := e4
          simp [d_ratio_from, isTy, e2, e1, e1q, oI, one, e3, e4', two, hb', hb, resR]
        · have hb' : b < 1 := by omega
          simp [d_ratio_from, isTy, e2, e1, e1q, oI, one, e3, two, hb', hb, resR]
end K01
set_option maxHeartbeats 4000000
namespace K01
open PySem L2 VI
/-! the law's own reader -/
def LF (l : List Nat) : Bool := figs l && (!decide (l.head? = some 48) || decide (l.length = 1))
def FI (l : List Nat) (k : Nat) (ρ : VI.Env) : Prop := (∀ c ∈ l.take k, isFig c = true) ∧ ∃ s1, ρ = [.v (.str (xS l)), s1]
theorem figures_ok (n : Nat) (l : List Nat) (hl : l.length ≤ 1000) (ho : okS l) : CD (n + 1) i__law_figures [.v (.str (xS l))] = one (.bl (LF l)) := by
  have e1 := len_S (a := l) (by omega)
  have e6 := walk_S l
  refine call_eq (d := d__law_figures) rfl rfl ?_
  show WS (evS (callD defs FU n) FU b__law_figures _) _
  unfold b__law_figures
  rw [c_figs, c_zero]
  by_cases c1 : 1 ≤ l.length ∧ l.length ≤ 40
  · have hz : ixD (.str (xS l)) (.int 0) = some (.str (xS [l[0]])) := ix_S (i := 0) (by omega) (by omega)
    have h0 : l.head? = some l[0] := by rw [List.head?_eq_getElem?, List.getElem?_eq_getElem (by omega)]
    have e7 := eqq_S true (a := [l[0]]) (b := [48]) (okS1 (ho _ (List.getElem_mem _))) (okS1 (by decide))
    have n0 : ¬ l = [] := fun z => by rw [z] at c1; simp at c1
    have n2 : ¬ (40 : Int) < l.length := by omega
    have hf : figs l = l.all isFig := by unfold figs; rw [decide_eq_true c1, Bool.true_and]
    refine ws_mid (fun ρ => ρ = [.v (.str (xS l)), .no]) (by simp [d__law_figures, e1, n0, n2]) ?_
    rintro _ rfl
    simp [e6]
    refine ws_loop (FI l) ⟨by simp, .no, rfl⟩ ?_ ?_
    · rintro k d ρ hk ⟨hI, s1, rfl⟩
      have hkl : k < l.length := by have := (List.getElem?_eq_some_iff.mp hk).1; simpa using this
      rw [List.getElem?_map, List.getElem?_eq_getElem hkl] at hk
      cases hk
      have hin := in_figs true l[k]
      cases hc : isFig l[k] with
      | true =>
        rw [hc] at hin
        simp [hin]
        refine ⟨fun c hcm => ?_, _, rfl⟩
        rw [List.take_succ, List.getElem?_eq_getElem hkl] at hcm
        rcases List.mem_append.mp hcm with hcm | hcm
        · exact hI c hcm
        · simp at hcm; rw [hcm]; exact hc
      | false =>
        rw [hc] at hin
        have hall : l.all isFig = false := by
          rw [Bool.eq_false_iff]
          intro z
          have := List.all_eq_true.mp z _ (List.getElem_mem hkl)
          rw [hc] at this
          cases this
        unfold LF
        rw [hf, hall]
        simp [hin, one, d__law_figures]
    · rintro ρ ⟨hI, s1, rfl⟩
      rw [List.length_map, List.take_length] at hI
      have hall : l.all isFig = true := List.all_eq_true.mpr hI
      unfold LF
      rw [hf, hall, h0]
      generalize l[0] = c0 at *
      obtain ⟨m, hm⟩ : ∃ m, l.length = m := ⟨_, rfl⟩
      rw [hm] at e1 ⊢
      by_cases c2 : c0 = 48
      · subst c2
        by_cases c3 : m = 1
        · subst c3
          simp [hz, e7, e1, one, d__law_figures]
        · have c3' : ¬ (m : Int) = 1 := by omega
          simp [hz, e7, e1, c3, c3', one, d__law_figures]
      · simp [hz, e7, c2, one, d__law_figures]
  · have hf : LF l = false := by unfold LF figs; rw [decide_eq_false c1]; rfl
    rw [hf]
    obtain ⟨m, hm⟩ : ∃ m, l.length = m := ⟨_, rfl⟩
    rw [hm] at e1 c1
    by_cases c2 : m = 0
    · simp [e1, c2, one, d__law_figures]
    · have n2 : (40 : Int) < m := by omega
      simp [e1, c2, n2, one, d__law_figures]
theorem LF_figs {l : List Nat} (h : LF l = true) : figs l = true ∧ (l.head? = some 48 → l.length = 1) := by
  unfold LF at h
  rw [Bool.and_eq_true, Bool.or_eq_true] at h
  refine ⟨h.1, fun z => ?_⟩
  rcases h.2 with h2 | h2
  · rw [decide_eq_true z] at h2; cases h2
  · exact of_decide_eq_true h2
theorem LF_of {l : List Nat} (h1 : figs l = true) (h2 : l.head? = some 48 → l.length = 1) : LF l = true := by
  unfold LF
  rw [h1, Bool.true_and, Bool.or_eq_true]
  by_cases c : l.head? = some 48
  · right; exact decide_eq_true (h2 c)
  · left; rw [decide_eq_false c]; rfl
theorem figs_head {l : List Nat} (h : figs l = true) : ¬ l.head? = some 45 := by
  obtain ⟨h1, h2, _⟩ := figs_all h
  cases l with
  | nil => exact absurd rfl h2
  | cons c r =>
    intro z
    cases z
    have := h1.head
    omega
/-- how the law takes the top -/
theorem top_iff (p : List Nat) : WF p = if LF (body p) = true ∧ ¬ (p.head? = some 45 ∧ body p = [48]) then some (val p) else none := by
  by_cases c : p.head? = some 45
  · have hl : figs (body p) = true → 1 < p.length := fun h => by
      obtain ⟨_, h2, _⟩ := figs_all h
      have : (body p).length + 1 = p.length := by
        unfold body
        rw [if_pos c]
        cases p with
        | nil => cases c
        | cons a r => simp
      have := List.length_pos_iff.mpr h2
      omega
    by_cases z : LF (body p) = true ∧ ¬ (p.head? = some 45 ∧ body p = [48])
    · rw [if_pos z]
      obtain ⟨f1, f2⟩ := LF_figs z.1
      refine WF_of f1 fun ⟨h1, _⟩ => z.2 ⟨c, ?_⟩
      have h3 := f2 h1
      cases hb : body p with
      | nil => rw [hb] at h1; cases h1
      | cons a r =>
        rw [hb] at h1 h3
        cases h1
        rw [List.length_cons] at h3
        rw [List.length_eq_zero_iff.mp (show r.length = 0 by omega)]
    · rw [if_neg z]
      cases hw : WF p with
      | none => rfl
      | some a =>
        obtain ⟨f1, f2, _⟩ := WF_some hw
        exfalso
        have hne : ¬ (body p).head? = some 48 := fun h => f2 ⟨h, hl f1⟩
        exact z ⟨LF_of f1 fun h => absurd h hne, fun ⟨_, h⟩ => hne (by rw [h]; rfl)⟩
  · have hb : body p = p := if_neg c
    by_cases z : LF (body p) = true ∧ ¬ (p.head? = some 45 ∧ body p = [48])
    · rw [if_pos z]
      obtain ⟨f1, f2⟩ := LF_figs z.1
      refine WF_of f1 fun ⟨h1, h2⟩ => ?_
      have := f2 h1
      rw [hb] at this
      omega
    · rw [if_neg z]
      cases hw : WF p with
      | none => rfl
      | some a =>
        obtain ⟨f1, f2, _⟩ := WF_some hw
        exfalso
        refine z ⟨LF_of f1 fun h => ?_, fun ⟨h, _⟩ => c h⟩
        have h2 : ¬ 1 < p.length := fun w => f2 ⟨h, w⟩
        obtain ⟨_, h3, _⟩ := figs_all f1
        have := List.length_pos_iff.mpr h3
        rw [hb] at this ⊢
        omega
/-- how the law takes the bottom -/
theorem bot_iff (q : List Nat) : (∃ b, WF q = some b ∧ 1 ≤ b) ↔ (LF q = true ∧ ¬ q = [48]) := by
  constructor
  · rintro ⟨b, hw, hb⟩
    obtain ⟨f1, f2, e⟩ := WF_some hw
    have c : ¬ q.head? = some 45 := fun c => by
      unfold val at e
      rw [if_pos c] at e
      omega
    have hbq : body q = q := if_neg c
    rw [hbq] at f1 f2
    unfold val at e
    rw [if_neg c, hbq] at e
    obtain ⟨_, h3, _⟩ := figs_all f1
    have := List.length_pos_iff.mpr h3
    refine ⟨LF_of f1 fun h => ?_, fun z => ?_⟩
    · have : ¬ 1 < q.length := fun w => f2 ⟨h, w⟩
      omega
    · rw [z] at e
      have : NumText.digitsVal [48] = 0 := rfl
      omega
  · rintro ⟨h1, h2⟩
    obtain ⟨f1, f2⟩ := LF_figs h1
    have c := figs_head f1
    have hbq : body q = q := if_neg c
    obtain ⟨g1, g2, _⟩ := figs_all f1
    refine ⟨val q, WF_of (by rw [hbq]; exact f1) (by rw [hbq]; exact fun ⟨h, w⟩ => by have := f2 h; omega), ?_⟩
    unfold val
    rw [if_neg c, hbq]
    rcases Nat.eq_zero_or_pos (NumText.digitsVal q) with z | z
    · exact absurd (val_zero g1 g2 f2 z) h2
    · omega
end K01
set_option maxHeartbeats 4000000
namespace K01
open PySem L2 VI
/-! _law_reads -/
def oR : Option Rat → VI.D
  | some r => prR r
  | none => .non
theorem take1_iff (p : List Nat) : (p.take 1 = [45]) ↔ p.head? = some 45 := by
  cases p with
  | nil => simp
  | cons a r => simp
/-- the part of the reader that all ways share: the top -/
def topS : S → S := fun r => (.seq (.ite (.eqq false (.slT (.var 2) (.cst (.int 1))) (.cst (.str (xS [45]))))
  (.seq (.asg 2 (.slF (.var 2) (.cst (.int 1))))
  (.seq (.ite (.eqq false (.var 2) (.cst (.str (xS [48]))))
  (.seq (.ret (.cst .non))
  .nil)
  .nil)
  .nil))
  .nil)
  (.seq (.ite (.not (.call i__law_figures (.cons (.var 2) .nil)))
  (.seq (.ret (.cst .non))
  .nil)
  .nil) r))
theorem top_ok (n : Nat) (p : List Nat) (hl : p.length ≤ 1000) (ho : okS p) (w x s3 s4 : VI.Slot) (r : S) (P : SOut → Prop)
    (h1 : WF p = none → ∀ y, P (.ret (.v .non) [w, x, y, s3, s4])) (h2 : WF p = some (val p) → LF (body p) = true → WS (evS (CD (n + 1)) FU r [w, x, .v (.str (xS (body p))), s3, s4]) P) :
    WS (evS (CD (n + 1)) FU (topS r) [w, x, .v (.str (xS p)), s3, s4]) P := by
  have hbl : (body p).length ≤ 1000 := by
    unfold body
    split
    · rw [List.length_drop]; omega
    · exact hl
  have hbo : okS (body p) := by
    unfold body
    split
    · exact okS_sub ho fun c hc => List.mem_of_mem_drop hc
    · exact ho
  have ht := top_iff p
  have ef := figures_ok n (body p) hbl hbo
  have e1 : slTD (.str (xS p)) (.int 1) = some (.str (xS (p.take 1))) := slT_S (i := 1) (by omega)
  have e2 : slFD (.str (xS p)) (.int 1) = some (.str (xS (p.drop 1))) := slF_S (i := 1) (by omega)
  have e3 := eqq_S false (a := p.take 1) (b := [45]) (okS_sub ho fun c hc => List.mem_of_mem_take hc) (okS1 (by decide))
  have e3' : decide (p.take 1 = [45]) = decide (p.head? = some 45) := decide_eq_decide.mpr (take1_iff p)
  rw [e3'] at e3
  have e4 := eqq_S false (a := body p) (b := [48]) hbo (okS1 (by decide))
  unfold topS
  by_cases c : p.head? = some 45
  · have hb : body p = p.drop 1 := if_pos c
    by_cases c2 : body p = [48]
    · have hw : WF p = none := by rw [ht, if_neg]; exact fun z => z.2 ⟨c, c2⟩
      rw [decide_eq_true c2] at e4
      rw [← hb] at e2
      generalize xS (body p) = B at *
      generalize xS (p.take 1) = T at *
      generalize xS p = Z at *
      simp [e1, e2, e3, c, e4]
      exact h1 hw _
    · rw [decide_eq_false c2] at e4
      rw [← hb] at e2
      have h2' := fun z1 z2 => h2 z1 z2
      cases hf : LF (body p) with
      | true =>
        have hw : WF p = some (val p) := by rw [ht, if_pos ⟨hf, fun z => c2 z.2⟩]
        have := h2 hw hf
        rw [hf] at ef
        generalize xS (body p) = B at *
        generalize xS (p.take 1) = T at *
        generalize xS p = Z at *
        simp [e1, e2, e3, c, e4, ef, one]
        exact this
      | false =>
        have hw : WF p = none := by rw [ht, if_neg]; exact fun z => by rw [hf] at z; cases z.1
        rw [hf] at ef
        generalize xS (body p) = B at *
        generalize xS (p.take 1) = T at *
        generalize xS p = Z at *
        simp [e1, e2, e3, c, e4, ef, one]
        exact h1 hw _
  · have hb : body p = p := if_neg c
    cases hf : LF (body p) with
    | true =>
      have hw : WF p = some (val p) := by rw [ht, if_pos ⟨hf, fun z => c z.1⟩]
      have := h2 hw hf
      rw [hf, hb] at ef
      rw [hb] at this
      generalize xS (p.take 1) = T at *
      generalize xS p = Z at *
      simp [e1, e3, c, ef, one]
      exact this
    | false =>
      have hw : WF p = none := by rw [ht, if_neg]; exact fun z => by rw [hf] at z; cases z.1
      rw [hf, hb] at ef
      generalize xS (p.take 1) = T at *
      generalize xS p = Z at *
      simp [e1, e3, c, ef, one]
      exact h1 hw _
theorem int_top {p : List Nat} (h : LF (body p) = true) : int1D (.str (xS (body p))) = some (.int ((NumText.digitsVal (body p) : Nat) : Int)) := by
  obtain ⟨f1, _⟩ := LF_figs h
  have c := figs_head f1
  have hb : body (body p) = body p := if_neg c
  rw [int_of (l := body p) (by rw [hb]; exact f1)]
  unfold val
  rw [if_neg c, hb]
theorem law_reads_ok (n : Nat) {l : List Nat} {o : Option Rat} (h : Reads l o) (hl : l.length ≤ 1000) (ho : okS l) : CD (n + 2) i__law_reads [.v (.str (xS l))] = one (oR o) := by
  refine call_eq (d := d__law_reads) rfl rfl ?_
  show WS (evS (callD defs FU (n + 1)) FU b__law_reads _) _
  unfold b__law_reads
  rw [c_minus, c_slash, c_zero]
  cases h with
  | whole l h =>
    have e1 := splt_of (a := l) (c := 47) (by decide) (by omega)
    rw [spl_no h] at e1
    have e1' : spltD (.str (xS l)) (.str (xS [47])) = some [.str (xS l)] := e1
    refine ws_mid (fun ρ => ρ = [.v (.str (xS l)), .v (.lst [.str (xS l)]), .no, .no, .no]) (by simp [d__law_reads, e1']) ?_
    rintro _ rfl
    refine ws_mid (fun ρ => ρ = [.v (.str (xS l)), .v (.lst [.str (xS l)]), .no, .no, .no]) (by simp) ?_
    rintro _ rfl
    refine ws_mid (fun ρ => ρ = [.v (.str (xS l)), .v (.lst [.str (xS l)]), .v (.str (xS l)), .no, .no]) (by simp) ?_
    rintro _ rfl
    refine top_ok n l hl ho _ _ _ _ _ _ (fun hw y => ?_) fun hw hf => ?_
    · unfold RD1
      rw [hw]
      simp [d__law_reads, oR]
    · unfold RD1
      rw [hw]
      have ei := int_top hf
      have e1 : slTD (.str (xS l)) (.int 1) = some (.str (xS (l.take 1))) := slT_S (i := 1) (by omega)
      have e3 := eqq_S false (a := l.take 1) (b := [45]) (okS_sub ho fun c hc => List.mem_of_mem_take hc) (okS1 (by decide))
      have e3' : decide (l.take 1 = [45]) = decide (l.head? = some 45) := decide_eq_decide.mpr (take1_iff l)
      rw [e3'] at e3
      have lp := law_pair_ok n (a := val l) (b := 1) (s := 1) (by decide) (by decide) (by decide)
      have hv : val l = if l.head? = some 45 then -((NumText.digitsVal (body l) : Nat) : Int) else ((NumText.digitsVal (body l) : Nat) : Int) := rfl
      generalize val l = vl at *
      generalize xS (body l) = B at *
      generalize xS (l.take 1) = T at *
      generalize xS l = Z at *
      generalize NumText.digitsVal (body l) = dv at *
      by_cases c : l.head? = some 45
      · rw [if_pos c] at hv
        subst hv
        simp [ei, e1, e3, c, lp, two, d__law_reads, oR, one]
      · rw [if_neg c] at hv
        subst hv
        simp [ei, e1, e3, c, lp, two, d__law_reads, oR, one]
  | frac p q h =>
    have hpl : p.length ≤ 1000 := by rw [List.length_append] at hl; omega
    have hql : q.length ≤ 1000 := by rw [List.length_append, List.length_cons] at hl; omega
    have hpo : okS p := okS_sub ho fun c hc => List.mem_append_left _ hc
    have hqo : okS q := okS_sub ho fun c hc => List.mem_append_right _ (List.mem_cons_of_mem _ hc)
    have e1 := splt_of (a := p ++ 47 :: q) (c := 47) (by decide) (by omega)
    rw [spl_at q h, List.map_cons] at e1
    by_cases hq : 47 ∈ q
    · obtain ⟨q1, q2, rfl, hq1⟩ := List.eq_append_cons_of_mem hq
      rw [spl_at q2 hq1, List.map_cons] at e1
      have hne := spl_ne q2 47
      have hn : RD2 p (q1 ++ 47 :: q2) = none := by
        have hw : WF (q1 ++ 47 :: q2) = none := by
          cases hw : WF (q1 ++ 47 :: q2) with
          | none => rfl
          | some b =>
            exfalso
            obtain ⟨f1, _, _⟩ := WF_some hw
            obtain ⟨g1, _, _⟩ := figs_all f1
            have : 47 ∈ body (q1 ++ 47 :: q2) := by
              unfold body
              split
              · rename_i c
                cases q1 with
                | nil => cases c
                | cons a r => simp
              · simp
            have := g1 47 this
            omega
        unfold RD2
        rw [hw]
        cases WF p <;> rfl
      rw [hn]
      obtain ⟨m, hm⟩ : ∃ m, ((TL.spl [47] 0 [] q2).map fun p => VI.D.str (xS p)) = m := ⟨_, rfl⟩
      have hml : 0 < m.length := by rw [← hm, List.length_map]; exact List.length_pos_iff.mpr hne
      rw [hm] at e1
      have hgt : (2 : Int) < (m.length : Int) + 1 + 1 := by omega
      generalize xS (p ++ 47 :: (q1 ++ 47 :: q2)) = Z at *
      simp [d__law_reads, e1, hgt, oR, one]
    · rw [spl_no hq] at e1
      have e1' : spltD (.str (xS (p ++ 47 :: q))) (.str (xS [47])) = some [.str (xS p), .str (xS q)] := e1
      generalize xS (p ++ 47 :: q) = Z at *
      refine ws_mid (fun ρ => ρ = [.v (.str Z), .v (.lst [.str (xS p), .str (xS q)]), .no, .no, .no]) (by simp [d__law_reads, e1']) ?_
      rintro _ rfl
      refine ws_mid (fun ρ => ρ = [.v (.str Z), .v (.lst [.str (xS p), .str (xS q)]), .no, .no, .no]) (by simp) ?_
      rintro _ rfl
      refine ws_mid (fun ρ => ρ = [.v (.str Z), .v (.lst [.str (xS p), .str (xS q)]), .v (.str (xS p)), .no, .no]) (by simp) ?_
      rintro _ rfl
      refine top_ok n p hpl hpo _ _ _ _ _ _ (fun hw y => ?_) fun hw hf => ?_
      · unfold RD2
        rw [hw]
        cases WF q <;> simp [d__law_reads, oR]
      · have ei := int_top hf
        have ef := figures_ok n q hql hqo
        have e4 := eqq_S false (a := q) (b := [48]) hqo (okS1 (by decide))
        have e1 : slTD (.str (xS p)) (.int 1) = some (.str (xS (p.take 1))) := slT_S (i := 1) (by omega)
        have e3 := eqq_S false (a := p.take 1) (b := [45]) (okS_sub hpo fun c hc => List.mem_of_mem_take hc) (okS1 (by decide))
        have e3' : decide (p.take 1 = [45]) = decide (p.head? = some 45) := decide_eq_decide.mpr (take1_iff p)
        rw [e3'] at e3
        by_cases hg : LF q = true ∧ ¬ q = [48]
        · obtain ⟨b, hv, hb⟩ := (bot_iff q).mpr hg
          have hR : RD2 p q = some (Rat.divInt (val p) b) := by
            unfold RD2
            rw [hw, hv]
            exact if_pos hb
          rw [hR]
          have cq := figs_head (LF_figs hg.1).1
          have hbq : body q = q := if_neg cq
          have eq1 := int_of (l := q) (by rw [hbq]; exact (LF_figs hg.1).1)
          have hbv : b = val q := (WF_some hv).2.2
          rw [← hbv] at eq1
          have lp := law_pair_ok n (a := val p) (b := b) (s := 133) (by omega) (Nat.lt_trans (WF_bd hv) ten40) (by decide)
          have hvp : val p = if p.head? = some 45 then -((NumText.digitsVal (body p) : Nat) : Int) else ((NumText.digitsVal (body p) : Nat) : Int) := rfl
          rw [hg.1] at ef
          rw [decide_eq_false hg.2] at e4
          generalize val p = vl at *
          generalize xS (body p) = B at *
          generalize xS (p.take 1) = T at *
          generalize xS p = PP at *
          generalize xS q = QQ at *
          generalize NumText.digitsVal (body p) = dv at *
          by_cases c : p.head? = some 45
          · rw [if_pos c] at hvp
            subst hvp
            simp [ei, e1, e3, c, lp, two, d__law_reads, oR, one, ef, e4, eq1]
          · rw [if_neg c] at hvp
            subst hvp
            simp [ei, e1, e3, c, lp, two, d__law_reads, oR, one, ef, e4, eq1]
        · have hR : RD2 p q = none := by
            unfold RD2
            rw [hw]
            cases hv : WF q with
            | none => rfl
            | some b =>
              show (if 1 ≤ b then some _ else none) = none
              rw [if_neg fun z => hg ((bot_iff q).mp ⟨b, hv, z⟩)]
          rw [hR]
          generalize xS (body p) = B at *
          generalize xS p = PP at *
          generalize xS q = QQ at *
          cases hfq : LF q with
          | false =>
            rw [hfq] at ef
            simp [d__law_reads, oR, one, ef]
          | true =>
            have h48 : q = [48] := by
              by_cases z : q = [48]
              · exact z
              · exact absurd ⟨hfq, z⟩ hg
            rw [hfq] at ef
            rw [decide_eq_true h48] at e4
            simp [d__law_reads, oR, one, ef, e4]
end K01
set_option maxHeartbeats 4000000
namespace K01
open PySem L2 VI
/-! numbers written as texts -/
def TXp (a b : Int) : List Nat := intL a ++ (if b = 1 then [] else 47 :: intL b)
def TX (r : Rat) : List Nat := TXp r.num r.den
structure Ten (r : Rat) : Prop where
  n : r.num.natAbs < 10 ^ 40
  d : r.den < 10 ^ 40
theorem ten_of {a b : Int} (hb : 0 < b) (h1 : a.natAbs < 10 ^ 40) (h2 : b.natAbs < 10 ^ 40) : Ten (Rat.divInt a b) := by
  refine ⟨Nat.lt_of_le_of_lt (num_le hb) h1, ?_⟩
  have := den_le (a := a) hb
  omega
theorem Ten.bd {r : Rat} (h : Ten r) : Bd r 133 := ⟨Nat.lt_trans h.n ten40, Nat.lt_trans h.d ten40⟩
theorem Reads.ten {l : List Nat} {r : Rat} (h : Reads l (some r)) : Ten r := by
  generalize ho : some r = o at h
  cases h with
  | whole l h =>
    unfold RD1 at ho
    cases hw : WF l with
    | none => rw [hw] at ho; cases ho
    | some a =>
      rw [hw] at ho
      cases ho
      exact ten_of (by decide) (WF_bd hw) (by decide)
  | frac p q h =>
    unfold RD2 at ho
    cases hw : WF p with
    | none => rw [hw] at ho; cases ho
    | some a =>
      cases hv : WF q with
      | none => rw [hw, hv] at ho; cases ho
      | some b =>
        rw [hw, hv] at ho
        simp only at ho
        split at ho
        · cases ho
          exact ten_of (by omega) (WF_bd hw) (WF_bd hv)
        · cases ho
theorem num_head : ∀ (n : Nat), 0 < n → ¬ (TL.numL n).head? = some 48 := by
  intro n
  induction n using Nat.strongRecOn with
  | _ n ih =>
    intro h0 hh
    by_cases h : n < 10
    · rw [TL.numL_lt h] at hh
      have hh' : 48 + n = 48 := Option.some.inj hh
      omega
    · rw [TL.numL_step (by omega)] at hh
      have hne := TL.numL_ne (n / 10)
      have := ih (n / 10) (by omega) (by omega)
      cases hd : TL.numL (n / 10) with
      | nil => exact hne hd
      | cons a r =>
        rw [hd] at hh this
        exact this hh
theorem num_no45 (n : Nat) : ¬ (TL.numL n).head? = some 45 := by
  intro h
  have hd := TL.numL_digits n
  cases e : TL.numL n with
  | nil => rw [e] at h; cases h
  | cons a r =>
    rw [e] at h hd
    cases h
    have := hd.head
    omega
theorem body_int (i : Int) : body (intL i) = TL.numL i.natAbs := by
  unfold intL
  split
  · rfl
  · exact if_neg (num_no45 _)
theorem figs_num {n : Nat} (h : n < 10 ^ 40) : figs (TL.numL n) = true := by
  have h1 := TL.numL_len (k := 40) (by decide) h
  have h2 := List.length_pos_iff.mpr (TL.numL_ne n)
  unfold figs
  rw [decide_eq_true ⟨by omega, h1⟩, Bool.true_and, List.all_eq_true]
  intro c hc
  exact decide_eq_true (TL.numL_digits n c hc)
theorem WF_int {i : Int} (h : i.natAbs < 10 ^ 40) : WF (intL i) = some i := by
  have hb := body_int i
  have h1 := figs_num h
  rw [WF_of (by rw [hb]; exact h1) ?_]
  · congr 1
    unfold val
    rw [hb, TL.numL_val]
    unfold intL
    by_cases c : i < 0
    · rw [if_pos c]
      rw [if_pos (show (45 :: TL.numL i.natAbs).head? = some 45 from rfl)]
      omega
    · rw [if_neg c, if_neg (num_no45 _)]
      omega
  · rintro ⟨z1, z2⟩
    rw [hb] at z1
    have h0 : i.natAbs = 0 := by
      rcases Nat.eq_zero_or_pos i.natAbs with z | z
      · exact z
      · exact absurd z1 (num_head _ z)
    have : i = 0 := by omega
    subst this
    revert z2
    decide
theorem no47 (i : Int) : 47 ∉ intL i := by
  unfold intL
  split
  · intro h
    rcases List.mem_cons.mp h with h | h
    · cases h
    · exact TL.numL_free (s := 47) (.inl (by decide)) h
  · exact TL.numL_free (s := 47) (.inl (by decide))
theorem reads_TX {r : Rat} (h : Ten r) : Reads (TX r) (some r) := by
  unfold TX TXp
  have hd := r.den_pos
  by_cases c : (r.den : Int) = 1
  · rw [if_pos c, List.append_nil]
    have := Reads.whole (intL r.num) (no47 _)
    unfold RD1 at this
    rw [WF_int h.n] at this
    have e : Rat.divInt r.num 1 = r := by rw [← c, Rat.num_divInt_den]
    simp only [Option.map_some, e] at this
    exact this
  · rw [if_neg c]
    have := Reads.frac (intL r.num) (intL r.den) (no47 _)
    unfold RD2 at this
    rw [WF_int h.n, WF_int (i := (r.den : Int)) h.d] at this
    simp only [Rat.num_divInt_den] at this
    rw [if_pos (by omega)] at this
    exact this
theorem int_len {i : Int} (h : i.natAbs < 2 ^ 200) : (intL i).length ≤ 102 := by
  have h2 : i.natAbs < 10 ^ 100 := Nat.lt_trans h (by decide)
  have := TL.numL_len (k := 100) (by decide) h2
  unfold intL
  split
  · rw [List.length_cons]; omega
  · omega
theorem int_okS (i : Int) : okS (intL i) := by
  have : ∀ c ∈ TL.numL i.natAbs, c < 1114112 := fun c hc => by have := TL.numL_digits _ c hc; omega
  unfold intL
  split
  · intro c hc
    rcases List.mem_cons.mp hc with rfl | hc
    · decide
    · exact this c hc
  · exact this
theorem TXp_len {a b : Int} (ha : a.natAbs < 2 ^ 200) (hb : b.natAbs < 2 ^ 200) : (TXp a b).length ≤ 250 := by
  have h1 := int_len ha
  have h2 := int_len hb
  unfold TXp
  rw [List.length_append]
  split
  · simp; omega
  · rw [List.length_cons]; omega
theorem TXp_okS (a b : Int) : okS (TXp a b) := by
  unfold TXp
  intro c hc
  rcases List.mem_append.mp hc with hc | hc
  · exact int_okS a c hc
  · split at hc
    · cases hc
    · rcases List.mem_cons.mp hc with rfl | hc
      · decide
      · exact int_okS b c hc
theorem TXp_ne (a b : Int) : TXp a b ≠ [] := by
  unfold TXp intL
  split
  · simp
  · have := TL.numL_ne a.natAbs
    simp [this]
theorem lg {k : Nat} (z : k ≠ 0) (h : k < 2 ^ 200) : k.log2 < 1920 := Nat.lt_trans ((Nat.log2_lt z).mpr h) (by decide)
theorem str_int {i : Int} (h : i.natAbs < 2 ^ 200) : strD (.int i) = some (.str (xS (intL i))) := by
  have hl : i.natAbs.log2 < 1920 := by
    by_cases z : i.natAbs = 0
    · rw [z]; decide
    · exact lg z h
  show (if i.natAbs.log2 < 1920 then some (VI.D.str (Str.ofString (toString i))) else none) = _
  rw [if_pos hl, int_text]
theorem fmt_int {i : Int} (h : i.natAbs < 2 ^ 200) : fmtD (.int i) = some (xS (intL i)) := by
  have hl : i.natAbs.log2 < 1920 := by
    by_cases z : i.natAbs = 0
    · rw [z]; decide
    · exact lg z h
  show (if i.natAbs.log2 < 1920 then some (Str.ofString (toString i)) else none) = _
  rw [if_pos hl, int_text]
theorem fmt_str {l : List Nat} (h : l.length ≤ 1000) : fmtD (.str (xS l)) = some (xS l) := by
  show (if (xS l).length ≤ sizeLine then some (xS l) else none) = _
  rw [if_pos (by rw [SX.S_len]; exact le_line (by omega))]
theorem kF_S {Γ : Gam} {r : A} {acc y : List Nat} {d : VI.D} {ρ : VI.Env} (h : fmtD d = some (xS y)) (h2 : acc.length + y.length ≤ 1000) : kF Γ r (xS acc) d ρ = evF Γ r (xS (acc ++ y)) ρ := by
  rw [kF_of h (by rw [SX.S_cat, SX.S_len, List.length_append]; exact le_line (by omega)), SX.S_cat]
theorem ratio_text_ok (n : Nat) {d : VI.D} {a b : Int} (h : Raw d a b) (ha : a.natAbs < 2 ^ 200) (hb : b.natAbs < 2 ^ 200) : CD (n + 4) i_ratio_text [.v d] = one (.str (xS (TX (Rat.divInt a b)))) := by
  have e1 := named_ok n (.str (Str.ofString "number")) h hb (by decide)
  have hbd := bd_div h.pos ha hb
  generalize Rat.divInt a b = r at *
  have hl1 := int_len hbd.n
  have hl2 := int_len (i := (r.den : Int)) hbd.d
  have s1 := str_int hbd.n
  have f1 := fmt_int hbd.n
  have f2 := fmt_int (i := (r.den : Int)) hbd.d
  have f3 := fmt_str (l := [47]) (by decide)
  unfold prR at e1
  refine call_eq (d := d_ratio_text) rfl rfl ?_
  show WS (evS (callD defs FU (n + 3)) FU b_ratio_text _) _
  unfold b_ratio_text
  rw [c_slash]
  refine ws_mid (fun ρ => ρ = [.v d, .v (.int r.num), .v (.int r.den)]) (by simp [d_ratio_text, e1, two]) ?_
  rintro _ rfl
  unfold TX TXp
  by_cases c : r.den = 1
  · have c' : (r.den : Int) = 1 := by omega
    rw [if_pos c', List.append_nil]
    simp [c, s1, one, d_ratio_text]
  · have c' : ¬ (r.den : Int) = 1 := by omega
    rw [if_neg c']
    have k1 : ∀ (r' : A) (ρ : VI.Env), kF (callD defs FU (n + 3)) r' (xS []) (.int r.num) ρ = evF (callD defs FU (n + 3)) r' (xS ([] ++ intL r.num)) ρ := fun r' ρ => kF_S f1 (by simp; omega)
    have k2 : ∀ (r' : A) (ρ : VI.Env), kF (callD defs FU (n + 3)) r' (xS (intL r.num)) (.str (xS [47])) ρ = evF (callD defs FU (n + 3)) r' (xS (intL r.num ++ [47])) ρ := fun r' ρ => kF_S f3 (by simp; omega)
    have k3 : ∀ (r' : A) (ρ : VI.Env), kF (callD defs FU (n + 3)) r' (xS (intL r.num ++ [47])) (.int r.den) ρ = evF (callD defs FU (n + 3)) r' (xS (intL r.num ++ [47] ++ intL r.den)) ρ := fun r' ρ => kF_S f2 (by simp; omega)
    have e0 : Str.empty = xS [] := rfl
    rw [show intL r.num ++ 47 :: intL r.den = intL r.num ++ [47] ++ intL r.den by simp]
    have kk : evE (callD defs FU (n + 3)) (.fst (.cons (.var 1) (.cons (.cst (.str (xS [47]))) (.cons (.var 2) .nil)))) [.v d, .v (.int r.num), .v (.int r.den)] = some (.ok (.str (xS (intL r.num ++ [47] ++ intL r.den))) [.v d, .v (.int r.num), .v (.int r.den)]) := by
      rw [evE_fst, evF_cons, evE_varV _ _ rfl, bnd_ok, e0, k1, List.nil_append, evF_cons]
      rw [show evE (callD defs FU (n + 3)) (.cst (.str (xS [47]))) [.v d, .v (.int r.num), .v (.int r.den)] = some (.ok (.str (xS [47])) [.v d, .v (.int r.num), .v (.int r.den)]) by simp, bnd_ok, k2, evF_cons, evE_varV _ _ rfl, bnd_ok, k3, evF_nil]
    generalize xS (intL r.num ++ [47] ++ intL r.den) = Z at *
    refine ws_mid (fun ρ => ρ = [.v d, .v (.int r.num), .v (.int r.den)]) (by simp [c, c']) ?_
    rintro _ rfl
    rw [evS_seq, evS_ret, kk]
    simp [one, d_ratio_text]
theorem law_text_ok (n : Nat) {a b : Int} (ha : a.natAbs < 2 ^ 200) (hb : b.natAbs < 2 ^ 200) : CD (n + 1) i__law_text [.v (.tup [.int a, .int b])] = one (.str (xS (TXp a b))) := by
  have hl1 := int_len ha
  have hl2 := int_len hb
  have s1 := str_int ha
  have s2 := str_int hb
  have c1 := cat_S (a := intL a) (b := [47]) (by simp; omega)
  have c2 := cat_S (a := intL a ++ [47]) (b := intL b) (by simp; omega)
  refine call_eq (d := d__law_text) rfl rfl ?_
  show WS (evS (callD defs FU n) FU b__law_text _) _
  unfold b__law_text
  rw [c_slash]
  unfold TXp
  by_cases c : b = 1
  · rw [if_pos c, List.append_nil]
    simp [isTy, c, s1, one, d__law_text]
  · rw [if_neg c, show intL a ++ 47 :: intL b = intL a ++ [47] ++ intL b by simp]
    generalize xS (intL a ++ [47] ++ intL b) = Z at *
    generalize xS (intL a ++ [47]) = Y at *
    generalize xS (intL a) = X at *
    simp [isTy, c, s1, s2, c1, c2, one, d__law_text]
theorem law_text_int (n : Nat) {a : Int} (ha : a.natAbs < 2 ^ 200) : CD (n + 1) i__law_text [.v (.int a)] = one (.str (xS (TXp a 1))) := by
  have s1 := str_int ha
  refine call_eq (d := d__law_text) rfl rfl ?_
  unfold TXp
  rw [if_pos rfl, List.append_nil]
  simp [d__law_text, b__law_text, isTy, s1, one]
end K01
set_option maxHeartbeats 4000000
namespace K01
open PySem L2 VI
/-! what the law draws -/
def GI (m : VI.D) (j : Nat) (ρ : VI.Env) : Prop := ∃ (xs : List Int) (t b : Nat) (s4 : VI.Slot), t < 30 ^ j ∧ b < 30 ^ j ∧ ρ = [Dr xs, .v m, .v (.int t), .v (.int b), s4]
theorem m30 (x : Int) : binD .mul (.int x) (.int 30) = some (.int (x * 30)) := mulR x 30 ⟨by decide, by decide⟩
theorem great_ok (n : Nat) (xs : List Int) : ∃ xs' a b, 0 < b ∧ a.natAbs < 10 ^ 40 ∧ b.natAbs < 10 ^ 40 ∧ CD (n + 2) i__law_great [Dr xs, .v (.int 27)] = some (.ret (.v (.tup [.int a, .int b])) [Dr xs', .no]) := by
  suffices h : ∃ o, CD (n + 2) i__law_great [Dr xs, .v (.int 27)] = some o ∧ ∃ xs' a b, 0 < b ∧ a.natAbs < 10 ^ 40 ∧ b.natAbs < 10 ^ 40 ∧ o = .ret (.v (.tup [.int a, .int b])) [Dr xs', .no] by
    obtain ⟨_, h, xs', a, b, h1, h2, h3, rfl⟩ := h
    exact ⟨xs', a, b, h1, h2, h3, h⟩
  refine call_ws (d := d__law_great) rfl rfl ?_
  simp [d__law_great, b__law_great, rng_lit 27 27 rfl (by decide)]
  refine ws_loop (GI (.int 27)) ⟨xs, 0, 0, .no, by decide, by decide, rfl⟩ ?_ ?_
  · rintro j d ρ hd ⟨xs, t, b, s4, ht, hb, rfl⟩
    obtain ⟨x1, v, hv, e1⟩ := take_cell n xs (m := 30) (by decide)
    obtain ⟨x2, w, hw, e2⟩ := take_cell n x1 (m := 30) (by decide)
    have e1' : CD (n + 1) i__law_take [Dr xs, .v (.int 30)] = some (.ret (.v (.int (v : Int))) [Dr x1, .no]) := e1
    have e2' : CD (n + 1) i__law_take [Dr x1, .v (.int 30)] = some (.ret (.v (.int (w : Int))) [Dr x2, .no]) := e2
    simp [m30, e1', e2']
    refine ⟨x2, t * 30 + v, b * 30 + w, .v d, ?_, ?_, rfl⟩
    · rw [Nat.pow_succ]; omega
    · rw [Nat.pow_succ]; omega
  · rintro ρ ⟨xs, t, b, s4, ht, hb, rfl⟩
    obtain ⟨x1, v, hv, e1⟩ := take_cell n xs (m := 2) (by decide)
    have e1' : CD (n + 1) i__law_take [Dr xs, .v (.int 2)] = some (.ret (.v (.int (v : Int))) [Dr x1, .no]) := e1
    simp only [List.length_map, List.length_range] at ht hb
    have h27 : (30 : Nat) ^ 27 < 10 ^ 40 := by decide
    by_cases c : v = 1
    · have c' : (v : Int) = 1 := by omega
      simp [e1', c']
      exact ⟨x1, -(t : Int), (b : Int) + 1, by omega, by omega, by omega, ⟨rfl, rfl⟩, rfl⟩
    · have c' : ¬ (v : Int) = 1 := by omega
      simp [e1', c']
      exact ⟨x1, (t : Int), (b : Int) + 1, by omega, by omega, by omega, ⟨rfl, rfl⟩, rfl⟩
theorem given_ok (n : Nat) (xs : List Int) : ∃ xs' d a b, Raw d a b ∧ a.natAbs < 10 ^ 40 ∧ b.natAbs < 10 ^ 40 ∧ CD (n + 3) i__law_given [Dr xs] = some (.ret (.v d) [Dr xs']) := by
  obtain ⟨x1, w, hw, e1⟩ := take_cell (n + 1) xs (m := 5) (by decide)
  have e1' : CD (n + 2) i__law_take [Dr xs, .v (.int 5)] = some (.ret (.v (.int (w : Int))) [Dr x1, .no]) := e1
  by_cases c0 : w = 0
  · have c0' : (w : Int) = 0 := by omega
    obtain ⟨x2, v, hv, e2⟩ := take_cell (n + 1) x1 (m := 27) (by decide)
    have e2' : CD (n + 2) i__law_take [Dr x1, .v (.int 27)] = some (.ret (.v (.int (v : Int))) [Dr x2, .no]) := e2
    have h13 : (100 : Nat) < 10 ^ 40 := by decide
    refine ⟨x2, .int ((v : Int) - 13), (v : Int) - 13, 1, .inl ⟨rfl, rfl⟩, by omega, by decide, ?_⟩
    refine call_eq (d := d__law_given) rfl rfl ?_
    simp [d__law_given, b__law_given, e1', c0', e2']
  · have c0' : ¬ (w : Int) = 0 := by omega
    by_cases c4 : w = 4
    · have c4' : (w : Int) = 4 := by omega
      obtain ⟨x2, a, b, hb, h1, h2, e2⟩ := great_ok n x1
      refine ⟨x2, _, a, b, .inr ⟨rfl, by omega⟩, h1, h2, ?_⟩
      refine call_eq (d := d__law_given) rfl rfl ?_
      simp [d__law_given, b__law_given, e1', c4', e2]
    · have c4' : ¬ (w : Int) = 4 := by omega
      obtain ⟨x2, v, hv, e2⟩ := take_cell (n + 1) x1 (m := 29) (by decide)
      obtain ⟨x3, u, hu, e3⟩ := take_cell (n + 1) x2 (m := 9) (by decide)
      have e2' : CD (n + 2) i__law_take [Dr x1, .v (.int 29)] = some (.ret (.v (.int (v : Int))) [Dr x2, .no]) := e2
      have e3' : CD (n + 2) i__law_take [Dr x2, .v (.int 9)] = some (.ret (.v (.int (u : Int))) [Dr x3, .no]) := e3
      have h13 : (100 : Nat) < 10 ^ 40 := by decide
      refine ⟨x3, .tup [.int ((v : Int) - 14), .int (1 + (u : Int))], (v : Int) - 14, 1 + (u : Int), .inr ⟨rfl, by omega⟩, by omega, by omega, ?_⟩
      refine call_eq (d := d__law_given) rfl rfl ?_
      simp [d__law_given, b__law_given, e1', c0, c4', e2', e3']
/-- a text that the law draws -/
structure Tx (k : Nat) (l : List Nat) : Prop where
  len : l.length ≤ k
  ok : okS l
theorem okS_app {a b : List Nat} (h1 : okS a) (h2 : okS b) : okS (a ++ b) := fun c hc => by
  rcases List.mem_append.mp hc with hc | hc
  · exact h1 c hc
  · exact h2 c hc
def signs : List Nat := [48, 49, 50, 51, 52, 53, 54, 55, 56, 57, 45, 47, 32, 43, 46, 95, 120, 10]
theorem c_signs : Str.ofString "0123456789-/ +._x\n" = xS signs := by decide +kernel
theorem c_nine : Str.ofString "123456789" = xS [49, 50, 51, 52, 53, 54, 55, 56, 57] := by decide +kernel
theorem signs_lt (i : Nat) (h : i < signs.length) : signs[i] < 1114112 := by
  have : ∀ c ∈ signs, c < 1114112 := by decide
  exact this _ (List.getElem_mem h)
theorem sign_ok (n : Nat) (xs : List Int) : ∃ xs' c, c < 1114112 ∧ CD (n + 2) i__law_sign [Dr xs] = some (.ret (.v (.str (xS [c]))) [Dr xs']) := by
  obtain ⟨x1, w, hw, e1⟩ := take_cell n xs (m := 18) (by decide)
  have e1' : CD (n + 1) i__law_take [Dr xs, .v (.int 18)] = some (.ret (.v (.int (w : Int))) [Dr x1, .no]) := e1
  have hl : w < signs.length := hw
  have hx := ix_S (a := signs) hl (by decide)
  refine ⟨x1, signs[w], signs_lt w hl, ?_⟩
  refine call_eq (d := d__law_sign) rfl rfl ?_
  show WS (evS (callD defs FU (n + 1)) FU b__law_sign _) _
  unfold b__law_sign
  rw [c_signs]
  generalize signs[w] = c at *
  simp [d__law_sign, e1', hx]
def LI (k0 : Nat) (j : Nat) (ρ : VI.Env) : Prop := ∃ (xs : List Int) (l : List Nat) (s2 : VI.Slot), Tx (k0 + j) l ∧ ρ = [Dr xs, .v (.str (xS l)), s2]
def LIe (ρ : VI.Env) : Prop := ∃ (xs : List Int) (l : List Nat) (s2 : VI.Slot), Tx 60 l ∧ ρ = [Dr xs, .v (.str (xS l)), s2]
theorem fig_at {a : List Nat} (h : ∀ c ∈ a, c < 1114112) (w : Nat) (hw : w < a.length) (hl : a.length ≤ 100) : ∃ c, c < 1114112 ∧ ixD (.str (xS a)) (.int w) = some (.str (xS [c])) := ⟨a[w], h _ (List.getElem_mem hw), ix_S hw (by omega)⟩
theorem long_ok (n : Nat) (xs : List Int) : ∃ xs' l, Tx 60 l ∧ CD (n + 2) i__law_long [Dr xs] = some (.ret (.v (.str (xS l))) [Dr xs']) := by
  suffices h : ∃ o, CD (n + 2) i__law_long [Dr xs] = some o ∧ ∃ xs' l, Tx 60 l ∧ o = .ret (.v (.str (xS l))) [Dr xs'] by
    obtain ⟨_, h, xs', l, h1, rfl⟩ := h
    exact ⟨xs', l, h1, h⟩
  obtain ⟨x1, w, hw, e1⟩ := take_cell n xs (m := 3) (by decide)
  have e1' : CD (n + 1) i__law_take [Dr xs, .v (.int 3)] = some (.ret (.v (.int (w : Int))) [Dr x1, .no]) := e1
  obtain ⟨x2, v, hv, e2⟩ := take_cell n x1 (m := 9) (by decide)
  have e2' : CD (n + 1) i__law_take [Dr x1, .v (.int 9)] = some (.ret (.v (.int (v : Int))) [Dr x2, .no]) := e2
  obtain ⟨x3, u, hu, e3⟩ := take_cell n x2 (m := 5) (by decide)
  have e3' : CD (n + 1) i__law_take [Dr x2, .v (.int 5)] = some (.ret (.v (.int (u : Int))) [Dr x3, .no]) := e3
  obtain ⟨c, hc, hx⟩ := fig_at (a := [49, 50, 51, 52, 53, 54, 55, 56, 57]) (by decide) v hv (by decide)
  refine call_ws (d := d__law_long) rfl rfl ?_
  show WS (evS (callD defs FU (n + 1)) FU b__law_long _) _
  unfold b__law_long
  rw [c_empty, c_minus, c_nine, c_figs]
  refine ws_mid (fun ρ => ρ = [Dr xs, .v (.str (xS [])), .no]) (by simp [d__law_long]) ?_
  rintro _ rfl
  refine ws_mid (fun ρ => ∃ l, Tx 1 l ∧ ρ = [Dr x1, .v (.str (xS l)), .no]) ?_ ?_
  · by_cases c1 : w = 1
    · have c1' : (w : Int) = 1 := by omega
      simp [e1', c1']
      exact ⟨by decide, okS1 (by decide)⟩
    · have c1' : ¬ (w : Int) = 1 := by omega
      simp [e1', c1']
      exact ⟨by decide, fun c hc => by cases hc⟩
  rintro _ ⟨l, hl, rfl⟩
  have k1 := cat_S (a := l) (b := [c]) (by have := hl.len; simp; omega)
  refine ws_mid (LI 2 0) ?_ ?_
  · have h2 : Tx 2 (l ++ [c]) := ⟨by have := hl.len; simp; omega, okS_app hl.ok (okS1 hc)⟩
    generalize hz : l ++ [c] = z at *
    generalize hxs : xS l = X at *
    simp [e2', hx, k1]
    exact ⟨x2, z, .no, h2, rfl⟩
  rintro _ ⟨xs5, l5, s2, h5, rfl⟩
  obtain ⟨x6, u6, hu6, e6⟩ := take_cell n xs5 (m := 5) (by decide)
  have e6' : CD (n + 1) i__law_take [Dr xs5, .v (.int 5)] = some (.ret (.v (.int (u6 : Int))) [Dr x6, .no]) := e6
  have hrg := rng_lit (37 + u6) (37 + (u6 : Int)) (by omega) (by omega)
  refine ws_mid (LIe) ?_ ?_
  · generalize hxs : xS l5 = X at *
    simp [e6', hrg]
    rw [← hxs]
    refine ws_loopE (LI 2) ⟨x6, l5, s2, h5, rfl⟩ ?_ ?_
    · rintro j d ρ hd ⟨xs, l, s2, hl, rfl⟩
      have hj : j < 37 + u6 := by have := (List.getElem?_eq_some_iff.mp hd).1; simpa using this
      obtain ⟨y1, w, hw, f1⟩ := take_cell n xs (m := 10) (by decide)
      have f1' : CD (n + 1) i__law_take [Dr xs, .v (.int 10)] = some (.ret (.v (.int (w : Int))) [Dr y1, .no]) := f1
      obtain ⟨c, hc, hx⟩ := fig_at (a := [48, 49, 50, 51, 52, 53, 54, 55, 56, 57]) (by decide) w hw (by decide)
      have k1 := cat_S (a := l) (b := [c]) (by have := hl.len; simp; omega)
      have h2 : Tx (2 + (j + 1)) (l ++ [c]) := ⟨by have := hl.len; simp; omega, okS_app hl.ok (okS1 hc)⟩
      generalize hz : l ++ [c] = z at *
      generalize hxs : xS l = X at *
      refine ws_body (by simp) ?_
      simp [f1', hx, k1]
      exact ⟨y1, z, .v d, h2, rfl⟩
    · rintro ρ ⟨xs, l, s2, hl, rfl⟩
      simp only [List.length_map, List.length_range] at hl
      exact ⟨xs, l, s2, ⟨by have := hl.len; omega, hl.ok⟩, rfl⟩
  rintro _ ⟨xs7, l7, s7, h7, rfl⟩
  simp [d__law_long]
  exact ⟨xs7, l7, h7, rfl, rfl⟩
end K01
set_option maxHeartbeats 4000000
namespace K01
open PySem L2 VI
/-! _law_drawn_text -/
theorem p40 {x : Nat} (h : x < 10 ^ 40) : x < 2 ^ 200 := Nat.lt_trans h (by decide)
theorem text_of (n : Nat) {d : VI.D} {a b : Int} (h : Raw d a b) (ha : a.natAbs < 2 ^ 200) (hb : b.natAbs < 2 ^ 200) : CD (n + 1) i__law_text [.v d] = one (.str (xS (TXp a b))) := by
  rcases h with ⟨rfl, rfl⟩ | ⟨rfl, _⟩
  · exact law_text_int n ha
  · exact law_text_ok n ha hb
def DT (w : Int) (k : Nat) (ρ : VI.Env) : Prop := ∃ (xs : List Int) (l : List Nat) (s3 s4 : VI.Slot), Tx k l ∧ l ≠ [] ∧ ρ = [Dr xs, .v (.int w), .v (.str (xS l)), s3, s4]
def DA (w : Int) (k : Nat) (ρ : VI.Env) : Prop := ∃ (xs : List Int) (l : List Nat) (a : Nat) (s4 : VI.Slot), Tx k l ∧ l ≠ [] ∧ a < l.length ∧ ρ = [Dr xs, .v (.int w), .v (.str (xS l)), .v (.int a), s4]
def DL (w : Int) (s3 : VI.Slot) (j : Nat) (ρ : VI.Env) : Prop := ∃ (xs : List Int) (l : List Nat) (s4 : VI.Slot), Tx j l ∧ ρ = [Dr xs, .v (.int w), .v (.str (xS l)), s3, s4]
def Res (o : FOut) : Prop := ∃ xs' l, Tx 600 l ∧ o = .ret (.v (.str (xS l))) [Dr xs']
theorem Tx.app {j k : Nat} {a b : List Nat} (h1 : Tx j a) (h2 : Tx k b) : Tx (j + k) (a ++ b) := ⟨by have := h1.len; have := h2.len; rw [List.length_append]; omega, okS_app h1.ok h2.ok⟩
theorem Tx.take {k : Nat} {a : List Nat} (h : Tx k a) (i : Nat) : Tx k (a.take i) := ⟨by have := h.len; rw [List.length_take]; omega, okS_sub h.ok fun c hc => List.mem_of_mem_take hc⟩
theorem Tx.drop {k : Nat} {a : List Nat} (h : Tx k a) (i : Nat) : Tx k (a.drop i) := ⟨by have := h.len; rw [List.length_drop]; omega, okS_sub h.ok fun c hc => List.mem_of_mem_drop hc⟩
theorem Tx.mono {j k : Nat} {a : List Nat} (h : Tx j a) (hk : j ≤ k) : Tx k a := ⟨Nat.le_trans h.len hk, h.ok⟩
theorem Tx.one {c : Nat} (h : c < 1114112) : Tx 1 [c] := ⟨Nat.le_refl _, okS1 h⟩
theorem drawn_ok (n : Nat) (xs : List Int) : ∃ xs' l, Tx 600 l ∧ CD (n + 4) i__law_drawn_text [Dr xs] = some (.ret (.v (.str (xS l))) [Dr xs']) := by
  suffices h : ∃ o, CD (n + 4) i__law_drawn_text [Dr xs] = some o ∧ Res o by
    obtain ⟨_, h, xs', l, h1, rfl⟩ := h
    exact ⟨xs', l, h1, h⟩
  obtain ⟨x1, w, hw, e1⟩ := take_cell (n + 2) xs (m := 6) (by decide)
  have e1' : CD (n + 3) i__law_take [Dr xs, .v (.int 6)] = some (.ret (.v (.int (w : Int))) [Dr x1, .no]) := e1
  obtain ⟨x2, d, a, b, hr, ha, hb, e2⟩ := given_ok n x1
  have et := text_of (n + 2) hr (p40 ha) (p40 hb)
  have htx : Tx 250 (TXp a b) := ⟨TXp_len (p40 ha) (p40 hb), TXp_okS a b⟩
  have htn := TXp_ne a b
  refine call_ws (d := d__law_drawn_text) rfl rfl ?_
  show WS (evS (callD defs FU (n + 3)) FU b__law_drawn_text _) _
  unfold b__law_drawn_text
  rw [c_empty, c_slash]
  refine ws_mid (fun ρ => ρ = [Dr x1, .v (.int w), .no, .no, .no]) (by simp [d__law_drawn_text, e1']) ?_
  rintro _ rfl
  generalize TXp a b = l0 at *
  refine ws_mid (DT w 250) ?_ ?_
  · generalize hx : xS l0 = X at *
    simp [e2, et, one]
    exact ⟨x2, l0, .no, .no, htx, htn, by rw [hx]⟩
  rintro _ ⟨x3, l1, s3, s4, h1, hn1, rfl⟩
  obtain ⟨x4, u, hu, e4⟩ := take_cell (n + 2) x3 (m := 4) (by decide)
  have e4' : CD (n + 3) i__law_take [Dr x3, .v (.int 4)] = some (.ret (.v (.int (u : Int))) [Dr x4, .no]) := e4
  refine ws_mid (DT w 400) ?_ ?_
  · by_cases c : u = 3
    · have c' : (u : Int) = 3 := by omega
      obtain ⟨x5, v, hv, e5⟩ := take_cell (n + 2) x4 (m := 12) (by decide)
      have e5' : CD (n + 3) i__law_take [Dr x4, .v (.int 12)] = some (.ret (.v (.int (v : Int))) [Dr x5, .no]) := e5
      have s1 := str_int (i := 1 + (v : Int)) (by have : (2 : Nat) ^ 200 > 100 := by decide
                                                  omega)
      have hl2 := int_len (i := 1 + (v : Int)) (by have : (2 : Nat) ^ 200 > 100 := by decide
                                                   omega)
      have k1 := cat_S (a := l1) (b := [47]) (by have := h1.len; simp; omega)
      have k2 := cat_S (a := l1 ++ [47]) (b := intL (1 + (v : Int))) (by have := h1.len; simp; omega)
      have h3 : Tx 400 (l1 ++ [47] ++ intL (1 + (v : Int))) := ((h1.app (Tx.one (c := 47) (by decide))).app (k := 102) ⟨hl2, int_okS _⟩).mono (by decide)
      have hn3 : l1 ++ [47] ++ intL (1 + (v : Int)) ≠ [] := by simp
      generalize l1 ++ [47] ++ intL (1 + (v : Int)) = l2 at *
      generalize intL (1 + (v : Int)) = iv at *
      generalize xS (l1 ++ [47]) = Y at *
      generalize xS l1 = X at *
      generalize xS iv = I at *
      generalize hx : xS l2 = Z at *
      simp [e4', c', e5', s1, k1, k2]
      exact ⟨x5, l2, _, _, h3, hn3, by rw [hx]⟩
    · have c' : ¬ (u : Int) = 3 := by omega
      generalize hx : xS l1 = X at *
      simp [e4', c']
      exact ⟨x4, l1, _, _, h1.mono (by decide), hn1, by rw [hx]⟩
  rintro _ ⟨x5, l2, s3, s4, h2, hn2, rfl⟩
  obtain ⟨x6, at_, hat, e6⟩ := take_cell (n + 2) x5 (m := l2.length) (List.length_pos_iff.mpr hn2)
  have el := len_S (a := l2) (by have := h2.len; omega)
  refine ws_mid (DA w 400) ?_ ?_
  · generalize hx : xS l2 = X at *
    simp [el, e6]
    exact ⟨x6, l2, at_, s4, h2, hn2, hat, by rw [hx]⟩
  rintro _ ⟨x7, l, p, s4, hl, hn, hp, rfl⟩
  have hll := hl.len
  have kT : slTD (.str (xS l)) (.int (p : Int)) = some (.str (xS (l.take p))) := slT_S (by omega)
  have kF : slFD (.str (xS l)) (.int (p : Int)) = some (.str (xS (l.drop p))) := slF_S (by omega)
  have kG : slFD (.str (xS l)) (.int ((p : Int) + 1)) = some (.str (xS (l.drop (p + 1)))) := slF_S (i := p + 1) (by omega)
  have tT := hl.take p
  have tF := hl.drop p
  have tG := hl.drop (p + 1)
  have hTl := tT.len
  have hFl := tF.len
  have hGl := tG.len
  have hTl2 : (l.take p).length ≤ p := List.length_take_le _ _
  have hFl2 : (l.drop p).length = l.length - p := List.length_drop
  have hGl2 : (l.drop (p + 1)).length = l.length - (p + 1) := List.length_drop
  refine ws_mid (fun ρ => ρ = [Dr x7, .v (.int w), .v (.str (xS l)), .v (.int p), s4]) ?_ ?_
  · by_cases c : w = 0
    · have c' : (w : Int) = 0 := by omega
      have hres : Res (.ret (.v (.str (xS l))) [Dr x7]) := ⟨x7, l, hl.mono (by decide), rfl⟩
      generalize xS l = X at *
      simp [c']
      exact hres
    · have c' : ¬ (w : Int) = 0 := by omega
      simp [c, c']
  rintro _ rfl
  refine ws_mid (fun ρ => ρ = [Dr x7, .v (.int w), .v (.str (xS l)), .v (.int p), s4]) ?_ ?_
  · by_cases c : w = 1
    · have c' : (w : Int) = 1 := by omega
      obtain ⟨y1, sc, hsc, f1⟩ := sign_ok (n + 1) x7
      have k1 := cat_S (a := l.take p) (b := [sc]) (by simp; omega)
      have k2 := cat_S (a := l.take p ++ [sc]) (b := l.drop p) (by simp; omega)
      have h3 : Tx 600 (l.take p ++ [sc] ++ l.drop p) := ⟨by simp; omega, okS_app (okS_app tT.ok (okS1 hsc)) tF.ok⟩
      have hres : Res (.ret (.v (.str (xS (l.take p ++ [sc] ++ l.drop p)))) [Dr y1]) := ⟨y1, _, h3, rfl⟩
      generalize xS (l.take p ++ [sc] ++ l.drop p) = Z at *
      generalize xS (l.take p ++ [sc]) = Y at *
      generalize xS (l.take p) = X1 at *
      generalize xS (l.drop p) = X2 at *
      generalize xS (l.drop (p + 1)) = X3 at *
      generalize xS l = X at *
      simp [c', kT, kF, f1, k1, k2]
      exact hres
    · have c' : ¬ (w : Int) = 1 := by omega
      simp [c, c']
  rintro _ rfl
  refine ws_mid (fun ρ => ρ = [Dr x7, .v (.int w), .v (.str (xS l)), .v (.int p), s4]) ?_ ?_
  · by_cases c : w = 2
    · have c' : (w : Int) = 2 := by omega
      have k1 := cat_S (a := l.take p) (b := l.drop (p + 1)) (by omega)
      have h3 : Tx 600 (l.take p ++ l.drop (p + 1)) := ⟨by simp; omega, okS_app tT.ok tG.ok⟩
      have hres : Res (.ret (.v (.str (xS (l.take p ++ l.drop (p + 1))))) [Dr x7]) := ⟨x7, _, h3, rfl⟩
      generalize xS (l.take p ++ l.drop (p + 1)) = Z at *
      generalize xS (l.take p) = X1 at *
      generalize xS (l.drop p) = X2 at *
      generalize xS (l.drop (p + 1)) = X3 at *
      generalize xS l = X at *
      simp [c', kT, kG, k1]
      exact hres
    · have c' : ¬ (w : Int) = 2 := by omega
      simp [c']
  rintro _ rfl
  refine ws_mid (fun ρ => ρ = [Dr x7, .v (.int w), .v (.str (xS l)), .v (.int p), s4]) ?_ ?_
  · by_cases c : w = 3
    · have c' : (w : Int) = 3 := by omega
      obtain ⟨y1, sc, hsc, f1⟩ := sign_ok (n + 1) x7
      have k1 := cat_S (a := l.take p) (b := [sc]) (by simp; omega)
      have k2 := cat_S (a := l.take p ++ [sc]) (b := l.drop (p + 1)) (by simp; omega)
      have h3 : Tx 600 (l.take p ++ [sc] ++ l.drop (p + 1)) := ⟨by simp; omega, okS_app (okS_app tT.ok (okS1 hsc)) tG.ok⟩
      have hres : Res (.ret (.v (.str (xS (l.take p ++ [sc] ++ l.drop (p + 1))))) [Dr y1]) := ⟨y1, _, h3, rfl⟩
      generalize xS (l.take p ++ [sc] ++ l.drop (p + 1)) = Z at *
      generalize xS (l.take p ++ [sc]) = Y at *
      generalize xS (l.take p) = X1 at *
      generalize xS (l.drop p) = X2 at *
      generalize xS (l.drop (p + 1)) = X3 at *
      generalize xS l = X at *
      simp [c', kT, kG, f1, k1, k2]
      exact hres
    · have c' : ¬ (w : Int) = 3 := by omega
      simp [c']
  rintro _ rfl
  refine ws_mid (fun ρ => ρ = [Dr x7, .v (.int w), .v (.str (xS l)), .v (.int p), s4]) ?_ ?_
  · by_cases c : w = 4
    · have c' : (w : Int) = 4 := by omega
      obtain ⟨y1, m1, hm1, f1⟩ := long_ok (n + 1) x7
      obtain ⟨y2, v, hv, f2⟩ := take_cell (n + 2) y1 (m := 2) (by decide)
      have f2' : CD (n + 3) i__law_take [Dr y1, .v (.int 2)] = some (.ret (.v (.int (v : Int))) [Dr y2, .no]) := f2
      by_cases cv : v = 1
      · have cv' : (v : Int) = 1 := by omega
        obtain ⟨y3, m2, hm2, f3⟩ := long_ok (n + 1) y2
        have hl1 := hm1.len
        have hl2 := hm2.len
        have k1 := cat_S (a := m1) (b := [47]) (by simp; omega)
        have k2 := cat_S (a := m1 ++ [47]) (b := m2) (by simp; omega)
        have h3 : Tx 600 (m1 ++ [47] ++ m2) := ⟨by simp; omega, okS_app (okS_app hm1.ok (okS1 (by decide))) hm2.ok⟩
        have hres : Res (.ret (.v (.str (xS (m1 ++ [47] ++ m2)))) [Dr y3]) := ⟨y3, _, h3, rfl⟩
        generalize xS (m1 ++ [47] ++ m2) = Z at *
        generalize xS (m1 ++ [47]) = Y at *
        generalize xS m1 = X1 at *
        generalize xS m2 = X2 at *
        generalize xS l = X at *
        simp [c', f1, f2', cv', f3, k1, k2]
        exact hres
      · have cv' : ¬ (v : Int) = 1 := by omega
        have hres : Res (.ret (.v (.str (xS m1))) [Dr y2]) := ⟨y2, _, hm1.mono (by decide), rfl⟩
        generalize xS m1 = X1 at *
        generalize xS l = X at *
        simp [c', f1, f2', cv']
        exact hres
    · have c' : ¬ (w : Int) = 4 := by omega
      simp [c']
  rintro _ rfl
  refine ws_mid (DL w (.v (.int p)) 0) ?_ ?_
  · simp
    exact ⟨x7, [], s4, ⟨by decide, fun c hc => by cases hc⟩, rfl⟩
  rintro _ ⟨x8, l8, s8, h8, rfl⟩
  obtain ⟨x9, m, hm, e9⟩ := take_cell (n + 2) x8 (m := 8) (by decide)
  have e9' : CD (n + 3) i__law_take [Dr x8, .v (.int 8)] = some (.ret (.v (.int (m : Int))) [Dr x9, .no]) := e9
  have hrg := rng_lit m (m : Int) rfl (by omega)
  refine ws_mid (DL w (.v (.int p)) 8) ?_ ?_
  · generalize hx : xS l8 = X at *
    simp [e9', hrg]
    rw [← hx]
    refine ws_loopE (DL w (.v (.int p))) ⟨x9, l8, s8, h8, rfl⟩ ?_ ?_
    · rintro j d ρ hd ⟨xs, l, s2, hl, rfl⟩
      have hj : j < m := by have := (List.getElem?_eq_some_iff.mp hd).1; simpa using this
      obtain ⟨y1, sc, hsc, f1⟩ := sign_ok (n + 1) xs
      have k1 := cat_S (a := l) (b := [sc]) (by have := hl.len; simp; omega)
      have h2 : Tx (j + 1) (l ++ [sc]) := hl.app (Tx.one hsc)
      generalize hz : l ++ [sc] = z at *
      generalize hxs : xS l = X at *
      refine ws_body (by simp) ?_
      simp [f1, k1]
      exact ⟨y1, z, .v d, h2, rfl⟩
    · rintro ρ ⟨xs, l, s2, hl, rfl⟩
      simp only [List.length_map, List.length_range] at hl
      exact ⟨xs, l, s2, hl.mono (by omega), rfl⟩
  rintro _ ⟨xs9, l9, s9, h9, rfl⟩
  have hres : Res (.ret (.v (.str (xS l9))) [Dr xs9]) := ⟨xs9, l9, h9.mono (by decide), rfl⟩
  generalize xS l9 = X at *
  simp [d__law_drawn_text]
  exact hres
end K01
set_option maxHeartbeats 4000000
namespace K01
open PySem L2 VI
/-! what is a number and what is none -/
def wr : List VI.D := [.bl true, .bl false, .non, .str (Str.ofString "3"), .str (Str.ofString "1/2"), .tup [.int 1, .int 0], .tup [.int 2, .int (-3)], .tup [.int 1], .tup [.int 1, .int 2, .int 3], .tup [.bl true, .int 2], .tup [.int 1, .bl true], .lst [.int 1, .int 2], .tup [], .tup [.tup [.int 1, .int 1], .int 2]]
def isN : VI.D → Bool
  | .int _ => true
  | .tup [.int _, .int b] => decide (1 ≤ b)
  | _ => false
def isI : VI.D → Bool
  | .int _ => true
  | _ => false
/-- a number that is not too large -/
def Nm (d : VI.D) : Prop := ∃ a b, Raw d a b ∧ a.natAbs < 2 ^ 133 ∧ b.natAbs < 2 ^ 133
def An (d : VI.D) : Prop := Nm d ∨ d ∈ wr
theorem Nm.isN {d : VI.D} (h : Nm d) : isN d = true := by
  obtain ⟨a, b, h, _⟩ := h
  rcases h with ⟨rfl, _⟩ | ⟨rfl, hb⟩
  · rfl
  · exact decide_eq_true hb
theorem wr_isN {d : VI.D} (h : d ∈ wr) : isN d = false := by
  have : ∀ d ∈ wr, isN d = false := by unfold wr; intro d hd; simp only [List.mem_cons, List.not_mem_nil, or_false] at hd; rcases hd with rfl | rfl | rfl | rfl | rfl | rfl | rfl | rfl | rfl | rfl | rfl | rfl | rfl | rfl <;> rfl
  exact this d h
theorem An.wr {d : VI.D} (h : An d) (hn : isN d = false) : d ∈ wr := by
  rcases h with h | h
  · rw [h.isN] at hn; cases hn
  · exact h
theorem An.nm {d : VI.D} (h : An d) (hn : isN d = true) : Nm d := by
  rcases h with h | h
  · exact h
  · rw [wr_isN h] at hn; cases hn
theorem raw_wr (n : Nat) (w : VI.D) {d : VI.D} (h : d ∈ wr) : CD (n + 2) i_raw_pair [.v d, .v w] = some (.ex c_BadNumber [("word", w)] [.no, .no]) := by
  unfold wr at h
  simp only [List.mem_cons, List.not_mem_nil, or_false] at h
  rw [step (d := d_raw_pair) rfl rfl]
  rcases h with rfl | rfl | rfl | rfl | rfl | rfl | rfl | rfl | rfl | rfl | rfl | rfl | rfl | rfl
  all_goals simp [d_raw_pair, b_raw_pair, whole_non, whole_bl, whole_str, whole_tup, whole_lst, whole_int, one, isTy]
theorem law_is_ok (n : Nat) {d : VI.D} (h : An d) : CD (n + 2) i__law_is [.v d] = one (.bl (isN d)) := by
  have wt := fun l => (show CD (n + 1) i__law_whole [.v (.tup l)] = one (.bl false) by rw [step (d := d__law_whole) rfl rfl]; rfl)
  have wb := fun b => (show CD (n + 1) i__law_whole [.v (.bl b)] = one (.bl false) by rw [step (d := d__law_whole) rfl rfl]; rfl)
  have ws := fun b => (show CD (n + 1) i__law_whole [.v (.str b)] = one (.bl false) by rw [step (d := d__law_whole) rfl rfl]; rfl)
  have wl := fun l => (show CD (n + 1) i__law_whole [.v (.lst l)] = one (.bl false) by rw [step (d := d__law_whole) rfl rfl]; rfl)
  have wn := (show CD (n + 1) i__law_whole [.v .non] = one (.bl false) by rw [step (d := d__law_whole) rfl rfl]; rfl)
  have wi := fun a => lwhole_int n a
  rw [step (d := d__law_is) rfl rfl]
  rcases h with ⟨a, b, h, _⟩ | h
  · rcases h with ⟨rfl, rfl⟩ | ⟨rfl, hb⟩
    · simp [d__law_is, b__law_is, wi, one, isN]
    · simp [d__law_is, b__law_is, wi, wt, one, isTy, isN, hb]
  · unfold wr at h
    simp only [List.mem_cons, List.not_mem_nil, or_false] at h
    rcases h with rfl | rfl | rfl | rfl | rfl | rfl | rfl | rfl | rfl | rfl | rfl | rfl | rfl | rfl
    all_goals simp [d__law_is, b__law_is, wi, wt, wb, ws, wl, wn, one, isTy, isN]
theorem Nm.sz {d : VI.D} (h : Nm d) : ∃ r, Sz d r 133 := by
  obtain ⟨a, b, h, h1, h2⟩ := h
  exact ⟨_, ⟨a, b, h, rfl, h1, h2⟩⟩
/-- what an answer is -/
inductive Ans (np : Nat) : Option FOut → Option String → Prop
  | fine (d : VI.D) (h : isNon d = false) : Ans np (some (.ret (.v d) (List.replicate np .no))) none
  | bad (w : String) : Ans np (some (.ex c_BadNumber [("word", .str (Str.ofString w))] (List.replicate np .no))) (some w)
theorem isNon_prR (r : Rat) : isNon (prR r) = false := rfl
theorem ans_two {d : VI.D} (h : isNon d = false) : Ans 2 (two d) none := .fine d h
theorem ans_one {d : VI.D} (h : isNon d = false) : Ans 1 (one d) none := .fine d h
/-- a function of two numbers that asks both in turn -/
theorem pair_ans (n : Nat) (f : Nat) {l r : VI.D} (hl : An l) (hr : An r) (ok : Nm l → Nm r → Ans 2 (CD (n + 3) f [.v l, .v r]) none)
    (b1 : ∀ d ∈ wr, ∀ r, CD (n + 3) f [.v d, .v r] = some (.ex c_BadNumber [("word", .str "one")] [.no, .no])) (b2 : ∀ l, Nm l → ∀ d ∈ wr, CD (n + 3) f [.v l, .v d] = some (.ex c_BadNumber [("word", .str "other")] [.no, .no])) :
    Ans 2 (CD (n + 3) f [.v l, .v r]) (if isN l = false then some "one" else if isN r = false then some "other" else none) := by
  cases h1 : isN l with
  | false =>
    rw [if_pos rfl, b1 l (hl.wr h1) r]
    exact .bad "one"
  | true =>
    rw [if_neg (by decide)]
    cases h2 : isN r with
    | false =>
      rw [if_pos rfl, b2 l (hl.nm h1) r (hr.wr h2)]
      exact .bad "other"
    | true =>
      rw [if_neg (by decide)]
      exact ok (hl.nm h1) (hr.nm h2)
theorem raw_nm (n : Nat) (w : VI.D) {d : VI.D} (h : Nm d) : ∃ a b, CD (n + 2) i_raw_pair [.v d, .v w] = two (.tup [.int a, .int b]) := by
  obtain ⟨a, b, h, _⟩ := h
  exact ⟨a, b, raw_ok n w h⟩
theorem plus_ans (n : Nat) {l r : VI.D} (hl : An l) (hr : An r) : Ans 2 (CD (n + 3) i_plus [.v l, .v r]) (if isN l = false then some "one" else if isN r = false then some "other" else none) := by
  refine pair_ans n i_plus hl hr (fun h1 h2 => ?_) (fun d hd r => ?_) fun l hl d hd => ?_
  · obtain ⟨x, hx⟩ := h1.sz
    obtain ⟨y, hy⟩ := h2.sz
    rw [plus_ok n hx hy (by decide)]
    exact ans_two rfl
  · have e1 := raw_wr n (.str "one") hd
    rw [step (d := d_plus) rfl rfl]
    simp [d_plus, b_plus, e1]
  · obtain ⟨a, b, e1⟩ := raw_nm n (.str "one") hl
    have e2 := raw_wr n (.str "other") hd
    rw [step (d := d_plus) rfl rfl]
    simp [d_plus, b_plus, e1, e2, two]
theorem minus_ans (n : Nat) {l r : VI.D} (hl : An l) (hr : An r) : Ans 2 (CD (n + 3) i_minus [.v l, .v r]) (if isN l = false then some "one" else if isN r = false then some "other" else none) := by
  refine pair_ans n i_minus hl hr (fun h1 h2 => ?_) (fun d hd r => ?_) fun l hl d hd => ?_
  · obtain ⟨x, hx⟩ := h1.sz
    obtain ⟨y, hy⟩ := h2.sz
    rw [minus_ok n hx hy (by decide)]
    exact ans_two rfl
  · have e1 := raw_wr n (.str "one") hd
    rw [step (d := d_minus) rfl rfl]
    simp [d_minus, b_minus, e1]
  · obtain ⟨a, b, e1⟩ := raw_nm n (.str "one") hl
    have e2 := raw_wr n (.str "other") hd
    rw [step (d := d_minus) rfl rfl]
    simp [d_minus, b_minus, e1, e2, two]
theorem times_ans (n : Nat) {l r : VI.D} (hl : An l) (hr : An r) : Ans 2 (CD (n + 3) i_times [.v l, .v r]) (if isN l = false then some "one" else if isN r = false then some "other" else none) := by
  refine pair_ans n i_times hl hr (fun h1 h2 => ?_) (fun d hd r => ?_) fun l hl d hd => ?_
  · obtain ⟨x, hx⟩ := h1.sz
    obtain ⟨y, hy⟩ := h2.sz
    rw [times_ok n hx hy (by decide)]
    exact ans_two rfl
  · have e1 := raw_wr n (.str "one") hd
    rw [step (d := d_times) rfl rfl]
    simp [d_times, b_times, e1]
  · obtain ⟨a, b, e1⟩ := raw_nm n (.str "one") hl
    have e2 := raw_wr n (.str "other") hd
    rw [step (d := d_times) rfl rfl]
    simp [d_times, b_times, e1, e2, two]
theorem compare_bad (n : Nat) : (∀ d ∈ wr, ∀ r, CD (n + 3) i_compare [.v d, .v r] = some (.ex c_BadNumber [("word", .str "one")] [.no, .no])) ∧ (∀ l, Nm l → ∀ d ∈ wr, CD (n + 3) i_compare [.v l, .v d] = some (.ex c_BadNumber [("word", .str "other")] [.no, .no])) := by
  refine ⟨fun d hd r => ?_, fun l hl d hd => ?_⟩
  · have e1 := raw_wr n (.str "one") hd
    rw [step (d := d_compare) rfl rfl]
    simp [d_compare, b_compare, e1]
  · obtain ⟨a, b, e1⟩ := raw_nm n (.str "one") hl
    have e2 := raw_wr n (.str "other") hd
    rw [step (d := d_compare) rfl rfl]
    simp [d_compare, b_compare, e1, e2, two]
theorem compare_ans (n : Nat) {l r : VI.D} (hl : An l) (hr : An r) : Ans 2 (CD (n + 3) i_compare [.v l, .v r]) (if isN l = false then some "one" else if isN r = false then some "other" else none) := by
  refine pair_ans n i_compare hl hr (fun h1 h2 => ?_) (compare_bad n).1 (compare_bad n).2
  obtain ⟨x, hx⟩ := h1.sz
  obtain ⟨y, hy⟩ := h2.sz
  rw [compare_ok n hx hy (by decide)]
  exact ans_two rfl
theorem lesser_ans (n : Nat) {l r : VI.D} (hl : An l) (hr : An r) : Ans 2 (CD (n + 4) i_lesser [.v l, .v r]) (if isN l = false then some "one" else if isN r = false then some "other" else none) := by
  refine pair_ans (n + 1) i_lesser hl hr (fun h1 h2 => ?_) (fun d hd r => ?_) fun l hl d hd => ?_
  · obtain ⟨x, hx⟩ := h1.sz
    obtain ⟨y, hy⟩ := h2.sz
    rw [lesser_ok n hx hy (by decide)]
    exact ans_two (by split <;> rfl)
  · have e1 := (compare_bad n).1 d hd r
    rw [step (d := d_lesser) rfl rfl]
    simp [d_lesser, b_lesser, e1]
  · have e1 := (compare_bad n).2 l hl d hd
    rw [step (d := d_lesser) rfl rfl]
    simp [d_lesser, b_lesser, e1]
theorem greater_ans (n : Nat) {l r : VI.D} (hl : An l) (hr : An r) : Ans 2 (CD (n + 4) i_greater [.v l, .v r]) (if isN l = false then some "one" else if isN r = false then some "other" else none) := by
  refine pair_ans (n + 1) i_greater hl hr (fun h1 h2 => ?_) (fun d hd r => ?_) fun l hl d hd => ?_
  · obtain ⟨x, hx⟩ := h1.sz
    obtain ⟨y, hy⟩ := h2.sz
    rw [greater_ok n hx hy (by decide)]
    exact ans_two (by split <;> rfl)
  · have e1 := (compare_bad n).1 d hd r
    rw [step (d := d_greater) rfl rfl]
    simp [d_greater, b_greater, e1]
  · have e1 := (compare_bad n).2 l hl d hd
    rw [step (d := d_greater) rfl rfl]
    simp [d_greater, b_greater, e1]
def zeroD : VI.D → Bool
  | .int a => decide (a = 0)
  | .tup (.int a :: _) => decide (a = 0)
  | _ => false
theorem divided_ans (n : Nat) {l r : VI.D} (hl : An l) (hr : An r) : Ans 2 (CD (n + 3) i_divided [.v l, .v r]) (if isN l = false then some "one" else if isN r = false then some "other" else if zeroD r = true then some "other" else none) := by
  have main := pair_ans n i_divided hl hr
  cases h1 : isN l with
  | false =>
    have e1 := raw_wr n (.str "one") (hl.wr h1)
    rw [if_pos rfl, step (d := d_divided) rfl rfl]
    simp [d_divided, b_divided, e1]
    exact .bad "one"
  | true =>
    rw [if_neg (by decide)]
    have hn := hl.nm h1
    cases h2 : isN r with
    | false =>
      obtain ⟨a, b, e1⟩ := raw_nm n (.str "one") hn
      have e2 := raw_wr n (.str "other") (hr.wr h2)
      rw [if_pos rfl, step (d := d_divided) rfl rfl]
      simp [d_divided, b_divided, e1, e2, two]
      exact .bad "other"
    | true =>
      rw [if_neg (by decide)]
      obtain ⟨c, d, h3, hc, hd⟩ := hr.nm h2
      have hz : zeroD r = decide (c = 0) := by
        rcases h3 with ⟨rfl, _⟩ | ⟨rfl, _⟩ <;> rfl
      rw [hz]
      by_cases c0 : c = 0
      · obtain ⟨a, b, e1⟩ := raw_nm n (.str "one") hn
        have e2 := raw_ok n (.str "other") h3
        subst c0
        rw [if_pos (by decide), step (d := d_divided) rfl rfl]
        simp [d_divided, b_divided, e1, e2, two]
        exact .bad "other"
      · rw [if_neg (by simpa using c0)]
        obtain ⟨x, hx⟩ := hn.sz
        have hy : Sz r (Rat.divInt c d) 133 := ⟨c, d, h3, rfl, hc, hd⟩
        have hq : Rat.divInt c d ≠ 0 := by
          intro z
          have z2 : Rat.divInt c d * (d : Rat) = 0 := by rw [z, Rat.zero_mul]
          rw [Rat.divInt_eq_div, Rat.div_mul_cancel (rat_ne h3.pos)] at z2
          exact c0 (by exact_mod_cast z2)
        rw [divided_ok n hx hy hq (by decide)]
        exact ans_two rfl
end K01
set_option maxHeartbeats 4000000
namespace K01
open PySem L2 VI
/-! functions of one number, of a row -/
def nmAns (d : VI.D) : Option String := if isN d = false then some "number" else none
theorem ratio_ans (n : Nat) {l : VI.D} (hl : An l) : Ans 1 (CD (n + 4) i_ratio [.v l]) (nmAns l) := by
  unfold nmAns
  cases h1 : isN l with
  | false =>
    have e1 := raw_wr n (.str (Str.ofString "number")) (hl.wr h1)
    have e2 : CD (n + 3) i_ratio_named [.v l, .v (.str (Str.ofString "number"))] = some (.ex c_BadNumber [("word", .str (Str.ofString "number"))] [.no, .no]) := by
      rw [step (d := d_ratio_named) rfl rfl]
      simp [d_ratio_named, b_ratio_named, e1]
    rw [if_pos rfl, step (d := d_ratio) rfl rfl]
    simp [d_ratio, b_ratio, e2]
    exact .bad "number"
  | true =>
    rw [if_neg (by decide)]
    obtain ⟨x, hx⟩ := (hl.nm h1).sz
    rw [ratio_ok n hx (by decide)]
    exact ans_one rfl
theorem up_ans (n : Nat) {l : VI.D} (hl : An l) : Ans 1 (CD (n + 3) i_rounded_up [.v l]) (nmAns l) := by
  unfold nmAns
  cases h1 : isN l with
  | false =>
    have e1 := raw_wr n (.str (Str.ofString "number")) (hl.wr h1)
    rw [if_pos rfl, step (d := d_rounded_up) rfl rfl]
    simp [d_rounded_up, b_rounded_up, e1]
    exact .bad "number"
  | true =>
    rw [if_neg (by decide)]
    obtain ⟨x, hx⟩ := (hl.nm h1).sz
    rw [up_ok n hx (by decide)]
    exact ans_one rfl
theorem down_ans (n : Nat) {l : VI.D} (hl : An l) : Ans 1 (CD (n + 3) i_rounded_down [.v l]) (nmAns l) := by
  unfold nmAns
  cases h1 : isN l with
  | false =>
    have e1 := raw_wr n (.str (Str.ofString "number")) (hl.wr h1)
    rw [if_pos rfl, step (d := d_rounded_down) rfl rfl]
    simp [d_rounded_down, b_rounded_down, e1]
    exact .bad "number"
  | true =>
    rw [if_neg (by decide)]
    obtain ⟨x, hx⟩ := (hl.nm h1).sz
    rw [down_ok n hx (by decide)]
    exact ans_one rfl
theorem text_ans (n : Nat) {l : VI.D} (hl : An l) : Ans 1 (CD (n + 4) i_ratio_text [.v l]) (nmAns l) := by
  unfold nmAns
  cases h1 : isN l with
  | false =>
    have e1 := raw_wr n (.str (Str.ofString "number")) (hl.wr h1)
    have e2 : CD (n + 3) i_ratio_named [.v l, .v (.str (Str.ofString "number"))] = some (.ex c_BadNumber [("word", .str (Str.ofString "number"))] [.no, .no]) := by
      rw [step (d := d_ratio_named) rfl rfl]
      simp [d_ratio_named, b_ratio_named, e1]
    rw [if_pos rfl, step (d := d_ratio_text) rfl rfl]
    simp [d_ratio_text, b_ratio_text, e2]
    exact .bad "number"
  | true =>
    rw [if_neg (by decide)]
    obtain ⟨a, b, h, h2, h3⟩ := hl.nm h1
    rw [ratio_text_ok n h (Nat.lt_trans h2 (by decide)) (Nat.lt_trans h3 (by decide))]
    exact ans_one rfl
theorem An.whole (n : Nat) {d : VI.D} (h : An d) : CD (n + 1) i_is_whole [.v d] = one (.bl (isI d)) := by
  rcases h with ⟨a, b, h, _⟩ | h
  · rcases h with ⟨rfl, rfl⟩ | ⟨rfl, hb⟩
    · exact whole_int n a
    · exact whole_tup n _
  · unfold K01.wr at h
    simp only [List.mem_cons, List.not_mem_nil, or_false] at h
    rcases h with rfl | rfl | rfl | rfl | rfl | rfl | rfl | rfl | rfl | rfl | rfl | rfl | rfl | rfl
    · exact whole_bl n _
    · exact whole_bl n _
    · exact whole_non n
    · exact whole_str n _
    · exact whole_str n _
    · exact whole_tup n _
    · exact whole_tup n _
    · exact whole_tup n _
    · exact whole_tup n _
    · exact whole_tup n _
    · exact whole_tup n _
    · exact whole_lst n _
    · exact whole_tup n _
    · exact whole_tup n _
theorem An.lwhole (n : Nat) {d : VI.D} (h : An d) : CD (n + 1) i__law_whole [.v d] = one (.bl (isI d)) := by
  rcases h with ⟨a, b, h, _⟩ | h
  · rcases h with ⟨rfl, rfl⟩ | ⟨rfl, hb⟩ <;> (rw [step (d := d__law_whole) rfl rfl]; rfl)
  · unfold K01.wr at h
    simp only [List.mem_cons, List.not_mem_nil, or_false] at h
    rcases h with rfl | rfl | rfl | rfl | rfl | rfl | rfl | rfl | rfl | rfl | rfl | rfl | rfl | rfl <;> (rw [step (d := d__law_whole) rfl rfl]; rfl)
theorem An.int {d : VI.D} (h : An d) (hi : isI d = true) : ∃ a, d = .int a ∧ a.natAbs < 2 ^ 133 := by
  rcases h with ⟨a, b, h, h1, _⟩ | h
  · rcases h with ⟨rfl, rfl⟩ | ⟨rfl, hb⟩
    · exact ⟨a, rfl, h1⟩
    · cases hi
  · unfold K01.wr at h
    simp only [List.mem_cons, List.not_mem_nil, or_false] at h
    rcases h with rfl | rfl | rfl | rfl | rfl | rfl | rfl | rfl | rfl | rfl | rfl | rfl | rfl | rfl <;> cases hi
def is0 : VI.D → Bool
  | .int a => decide (a = 0)
  | _ => false
theorem of_ans (n : Nat) {l r : VI.D} (hl : An l) (hr : An r) : Ans 2 (CD (n + 2) i_of [.v l, .v r]) (if isI l = false then some "top" else if isI r = false then some "bottom" else if is0 r = true then some "bottom" else none) := by
  have e1 := hl.whole n
  have e2 := hr.whole n
  cases h1 : isI l with
  | false =>
    rw [h1] at e1
    rw [if_pos rfl, step (d := d_of) rfl rfl]
    simp [d_of, b_of, e1, one]
    exact .bad "top"
  | true =>
    rw [h1] at e1
    rw [if_neg (by decide)]
    cases h2 : isI r with
    | false =>
      rw [h2] at e2
      rw [if_pos rfl, step (d := d_of) rfl rfl]
      simp [d_of, b_of, e1, e2, one]
      exact .bad "bottom"
    | true =>
      rw [if_neg (by decide)]
      obtain ⟨a, rfl, ha⟩ := hl.int h1
      obtain ⟨b, rfl, hb⟩ := hr.int h2
      show Ans 2 _ (if decide (b = 0) = true then some "bottom" else none)
      by_cases c : b = 0
      · subst c
        rw [if_pos (by decide), step (d := d_of) rfl rfl]
        have w1 := whole_int n a
        have w2 := whole_int n 0
        simp [d_of, b_of, w1, w2, one]
        exact .bad "bottom"
      · rw [if_neg (by simpa using c), of_ok n c hb (by decide)]
        exact ans_two rfl
/-! rows -/
def numsAns (ds : List VI.D) : Option String := if ds.all isN = true then none else some "numbers"
theorem nums_f {ds : List VI.D} (h : ds.all isN = false) : numsAns ds = some "numbers" := by unfold numsAns; rw [h]; rfl
theorem nums_t {ds : List VI.D} (h : ds.all isN = true) : numsAns ds = none := by unfold numsAns; rw [h]; rfl
def SI (ds : List VI.D) (x : VI.D) (k : Nat) (ρ : VI.Env) : Prop := (∀ d ∈ ds.take k, isN d = true) ∧ ∃ (a b : Int) (s3 s4 s5 : VI.Slot), 0 < b ∧ a.natAbs < 2 ^ (k * 135 + 1) ∧ b.natAbs < 2 ^ (k * 135 + 1) ∧ ρ = [.v x, .v (.int a), .v (.int b), s3, s4, s5]
theorem sum_ans (n : Nat) {x : VI.D} {ds : List VI.D} (hx : x = .lst ds ∨ x = .tup ds) (hl : ds.length ≤ 5) (hd : ∀ d ∈ ds, An d) : Ans 1 (CD (n + 3) i_sum_of [.v x]) (numsAns ds) := by
  have ht : isTDD [.list, .tuple] x = some (.bl true) := by rcases hx with rfl | rfl <;> rfl
  have hw : walkD x = some ds := by rcases hx with rfl | rfl <;> rfl
  suffices h : ∃ o, CD (n + 3) i_sum_of [.v x] = some o ∧ Ans 1 (some o) (numsAns ds) by
    obtain ⟨o, e, h⟩ := h
    rw [e]
    exact h
  refine call_ws (d := d_sum_of) rfl rfl ?_
  simp [d_sum_of, b_sum_of, ht, hw]
  refine ws_loop (SI ds x) ⟨by simp, 0, 1, .no, .no, .no, by decide, by decide, by decide, rfl⟩ ?_ ?_
  · rintro k d ρ hk ⟨hI, a, b, s3, s4, s5, hb, ha2, hb2, rfl⟩
    have hkl : k < ds.length := (List.getElem?_eq_some_iff.mp hk).1
    have hm : d ∈ ds := List.mem_of_getElem? hk
    cases hn : isN d with
    | false =>
      have e1 := raw_wr n (.str (Str.ofString "numbers")) ((hd d hm).wr hn)
      have hall : ds.all isN = false := by
        rw [Bool.eq_false_iff]
        intro z
        have := List.all_eq_true.mp z d hm
        rw [hn] at this
        cases this
      rw [nums_f hall]
      simp [e1]
      exact .bad "numbers"
    | true =>
      obtain ⟨p, q, hr, hp, hq⟩ := (hd d hm).nm hn
      have e1 := raw_ok n (.str (Str.ofString "numbers")) hr
      have hI' : ∀ d ∈ ds.take (k + 1), isN d = true := fun c hc => by
        rw [List.take_succ, hk] at hc
        rcases List.mem_append.mp hc with hc | hc
        · exact hI c hc
        · simp at hc; rw [hc]; exact hn
      have hpos := hr.pos
      by_cases c : q = b
      · subst c
        simp [e1, two]
        exact ⟨hI', _, _, _, _, _, hb, pw (add_lt (s := k * 135 + 134) (pw ha2 (by omega)) (pw hp (by omega))) (by omega), pw hb2 (by omega), rfl⟩
      · have m1 : binD .mul (.int a) (.int q) = some (.int (a * q)) := bin_mul (okMul_of ha2 hq (by omega))
        have m2 : binD .mul (.int p) (.int b) = some (.int (p * b)) := bin_mul (okMul_of hp hb2 (by omega))
        have m3 : binD .mul (.int b) (.int q) = some (.int (b * q)) := bin_mul (okMul_of hb2 hq (by omega))
        have hbq : 0 < b * q := Int.mul_pos hb hpos
        have lp := low_pos (n + 1) (a := a * q + p * b) (b := b * q) hbq (mul_lt hb2 hq) (by omega)
        have hnum := Nat.lt_of_le_of_lt (num_le (a := a * q + p * b) hbq) (add_lt (mul_lt ha2 hq) (by rw [Nat.add_comm]; exact mul_lt hp hb2))
        have hden := Nat.lt_of_le_of_lt (den_le (a := a * q + p * b) hbq) (mul_lt hb2 hq)
        have hdp := den_pos (Rat.divInt (a * q + p * b) (b * q))
        generalize Rat.divInt (a * q + p * b) (b * q) = z at *
        unfold prR at lp
        simp [e1, two, c, m1, m2, m3, lp]
        exact ⟨hI', _, _, _, _, _, hdp, pw hnum (by omega), pw hden (by omega), rfl⟩
  · rintro ρ ⟨hI, a, b, s3, s4, s5, hb, ha2, hb2, rfl⟩
    rw [List.take_length] at hI
    have hall : ds.all isN = true := List.all_eq_true.mpr hI
    have lp := low_pos (n + 1) (a := a) (b := b) hb hb2 (by omega)
    rw [nums_t hall]
    simp [lp, two]
    exact .fine _ rfl
end K01
set_option maxHeartbeats 4000000
namespace K01
open PySem L2 VI
/-! words -/
def words : List String := ["one", "other", "number", "top", "bottom", "numbers", "text"]
structure Wd (w : String) (l : List Nat) : Prop where
  e : Str.ofString w = xS l
  ok : okS l
  ne : l ≠ []
theorem wd_of {w : String} (h : w ∈ words) : ∃ l, Wd w l := by
  unfold words at h
  simp only [List.mem_cons, List.not_mem_nil, or_false] at h
  rcases h with rfl | rfl | rfl | rfl | rfl | rfl | rfl
  · exact ⟨[111, 110, 101], by decide +kernel, by unfold okS; decide, by decide⟩
  · exact ⟨[111, 116, 104, 101, 114], by decide +kernel, by unfold okS; decide, by decide⟩
  · exact ⟨[110, 117, 109, 98, 101, 114], by decide +kernel, by unfold okS; decide, by decide⟩
  · exact ⟨[116, 111, 112], by decide +kernel, by unfold okS; decide, by decide⟩
  · exact ⟨[98, 111, 116, 116, 111, 109], by decide +kernel, by unfold okS; decide, by decide⟩
  · exact ⟨[110, 117, 109, 98, 101, 114, 115], by decide +kernel, by unfold okS; decide, by decide⟩
  · exact ⟨[116, 101, 120, 116], by decide +kernel, by unfold okS; decide, by decide⟩
theorem c_fine : Str.ofString "fine" = xS [102, 105, 110, 101] := by decide +kernel
theorem c_bad : Str.ofString "bad" = xS [98, 97, 100] := by decide +kernel
theorem canS {a : List Nat} (h : okS a) : PyData.canLay0 (.str (xS a)) = true := by
  show (xS a).cps.all (· < 0x110000) = true
  rw [Array.all_eq_true_iff_forall_mem]
  intro c hc
  exact decide_eq_true (h c (by simpa using hc))
def fineD : VI.D := .tup [.str (xS [102, 105, 110, 101])]
def badD (l : List Nat) : VI.D := .tup [.str (xS [98, 97, 100]), .str (xS l), .bl true]
theorem sh_fine : SeqAt.shaped (.tuple [.str (xS [102, 105, 110, 101])]) = true := by decide +kernel
theorem sh_bad {l : List Nat} (h : okS l) : SeqAt.shaped (.tuple [.str (xS [98, 97, 100]), .str (xS l), .bool true]) = true := by
  have h1 : PyData.canLay0 (.tuple [.str (xS [98, 97, 100]), .str (xS l), .bool true]) = true := by
    show (PyData.canLay0 (.str (xS [98, 97, 100])) && (PyData.canLay0 (.str (xS l)) && (true && true))) = true
    rw [canS h, canS (a := [98, 97, 100]) (by unfold okS; decide)]
    rfl
  unfold SeqAt.shaped
  rw [h1]
  rfl
theorem eq_ff : eqqD false fineD fineD = some (.bl true) := by
  unfold eqqD eqD
  show ((if SeqAt.shaped (.tuple [.str (xS [102, 105, 110, 101])]) = true ∧ SeqAt.shaped (.tuple [.str (xS [102, 105, 110, 101])]) = true then some (PyData.eqvAll [.str (xS [102, 105, 110, 101])] [.str (xS [102, 105, 110, 101])]) else none).map fun k => VI.D.bl (if false = true then !k else k)) = _
  rw [if_pos ⟨sh_fine, sh_fine⟩]
  rfl
theorem eq_bf {l : List Nat} (h : okS l) : eqqD false (badD l) fineD = some (.bl false) := by
  unfold eqqD eqD
  show ((if SeqAt.shaped (.tuple [.str (xS [98, 97, 100]), .str (xS l), .bool true]) = true ∧ SeqAt.shaped (.tuple [.str (xS [102, 105, 110, 101])]) = true then some (PyData.eqvAll [.str (xS [98, 97, 100]), .str (xS l), .bool true] [.str (xS [102, 105, 110, 101])]) else none).map fun k => VI.D.bl (if false = true then !k else k)) = _
  rw [if_pos ⟨sh_bad h, sh_fine⟩]
  rfl
theorem eq_bb (ne : Bool) {l : List Nat} (h : okS l) : eqqD ne (badD l) (badD l) = some (.bl (if ne then false else true)) := by
  unfold eqqD eqD
  show ((if SeqAt.shaped (.tuple [.str (xS [98, 97, 100]), .str (xS l), .bool true]) = true ∧ SeqAt.shaped (.tuple [.str (xS [98, 97, 100]), .str (xS l), .bool true]) = true then some (PyData.eqvAll [.str (xS [98, 97, 100]), .str (xS l), .bool true] [.str (xS [98, 97, 100]), .str (xS l), .bool true]) else none).map fun k => VI.D.bl (if ne = true then !k else k)) = _
  rw [if_pos ⟨sh_bad h, sh_bad h⟩]
  have : PyData.eqvAll [.str (xS [98, 97, 100]), .str (xS l), .bool true] [.str (xS [98, 97, 100]), .str (xS l), .bool true] = true := by
    show ((xS [98, 97, 100] == xS [98, 97, 100]) && ((xS l == xS l) && ((true == true) && true))) = true
    simp
  rw [this]
  cases ne <;> rfl
/-- what the law makes of an answer -/
def toldD : Option (List Nat) → VI.D
  | none => fineD
  | some l => badD l
inductive Ot : Option String → Option (List Nat) → Prop
  | fine : Ot none none
  | bad {w : String} {l : List Nat} (h : Wd w l) : Ot (some w) (some l)
theorem refused_ok (n : Nat) (t : Nat) (l r : VI.D) {o : Option String} {p : Option (List Nat)} (h : Ans 3 (CD (n + 1) i__law_call [.v (.int t), .v l, .v r]) o) (hp : Ot o p) : CD (n + 2) i__law_refused [.v (.int t), .v l, .v r] = thr (toldD p) := by
  generalize hz : CD (n + 1) i__law_call [.v (.int t), .v l, .v r] = z at h
  refine call_eq (d := d__law_refused) rfl rfl ?_
  show WS (evS (callD defs FU (n + 1)) FU b__law_refused _) _
  unfold b__law_refused
  rw [c_fine, c_bad]
  cases hp with
  | fine =>
    cases h with
    | fine d hd =>
      have ef := eq_ff
      unfold fineD at ef
      simp [d__law_refused, hz, ef, hd, toldD, fineD]
  | bad hw =>
    cases h with
    | bad w =>
      have eb := eq_bf hw.ok
      unfold fineD badD at eb
      have he := hw.e
      rw [he] at hz
      simp [d__law_refused, hz, toldD, badD, eb, show (c_BadNumber < 2) = True from eq_true (by decide), show (c_BadNumber == 1) = false from rfl]
end K01
set_option maxHeartbeats 4000000
namespace K01
open PySem L2 VI
/-! what is asked of each function, and what the law says of it -/
theorem ans_lift2 {z : Option FOut} {o : Option String} (h : Ans 2 z o) : (∃ d, z = two d ∧ isNon d = false ∧ o = none) ∨ ∃ w, z = some (.ex c_BadNumber [("word", .str (Str.ofString w))] [.no, .no]) ∧ o = some w := by
  cases h with
  | fine d h => exact .inl ⟨d, rfl, h, rfl⟩
  | bad w => exact .inr ⟨w, rfl, rfl⟩
theorem ans_lift1 {z : Option FOut} {o : Option String} (h : Ans 1 z o) : (∃ d, z = one d ∧ isNon d = false ∧ o = none) ∨ ∃ w, z = some (.ex c_BadNumber [("word", .str (Str.ofString w))] [.no]) ∧ o = some w := by
  cases h with
  | fine d h => exact .inl ⟨d, rfl, h, rfl⟩
  | bad w => exact .inr ⟨w, rfl, rfl⟩
theorem ans3_fine {d : VI.D} (h : isNon d = false) : Ans 3 (some (.ret (.v d) [.no, .no, .no])) none := .fine d h
theorem ans3_bad (w : String) : Ans 3 (some (.ex c_BadNumber [("word", .str (Str.ofString w))] [.no, .no, .no])) (some w) := .bad w
/-- the rows that a value may be -/
theorem seq_cases {r : VI.D} (h : An r) : (∃ ds, (r = .lst ds ∨ r = .tup ds) ∧ ds.length ≤ 5 ∧ ∀ d ∈ ds, An d) ∨ (isTDD [.list, .tuple] r = some (.bl false) ∧ isTDD [.list] r = some (.bl false) ∧ isTDD [.tuple] r = some (.bl false)) := by
  have ai : ∀ a : Int, a.natAbs < 2 ^ 133 → An (.int a) := fun a h => .inl ⟨a, 1, .inl ⟨rfl, rfl⟩, h, by decide⟩
  have a1 := ai 1 (by decide)
  have a2 := ai 2 (by decide)
  have a3 := ai 3 (by decide)
  have a0 := ai 0 (by decide)
  have am := ai (-3) (by decide)
  rcases h with ⟨a, b, h, h1, h2⟩ | h
  · rcases h with ⟨rfl, rfl⟩ | ⟨rfl, hb⟩
    · exact .inr ⟨rfl, rfl, rfl⟩
    · refine .inl ⟨[.int a, .int b], .inr rfl, by simp, fun d hd => ?_⟩
      simp only [List.mem_cons, List.not_mem_nil, or_false] at hd
      rcases hd with rfl | rfl
      · exact ai a h1
      · exact ai b h2
  · have hw := h
    unfold wr at h
    simp only [List.mem_cons, List.not_mem_nil, or_false] at h
    rcases h with rfl | rfl | rfl | rfl | rfl | rfl | rfl | rfl | rfl | rfl | rfl | rfl | rfl | rfl
    · exact .inr ⟨rfl, rfl, rfl⟩
    · exact .inr ⟨rfl, rfl, rfl⟩
    · exact .inr ⟨rfl, rfl, rfl⟩
    · exact .inr ⟨rfl, rfl, rfl⟩
    · exact .inr ⟨rfl, rfl, rfl⟩
    · refine .inl ⟨[.int 1, .int 0], .inr rfl, by decide, fun d hd => ?_⟩
      simp only [List.mem_cons, List.not_mem_nil, or_false] at hd
      rcases hd with rfl | rfl <;> assumption
    · refine .inl ⟨[.int 2, .int (-3)], .inr rfl, by decide, fun d hd => ?_⟩
      simp only [List.mem_cons, List.not_mem_nil, or_false] at hd
      rcases hd with rfl | rfl <;> assumption
    · refine .inl ⟨[.int 1], .inr rfl, by decide, fun d hd => ?_⟩
      simp only [List.mem_cons, List.not_mem_nil, or_false] at hd
      rw [hd]; assumption
    · refine .inl ⟨[.int 1, .int 2, .int 3], .inr rfl, by decide, fun d hd => ?_⟩
      simp only [List.mem_cons, List.not_mem_nil, or_false] at hd
      rcases hd with rfl | rfl | rfl <;> assumption
    · refine .inl ⟨[.bl true, .int 2], .inr rfl, by decide, fun d hd => ?_⟩
      simp only [List.mem_cons, List.not_mem_nil, or_false] at hd
      rcases hd with rfl | rfl
      · exact .inr (by unfold wr; simp)
      · assumption
    · refine .inl ⟨[.int 1, .bl true], .inr rfl, by decide, fun d hd => ?_⟩
      simp only [List.mem_cons, List.not_mem_nil, or_false] at hd
      rcases hd with rfl | rfl
      · assumption
      · exact .inr (by unfold wr; simp)
    · refine .inl ⟨[.int 1, .int 2], .inl rfl, by decide, fun d hd => ?_⟩
      simp only [List.mem_cons, List.not_mem_nil, or_false] at hd
      rcases hd with rfl | rfl <;> assumption
    · exact .inl ⟨[], .inr rfl, by decide, fun d hd => by cases hd⟩
    · refine .inl ⟨[.tup [.int 1, .int 1], .int 2], .inr rfl, by decide, fun d hd => ?_⟩
      simp only [List.mem_cons, List.not_mem_nil, or_false] at hd
      rcases hd with rfl | rfl
      · exact .inl ⟨1, 1, .inr ⟨rfl, by decide⟩, by decide, by decide⟩
      · assumption
/-- the texts among the values -/
theorem str_cases {l : VI.D} (h : An l) : (∃ z r, l = .str (xS z) ∧ z.length ≤ 10 ∧ okS z ∧ Reads z (some r)) ∨ (isTDD [.str] l = some (.bl false)) := by
  have t3 : TX 3 = [51] := by decide +kernel
  have t12 : TX (Rat.divInt 1 2) = [49, 47, 50] := by decide +kernel
  rcases h with ⟨a, b, h, h1, h2⟩ | h
  · rcases h with ⟨rfl, rfl⟩ | ⟨rfl, hb⟩
    · exact .inr rfl
    · exact .inr rfl
  · unfold wr at h
    simp only [List.mem_cons, List.not_mem_nil, or_false] at h
    rcases h with rfl | rfl | rfl | rfl | rfl | rfl | rfl | rfl | rfl | rfl | rfl | rfl | rfl | rfl
    · exact .inr rfl
    · exact .inr rfl
    · exact .inr rfl
    · have e : Str.ofString "3" = xS [51] := by decide +kernel
      rw [e]
      have := reads_TX (r := 3) ⟨by decide, by decide⟩
      rw [t3] at this
      exact .inl ⟨_, _, rfl, by decide, by unfold okS; decide, this⟩
    · have e : Str.ofString "1/2" = xS [49, 47, 50] := by decide +kernel
      rw [e]
      have := reads_TX (r := Rat.divInt 1 2) ⟨by decide +kernel, by decide +kernel⟩
      rw [t12] at this
      exact .inl ⟨_, _, rfl, by decide, by unfold okS; decide, this⟩
    all_goals exact .inr rfl
def dueS : Option String → VI.D
  | none => .str (Str.ofString "")
  | some w => .str (Str.ofString w)
/-- one function's case: what the call comes to, what the law says -/
structure Case (n : Nat) (t : Nat) (l r : VI.D) (o : Option String) : Prop where
  call : Ans 3 (CD (n + 6) i__law_call [.v (.int t), .v l, .v r]) o
  due : CD (n + 7) i__law_due [.v (.int t), .v l, .v r] = thr (dueS o)
  word : ∀ w, o = some w → w ∈ words
def pairO (l r : VI.D) : Option String := if isN l = false then some "one" else if isN r = false then some "other" else none
theorem pair_word {l r : VI.D} : ∀ w, pairO l r = some w → w ∈ words := fun w h => by
  unfold pairO at h
  split at h
  · cases h; decide
  · split at h
    · cases h; decide
    · cases h
theorem due_pair (n : Nat) {l r : VI.D} (hl : An l) (hr : An r) (t : Nat) (ht : t ≤ 6) (h3 : t ≠ 3) : CD (n + 7) i__law_due [.v (.int t), .v l, .v r] = thr (dueS (pairO l r)) := by
  have e1 := law_is_ok (n + 4) hl
  have e2 := law_is_ok (n + 4) hr
  have c1 : (t : Int) ≤ 6 := by omega
  have c2 : ¬ (t : Int) = 3 := by omega
  unfold pairO
  refine call_eq (d := d__law_due) rfl rfl ?_
  cases h1 : isN l with
  | false =>
    rw [h1] at e1
    simp [d__law_due, b__law_due, c1, e1, one, dueS]
  | true =>
    rw [h1] at e1
    cases h2 : isN r with
    | false =>
      rw [h2] at e2
      simp [d__law_due, b__law_due, c1, e1, e2, one, dueS]
    | true =>
      rw [h2] at e2
      simp [d__law_due, b__law_due, c1, c2, e1, e2, one, dueS]
theorem case_pair (n : Nat) {l r : VI.D} (hl : An l) (hr : An r) (t : Nat) (ht : t = 0 ∨ t = 1 ∨ t = 2 ∨ t = 4 ∨ t = 5 ∨ t = 6) : Case n t l r (pairO l r) := by
  refine ⟨?_, due_pair n hl hr t (by omega) (by omega), pair_word⟩
  rcases ht with rfl | rfl | rfl | rfl | rfl | rfl
  · have := plus_ans (n + 2) hl hr
    rw [step (d := d__law_call) rfl rfl]
    rcases ans_lift2 this with ⟨d, e, hd, ho⟩ | ⟨w, e, ho⟩
    · rw [show pairO l r = none from ho]
      simp [d__law_call, b__law_call, e, two]
      exact ans3_fine hd
    · rw [show pairO l r = some w from ho]
      simp [d__law_call, b__law_call, e]
      exact ans3_bad w
  · have := minus_ans (n + 2) hl hr
    rw [step (d := d__law_call) rfl rfl]
    rcases ans_lift2 this with ⟨d, e, hd, ho⟩ | ⟨w, e, ho⟩
    · rw [show pairO l r = none from ho]
      simp [d__law_call, b__law_call, e, two]
      exact ans3_fine hd
    · rw [show pairO l r = some w from ho]
      simp [d__law_call, b__law_call, e]
      exact ans3_bad w
  · have := times_ans (n + 2) hl hr
    rw [step (d := d__law_call) rfl rfl]
    rcases ans_lift2 this with ⟨d, e, hd, ho⟩ | ⟨w, e, ho⟩
    · rw [show pairO l r = none from ho]
      simp [d__law_call, b__law_call, e, two]
      exact ans3_fine hd
    · rw [show pairO l r = some w from ho]
      simp [d__law_call, b__law_call, e]
      exact ans3_bad w
  · have := compare_ans (n + 2) hl hr
    rw [step (d := d__law_call) rfl rfl]
    rcases ans_lift2 this with ⟨d, e, hd, ho⟩ | ⟨w, e, ho⟩
    · rw [show pairO l r = none from ho]
      simp [d__law_call, b__law_call, e, two]
      exact ans3_fine hd
    · rw [show pairO l r = some w from ho]
      simp [d__law_call, b__law_call, e]
      exact ans3_bad w
  · have := lesser_ans (n + 1) hl hr
    rw [step (d := d__law_call) rfl rfl]
    rcases ans_lift2 this with ⟨d, e, hd, ho⟩ | ⟨w, e, ho⟩
    · rw [show pairO l r = none from ho]
      simp [d__law_call, b__law_call, e, two]
      exact ans3_fine hd
    · rw [show pairO l r = some w from ho]
      simp [d__law_call, b__law_call, e]
      exact ans3_bad w
  · have := greater_ans (n + 1) hl hr
    rw [step (d := d__law_call) rfl rfl]
    rcases ans_lift2 this with ⟨d, e, hd, ho⟩ | ⟨w, e, ho⟩
    · rw [show pairO l r = none from ho]
      simp [d__law_call, b__law_call, e, two]
      exact ans3_fine hd
    · rw [show pairO l r = some w from ho]
      simp [d__law_call, b__law_call, e]
      exact ans3_bad w
end K01
set_option maxHeartbeats 4000000
namespace K01
open PySem L2 VI
def divO (l r : VI.D) : Option String := if isN l = false then some "one" else if isN r = false then some "other" else if zeroD r = true then some "other" else none
theorem case3 (n : Nat) {l r : VI.D} (hl : An l) (hr : An r) : Case n 3 l r (divO l r) := by
  refine ⟨?_, ?_, fun w h => ?_⟩
  · have := divided_ans (n + 2) hl hr
    rw [step (d := d__law_call) rfl rfl]
    rcases ans_lift2 this with ⟨d, e, hd, ho⟩ | ⟨w, e, ho⟩
    · rw [show divO l r = none from ho]
      simp [d__law_call, b__law_call, e, two]
      exact ans3_fine hd
    · rw [show divO l r = some w from ho]
      simp [d__law_call, b__law_call, e]
      exact ans3_bad w
  · have e1 := law_is_ok (n + 4) hl
    have e2 := law_is_ok (n + 4) hr
    unfold divO
    refine call_eq (d := d__law_due) rfl rfl ?_
    cases h1 : isN l with
    | false =>
      rw [h1] at e1
      simp [d__law_due, b__law_due, e1, one, dueS]
    | true =>
      rw [h1] at e1
      cases h2 : isN r with
      | false =>
        rw [h2] at e2
        simp [d__law_due, b__law_due, e1, e2, one, dueS]
      | true =>
        rw [h2] at e2
        obtain ⟨c, d, h3, hc, hd⟩ := hr.nm h2
        have hz : zeroD r = decide (c = 0) := by rcases h3 with ⟨rfl, _⟩ | ⟨rfl, _⟩ <;> rfl
        have hv := value_ok (n + 4) (x := r) (r := Rat.divInt c d) (s := 133) ⟨c, d, h3, rfl, hc, hd⟩ (by decide)
        have hn : (Rat.divInt c d).num = 0 ↔ c = 0 := by
          rw [low_num h3.pos]
          have hg := gcd_pos' (a := c) h3.pos
          constructor
          · intro z
            have hdv : ((Nat.gcd c.natAbs d.natAbs : Nat) : Int) ∣ c := Int.gcd_dvd_left ..
            have := Int.ediv_mul_cancel hdv
            rw [z, Int.zero_mul] at this
            exact this.symm
          · rintro rfl; exact Int.zero_ediv _
        rw [hz]
        generalize Rat.divInt c d = q at *
        unfold prR at hv
        by_cases c0 : c = 0
        · have hq := hn.mpr c0
          rw [hq] at hv
          simp [d__law_due, b__law_due, e1, e2, one, dueS, hv, c0]
        · have hq : ¬ q.num = 0 := fun z => c0 (hn.mp z)
          simp [d__law_due, b__law_due, e1, e2, one, dueS, hv, c0, hq]
  · unfold divO at h
    split at h
    · cases h; decide
    · split at h
      · cases h; decide
      · split at h
        · cases h; decide
        · cases h
theorem nm_word {l : VI.D} : ∀ w, nmAns l = some w → w ∈ words := fun w h => by
  unfold nmAns at h
  split at h
  · cases h; decide
  · cases h
theorem due_nm (n : Nat) {l r : VI.D} (hl : An l) (t : Nat) (ht : t = 7 ∨ t = 8 ∨ t = 9 ∨ t = 10) : CD (n + 7) i__law_due [.v (.int t), .v l, .v r] = thr (dueS (nmAns l)) := by
  have e1 := law_is_ok (n + 4) hl
  unfold nmAns
  refine call_eq (d := d__law_due) rfl rfl ?_
  cases h1 : isN l with
  | false =>
    rw [h1] at e1
    rcases ht with rfl | rfl | rfl | rfl <;> simp [d__law_due, b__law_due, e1, one, dueS]
  | true =>
    rw [h1] at e1
    rcases ht with rfl | rfl | rfl | rfl <;> simp [d__law_due, b__law_due, e1, one, dueS]
theorem case_nm (n : Nat) {l r : VI.D} (hl : An l) (t : Nat) (ht : t = 7 ∨ t = 8 ∨ t = 9 ∨ t = 10) : Case n t l r (nmAns l) := by
  refine ⟨?_, due_nm n hl t ht, nm_word⟩
  rcases ht with rfl | rfl | rfl | rfl
  · have := ratio_ans (n + 1) hl
    rw [step (d := d__law_call) rfl rfl]
    rcases ans_lift1 this with ⟨d, e, hd, ho⟩ | ⟨w, e, ho⟩
    · rw [ho]
      simp [d__law_call, b__law_call, e, one]
      exact ans3_fine hd
    · rw [ho]
      simp [d__law_call, b__law_call, e]
      exact ans3_bad w
  · have := up_ans (n + 2) hl
    rw [step (d := d__law_call) rfl rfl]
    rcases ans_lift1 this with ⟨d, e, hd, ho⟩ | ⟨w, e, ho⟩
    · rw [ho]
      simp [d__law_call, b__law_call, e, one]
      exact ans3_fine hd
    · rw [ho]
      simp [d__law_call, b__law_call, e]
      exact ans3_bad w
  · have := down_ans (n + 2) hl
    rw [step (d := d__law_call) rfl rfl]
    rcases ans_lift1 this with ⟨d, e, hd, ho⟩ | ⟨w, e, ho⟩
    · rw [ho]
      simp [d__law_call, b__law_call, e, one]
      exact ans3_fine hd
    · rw [ho]
      simp [d__law_call, b__law_call, e]
      exact ans3_bad w
  · have := text_ans (n + 1) hl
    rw [step (d := d__law_call) rfl rfl]
    rcases ans_lift1 this with ⟨d, e, hd, ho⟩ | ⟨w, e, ho⟩
    · rw [ho]
      simp [d__law_call, b__law_call, e, one]
      exact ans3_fine hd
    · rw [ho]
      simp [d__law_call, b__law_call, e]
      exact ans3_bad w
def ofO (l r : VI.D) : Option String := if isI l = false then some "top" else if isI r = false then some "bottom" else if is0 r = true then some "bottom" else none
theorem case11 (n : Nat) {l r : VI.D} (hl : An l) (hr : An r) : Case n 11 l r (ofO l r) := by
  refine ⟨?_, ?_, fun w h => ?_⟩
  · have := of_ans (n + 3) hl hr
    rw [step (d := d__law_call) rfl rfl]
    rcases ans_lift2 this with ⟨d, e, hd, ho⟩ | ⟨w, e, ho⟩
    · rw [show ofO l r = none from ho]
      simp [d__law_call, b__law_call, e, two]
      exact ans3_fine hd
    · rw [show ofO l r = some w from ho]
      simp [d__law_call, b__law_call, e]
      exact ans3_bad w
  · have e1 := hl.lwhole (n + 5)
    have e2 := hr.lwhole (n + 5)
    unfold ofO
    refine call_eq (d := d__law_due) rfl rfl ?_
    cases h1 : isI l with
    | false =>
      rw [h1] at e1
      simp [d__law_due, b__law_due, e1, one, dueS]
    | true =>
      rw [h1] at e1
      cases h2 : isI r with
      | false =>
        rw [h2] at e2
        simp [d__law_due, b__law_due, e1, e2, one, dueS]
      | true =>
        rw [h2] at e2
        obtain ⟨b, rfl, hb⟩ := hr.int h2
        show WS _ (outP _ _ (· = .ret (.v (dueS (if decide (b = 0) = true then some "bottom" else none))) [.no, .no, .no]))
        by_cases c : b = 0
        · subst c
          simp [d__law_due, b__law_due, e1, e2, one, dueS]
        · simp [d__law_due, b__law_due, e1, e2, one, dueS, c]
  · unfold ofO at h
    split at h
    · cases h; decide
    · split at h
      · cases h; decide
      · split at h
        · cases h; decide
        · cases h
theorem nums_word {ds : List VI.D} : ∀ w, numsAns ds = some w → w ∈ words := fun w h => by
  unfold numsAns at h
  split at h
  · cases h
  · cases h; decide
theorem case12 (n : Nat) {l r : VI.D} (hl : An l) (hr : An r) : Case n 12 l r (numsAns [l, r, l]) := by
  refine ⟨?_, ?_, nums_word⟩
  · have := sum_ans (n + 2) (x := .lst [l, r, l]) (ds := [l, r, l]) (.inl rfl) (by simp) (fun d hd => by
      simp only [List.mem_cons, List.not_mem_nil, or_false] at hd
      rcases hd with rfl | rfl | rfl <;> assumption)
    rw [step (d := d__law_call) rfl rfl]
    rcases ans_lift1 this with ⟨d, e, hd, ho⟩ | ⟨w, e, ho⟩
    · rw [ho]
      simp [d__law_call, b__law_call, e, one]
      exact ans3_fine hd
    · rw [ho]
      simp [d__law_call, b__law_call, e]
      exact ans3_bad w
  · have e1 := law_is_ok (n + 4) hl
    have e2 := law_is_ok (n + 4) hr
    have ha : [l, r, l].all isN = (isN l && isN r) := by
      simp only [List.all_cons, List.all_nil, Bool.and_true]
      cases isN l <;> cases isN r <;> rfl
    unfold numsAns
    rw [ha]
    refine call_eq (d := d__law_due) rfl rfl ?_
    cases h1 : isN l with
    | false =>
      rw [h1] at e1
      simp [d__law_due, b__law_due, e1, one, dueS]
    | true =>
      rw [h1] at e1
      cases h2 : isN r with
      | false =>
        rw [h2] at e2
        simp [d__law_due, b__law_due, e1, e2, one, dueS]
      | true =>
        rw [h2] at e2
        simp [d__law_due, b__law_due, e1, e2, one, dueS]
def EI (l r : VI.D) (ds : List VI.D) (k : Nat) (ρ : VI.Env) : Prop := (∀ d ∈ ds.take k, isN d = true) ∧ ∃ s3, ρ = [.v (.int 13), .v l, .v r, s3]
theorem case13 (n : Nat) {l r : VI.D} (hr : An r) : ∃ o, Case n 13 l r o ∧ (r = .non → o ≠ none) := by
  rcases seq_cases hr with ⟨ds, hds, hlen, hall⟩ | ⟨t1, t2, t3⟩
  · refine ⟨numsAns ds, ⟨?_, ?_, nums_word⟩, fun z => by subst z; rcases hds with h | h <;> cases h⟩
    · have := sum_ans (n + 2) (x := r) (ds := ds) hds hlen hall
      rw [step (d := d__law_call) rfl rfl]
      rcases ans_lift1 this with ⟨d, e, hd, ho⟩ | ⟨w, e, ho⟩
      · rw [ho]
        simp [d__law_call, b__law_call, e, one]
        exact ans3_fine hd
      · rw [ho]
        simp [d__law_call, b__law_call, e]
        exact ans3_bad w
    · have hw : walkD r = some ds := by rcases hds with rfl | rfl <;> rfl
      have hts : (isTDD [.list] r = some (.bl true)) ∨ (isTDD [.list] r = some (.bl false) ∧ isTDD [.tuple] r = some (.bl true)) := by rcases hds with rfl | rfl <;> simp [isTy]
      refine call_eq (d := d__law_due) rfl rfl ?_
      show WS (evS (callD defs FU (n + 6)) FU b__law_due _) _
      unfold b__law_due
      have go : WS (thenS (loopS (kBody (callD defs FU (n + 6)) FU (.n 3) (.seq (.ite (.not (.call i__law_is (.cons (.var 3) .nil))) (.seq (.ret (.cst (.str "numbers"))) .nil) .nil) .nil)) ds [.v (.int 13), .v l, .v r, .no]) (evS (callD defs FU (n + 6)) FU (.seq (.ite (.and (.eqq false (.var 0) (.cst (.int 14))) (.or (.not (.isT (.var 1) [.str])) (.isN false (.call i__law_reads (.cons (.var 1) .nil))))) (.seq (.ret (.cst (.str "text"))) .nil) .nil) (.seq (.ret (.cst (.str ""))) .nil)))) (outP [] 3 fun x => x = .ret (.v (dueS (numsAns ds))) [.no, .no, .no]) := by
        refine ws_loop (EI l r ds) ⟨by simp, .no, rfl⟩ ?_ ?_
        · rintro k d ρ hk ⟨hI, s3, rfl⟩
          have hm : d ∈ ds := List.mem_of_getElem? hk
          have e1 := law_is_ok (n + 4) (hall d hm)
          cases hn : isN d with
          | false =>
            rw [hn] at e1
            have hf : ds.all isN = false := by
              rw [Bool.eq_false_iff]
              intro z
              have := List.all_eq_true.mp z d hm
              rw [hn] at this
              cases this
            rw [nums_f hf]
            simp [e1, one, dueS]
          | true =>
            rw [hn] at e1
            have hI' : ∀ d ∈ ds.take (k + 1), isN d = true := fun c hc => by
              rw [List.take_succ, hk] at hc
              rcases List.mem_append.mp hc with hc | hc
              · exact hI c hc
              · simp at hc; rw [hc]; exact hn
            simp [e1, one]
            exact ⟨hI', _, rfl⟩
        · rintro ρ ⟨hI, s3, rfl⟩
          rw [List.take_length] at hI
          rw [nums_t (List.all_eq_true.mpr hI)]
          simp [dueS]
      rcases hts with h1 | ⟨h1, h2⟩
      · simp [d__law_due, h1, hw]
        exact go
      · simp [d__law_due, h1, h2, hw]
        exact go
  · refine ⟨some "numbers", ⟨?_, ?_, fun w h => by cases h; decide⟩, fun _ h => by cases h⟩
    · rw [step (d := d__law_call) rfl rfl]
      have e : CD (n + 5) i_sum_of [.v r] = some (.ex c_BadNumber [("word", .str (Str.ofString "numbers"))] [.no]) := by
        rw [step (d := d_sum_of) rfl rfl]
        simp [d_sum_of, b_sum_of, t1]
      simp [d__law_call, b__law_call, e]
      exact ans3_bad _
    · refine call_eq (d := d__law_due) rfl rfl ?_
      simp [d__law_due, b__law_due, t2, t3, dueS]
theorem case14 (n : Nat) {l r : VI.D} (hl : An l) : ∃ o, Case n 14 l r o ∧ (l = .non → o ≠ none) := by
  rcases str_cases hl with ⟨z, q, rfl, hz, hzo, hR⟩ | ht
  · have e1 := ratio_from_ok (n + 3) hR (by omega) hzo
    have e2 := law_reads_ok (n + 4) hR (by omega) hzo
    refine ⟨none, ⟨?_, ?_, fun w h => by cases h⟩, fun h => by cases h⟩
    · rw [step (d := d__law_call) rfl rfl]
      generalize xS z = Z at *
      simp [d__law_call, b__law_call, e1, resR]
      exact ans3_fine rfl
    · refine call_eq (d := d__law_due) rfl rfl ?_
      generalize xS z = Z at *
      have hn : isNon (prR q) = false := rfl
      simp [d__law_due, b__law_due, isTy, e2, one, oR, hn, dueS]
  · refine ⟨some "text", ⟨?_, ?_, fun w h => by cases h; decide⟩, fun _ h => by cases h⟩
    · rw [step (d := d__law_call) rfl rfl]
      have e : CD (n + 5) i_ratio_from [.v l] = some (.ex c_BadNumber [("word", .str (Str.ofString "text"))] [.no]) := by
        rw [step (d := d_ratio_from) rfl rfl]
        simp [d_ratio_from, b_ratio_from, ht]
      simp [d__law_call, b__law_call, e]
      exact ans3_bad _
    · refine call_eq (d := d__law_due) rfl rfl ?_
      simp [d__law_due, b__law_due, ht, dueS]
theorem case_any (n : Nat) {l r : VI.D} (hl : An l) (hr : An r) (t : Nat) (ht : t < 15) : ∃ o, Case n t l r o ∧ (l = .non → r = .non → o ≠ none) := by
  have : (t = 0 ∨ t = 1 ∨ t = 2 ∨ t = 4 ∨ t = 5 ∨ t = 6) ∨ t = 3 ∨ (t = 7 ∨ t = 8 ∨ t = 9 ∨ t = 10) ∨ t = 11 ∨ t = 12 ∨ t = 13 ∨ t = 14 := by omega
  rcases this with h | rfl | h | rfl | rfl | rfl | rfl
  · exact ⟨_, case_pair n hl hr t h, fun a _ => by subst a; intro z; cases z⟩
  · exact ⟨_, case3 n hl hr, fun a _ => by subst a; intro z; cases z⟩
  · exact ⟨_, case_nm n hl t h, fun a _ => by subst a; intro z; cases z⟩
  · exact ⟨_, case11 n hl hr, fun a _ => by subst a; intro z; cases z⟩
  · exact ⟨_, case12 n hl hr, fun a _ => by subst a; intro z; cases z⟩
  · obtain ⟨o, h1, h2⟩ := case13 n (l := l) hr
    exact ⟨o, h1, fun _ z => h2 z⟩
  · obtain ⟨o, h1, h2⟩ := case14 n (r := r) hl
    exact ⟨o, h1, fun z _ => h2 z⟩
end K01
set_option maxHeartbeats 4000000
namespace K01
open PySem L2 VI
/-! _law_asked, _law_read_back, the law -/
theorem any_ok (n : Nat) (xs : List Int) : ∃ xs' d, An d ∧ CD (n + 4) i__law_any [Dr xs] = some (.ret (.v d) [Dr xs']) := by
  obtain ⟨x1, w, hw, e1⟩ := take_cell (n + 2) xs (m := 2) (by decide)
  have e1' : CD (n + 3) i__law_take [Dr xs, .v (.int 2)] = some (.ret (.v (.int (w : Int))) [Dr x1, .no]) := e1
  have k := cat_ok (a := [.bl true, .bl false, .non, .str (Str.ofString "3"), .str (Str.ofString "1/2"), .tup [.int 1, .int 0], .tup [.int 2, .int (-3)], .tup [.int 1], .tup [.int 1, .int 2, .int 3], .tup [.bl true, .int 2], .tup [.int 1, .bl true]]) (b := [.lst [.int 1, .int 2], .tup [], .tup [.tup [.int 1, .int 1], .int 2]]) (by decide)
  have hwr : ([.bl true, .bl false, .non, .str (Str.ofString "3"), .str (Str.ofString "1/2"), .tup [.int 1, .int 0], .tup [.int 2, .int (-3)], .tup [.int 1], .tup [.int 1, .int 2, .int 3], .tup [.bl true, .int 2], .tup [.int 1, .bl true]] ++ [.lst [.int 1, .int 2], .tup [], .tup [.tup [.int 1, .int 1], .int 2]] : List VI.D) = wr := rfl
  rw [hwr] at k
  by_cases c : w = 1
  · have c' : (w : Int) = 1 := by omega
    obtain ⟨x2, v, hv, e2⟩ := take_cell (n + 2) x1 (m := 14) (by decide)
    have e2' : CD (n + 3) i__law_take [Dr x1, .v (.int 14)] = some (.ret (.v (.int (v : Int))) [Dr x2, .no]) := e2
    have hvl : v < wr.length := hv
    have hat : atI wr (v : Int) = some wr[v] := atI_at hvl
    have hm : wr[v] ∈ wr := List.getElem_mem hvl
    refine ⟨x2, wr[v], .inr hm, ?_⟩
    refine call_eq (d := d__law_any) rfl rfl ?_
    generalize wr[v] = d at *
    generalize wr = W at *
    simp [d__law_any, b__law_any, k, e1', c', e2', hat]
  · have c' : ¬ (w : Int) = 1 := by omega
    obtain ⟨x2, d, a, b, hr, ha, hb, e2⟩ := given_ok n x1
    refine ⟨x2, d, .inl ⟨a, b, hr, Nat.lt_trans ha ten40, Nat.lt_trans hb ten40⟩, ?_⟩
    refine call_eq (d := d__law_any) rfl rfl ?_
    generalize wr = W at *
    simp [d__law_any, b__law_any, k, e1', c', e2]
theorem told_of {o : Option String} (h : ∀ w, o = some w → w ∈ words) : ∃ p, Ot o p := by
  cases o with
  | none => exact ⟨none, .fine⟩
  | some w =>
    obtain ⟨l, hl⟩ := wd_of (h w rfl)
    exact ⟨some l, .bad hl⟩
theorem asked_ok (n : Nat) (xs : List Int) : ∃ xs', CD (n + 8) i__law_asked [Dr xs] = some (.ret (.v (.bl true)) [Dr xs']) := by
  obtain ⟨x1, t, ht, e1⟩ := take_cell (n + 6) xs (m := 15) (by decide)
  have e1' : CD (n + 7) i__law_take [Dr xs, .v (.int 15)] = some (.ret (.v (.int (t : Int))) [Dr x1, .no]) := e1
  obtain ⟨x2, l, hl, e2⟩ := any_ok (n + 3) x1
  obtain ⟨x3, r, hr, e3⟩ := any_ok (n + 3) x2
  obtain ⟨o, hc, _⟩ := case_any n hl hr t ht
  obtain ⟨p, hp⟩ := told_of hc.word
  have e4 : CD (n + 7) i__law_refused [.v (.int t), .v l, .v r] = thr (toldD p) := refused_ok (n + 5) t l r hc.call hp
  have e5 := hc.due
  refine ⟨x3, ?_⟩
  refine call_eq (d := d__law_asked) rfl rfl ?_
  show WS (evS (callD defs FU (n + 7)) FU b__law_asked _) _
  unfold b__law_asked
  rw [c_empty, c_fine, c_bad]
  cases hp with
  | fine =>
    have q1 := eqq_S false (a := []) (b := []) (fun c hc => by cases hc) (fun c hc => by cases hc)
    have ef := eq_ff
    unfold fineD at ef
    unfold dueS at e5
    unfold toldD fineD at e4
    rw [c_empty] at e5
    simp [d__law_asked, e1', e2, e3, e4, e5, thr, q1, ef]
  | @bad wd ll hw =>
    have q1 := eqq_S false (a := ll) (b := []) hw.ok (fun c hc => by cases hc)
    rw [decide_eq_false hw.ne] at q1
    have eb := eq_bb false hw.ok
    unfold badD at eb
    have e5' : CD (n + 7) i__law_due [.v (.int t), .v l, .v r] = thr (.str (xS ll)) := by rw [← hw.e]; exact e5
    unfold toldD badD at e4
    have e4' : CD (n + 7) i__law_refused [.v (.int t), .v l, .v r] = thr (.tup [.str (xS [98, 97, 100]), .str (xS ll), .bl true]) := e4
    generalize hX : xS ll = X at *
    simp [d__law_asked, e1', e2, e3, e4', e5', thr, q1, eb]
theorem bad_call (n : Nat) {l : List Nat} (h : Reads l none) (hl : l.length ≤ 1000) (ho : okS l) (r : VI.D) : Ans 3 (CD (n + 3) i__law_call [.v (.int 14), .v (.str (xS l)), .v r]) (some "text") := by
  have e1 := ratio_from_ok n h hl ho
  rw [step (d := d__law_call) rfl rfl]
  generalize xS l = Z at *
  simp [d__law_call, b__law_call, e1, resR]
  exact ans3_bad "text"
theorem read_back_ok (n : Nat) {l : List Nat} (hl : Tx 600 l) : CD (n + 6) i__law_read_back [.v (.str (xS l))] = one (.bl true) := by
  obtain ⟨o, h⟩ := reads_any l
  have hll : l.length ≤ 1000 := Nat.le_trans hl.len (by decide)
  have e1 := law_reads_ok (n + 3) h hll hl.ok
  refine call_eq (d := d__law_read_back) rfl rfl ?_
  show WS (evS (callD defs FU (n + 5)) FU b__law_read_back _) _
  unfold b__law_read_back
  cases o with
  | none =>
    obtain ⟨t, ht⟩ := wd_of (w := "text") (by decide)
    have e2 : CD (n + 5) i__law_refused [.v (.int (14 : Nat)), .v (.str (xS l)), .v (.int 0)] = thr (toldD (some t)) := refused_ok (n + 3) 14 _ _ (bad_call (n + 1) h hll hl.ok (.int 0)) (.bad ht)
    have e2' : CD (n + 5) i__law_refused [.v (.int 14), .v (.str (xS l)), .v (.int 0)] = thr (badD t) := e2
    have eb := eq_bb false ht.ok
    have hte := ht.e
    rw [c_bad, hte]
    unfold badD at eb e2'
    generalize hX : xS t = X at *
    generalize xS l = Z at *
    simp [d__law_read_back, e1, oR, one, e2', thr, eb]
  | some r =>
    have hT := h.ten
    have hbd := hT.bd
    have e2 := ratio_from_ok (n + 3) h hll hl.ok
    have n1 := number_ok (n + 3) hbd (by decide)
    have q1 := eqq_pr true r r
    have q2 := eqq_pr false r r
    have e3 := ratio_text_ok (n + 1) (prR_raw r) (Nat.lt_trans hbd.n (by decide)) (Nat.lt_trans hbd.d (by decide))
    rw [Rat.num_divInt_den] at e3
    have e4 := text_of (n + 4) (prR_raw r) (Nat.lt_trans hbd.n (by decide)) (Nat.lt_trans hbd.d (by decide))
    have e4' : CD (n + 5) i__law_text [.v (prR r)] = one (.str (xS (TX r))) := e4
    have q3 := eqq_S true (a := TX r) (b := TX r) (TXp_okS _ _) (TXp_okS _ _)
    have e5 := ratio_from_ok (n + 3) (reads_TX hT) (Nat.le_trans (TXp_len (Nat.lt_trans hbd.n (by decide)) (Nat.lt_trans hbd.d (by decide))) (by decide)) (TXp_okS _ _)
    have hn : isNon (prR r) = false := rfl
    generalize xS (TX r) = T at *
    generalize xS l = Z at *
    simp [d__law_read_back, e1, oR, one, hn, e2, resR, n1, q1, e3, isTy, e4', q3, e5, q2]
def LW (ns : List Int) (ρ : VI.Env) : Prop := ∃ (xs : List Int) (s2 s3 s4 s5 s6 : VI.Slot), ρ = [.v (.scr (iL ns)), Dr xs, s2, s3, s4, s5, s6]
theorem law_true (ns : List Int) (hl : ns.length ≤ 63) : callD defs 1000 14 40 [.v (.scr (ns.map D.int))] = some (.ret (.v (.bl true)) [.no]) := by
  show CD 14 i_law [.v (.scr (iL ns))] = some (.ret (.v (.bl true)) [.no])
  obtain ⟨xs, ed⟩ := draws_ok 12 ns hl
  refine call_eq (d := d_law) rfl rfl ?_
  show WS (evS (CD 13) FU b_law _) _
  unfold b_law
  rw [c_bad]
  refine ws_mid (fun ρ => ρ = [.v (.scr (iL ns)), Dr xs, .no, .no, .no, .no, .no]) (by simp [d_law, ed]; simp [Dr]) ?_
  rintro _ rfl
  refine ws_mid (LW ns) ?_ ?_
  · simp [rng_lit 4 4 rfl (by decide)]
    refine ws_loopE (fun _ => LW ns) ⟨xs, .no, .no, .no, .no, .no, rfl⟩ ?_ (fun ρ h => h)
    rintro j dd ρ hd ⟨xs, s2, s3, s4, s5, s6, rfl⟩
    obtain ⟨x1, d, a, b, hr, ha, hb, e1⟩ := given_ok 10 xs
    have hT := ten_of hr.pos ha hb
    have hbd := hT.bd
    have hsz : Sz d (Rat.divInt a b) 133 := ⟨a, b, hr, rfl, Nat.lt_trans ha ten40, Nat.lt_trans hb ten40⟩
    have e2 := value_ok 11 hsz (by decide)
    have e3 := ratio_text_ok 9 hr (p40 ha) (p40 hb)
    generalize Rat.divInt a b = r at *
    have e4 : CD 13 i__law_text [.v (prR r)] = one (.str (xS (TX r))) := text_of 12 (prR_raw r) (Nat.lt_trans hbd.n (by decide)) (Nat.lt_trans hbd.d (by decide))
    have q3 := eqq_S true (a := TX r) (b := TX r) (TXp_okS _ _) (TXp_okS _ _)
    have e5 := ratio_from_ok 11 (reads_TX hT) (Nat.le_trans (TXp_len (Nat.lt_trans hbd.n (by decide)) (Nat.lt_trans hbd.d (by decide))) (by decide)) (TXp_okS _ _)
    have q1 := eqq_pr true r r
    generalize xS (TX r) = T at *
    simp [e1, e2, e3, e4, q3, e5, resR, q1, one, isTy]
    exact ⟨x1, _, _, _, _, _, rfl⟩
  rintro _ ⟨x2, s2, s3, s4, s5, s6, rfl⟩
  refine ws_mid (LW ns) ?_ ?_
  · simp [rng_lit 10 10 rfl (by decide)]
    refine ws_loopE (fun _ => LW ns) ⟨x2, s2, s3, s4, s5, s6, rfl⟩ ?_ (fun ρ h => h)
    rintro j dd ρ hd ⟨xs, s2, s3, s4, s5, s6, rfl⟩
    obtain ⟨x1, l, hlx, e1⟩ := drawn_ok 9 xs
    have e2 := read_back_ok 7 hlx
    obtain ⟨x3, e3⟩ := asked_ok 5 x1
    generalize xS l = Z at *
    simp [e1, e2, e3, one]
    exact ⟨x3, _, _, _, _, _, rfl⟩
  rintro _ ⟨x3, s2, s3, s4, s5, s6, rfl⟩
  refine ws_mid (LW ns) ?_ ?_
  · simp [rng_lit 15 15 rfl (by decide)]
    refine ws_loopE (fun _ => LW ns) ⟨x3, s2, s3, s4, s5, s6, rfl⟩ ?_ (fun ρ h => h)
    rintro j dd ρ hd ⟨xs, s2, s3, s4, s5, s6, rfl⟩
    have hj : j < 15 := by have := (List.getElem?_eq_some_iff.mp hd).1; simpa using this
    simp [List.getElem?_range hj] at hd
    subst hd
    have hn : An .non := .inr (by unfold wr; simp)
    obtain ⟨o, hc, ho⟩ := case_any 6 hn hn j hj
    obtain ⟨p, hp⟩ := told_of hc.word
    have e4 : CD 13 i__law_refused [.v (.int j), .v .non, .v .non] = thr (toldD p) := refused_ok 11 j .non .non hc.call hp
    have e5 : CD 13 i__law_due [.v (.int j), .v .non, .v .non] = thr (dueS o) := hc.due
    cases hp with
    | fine => exact absurd rfl (ho rfl rfl)
    | @bad wd ll hw =>
      have eb := eq_bb true hw.ok
      unfold badD at eb
      have e5' : CD 13 i__law_due [.v (.int j), .v .non, .v .non] = thr (.str (xS ll)) := by rw [← hw.e]; exact e5
      unfold toldD badD at e4
      have e4' : CD 13 i__law_refused [.v (.int j), .v .non, .v .non] = thr (.tup [.str (xS [98, 97, 100]), .str (xS ll), .bl true]) := e4
      generalize hX : xS ll = X at *
      simp [e4', e5', thr, eb]
      exact ⟨xs, _, _, _, _, _, rfl⟩
  rintro _ ⟨x4, s2, s3, s4, s5, s6, rfl⟩
  simp [d_law]
end K01
set_option maxHeartbeats 4000000
namespace K01
open PySem L2 VI
/-! ### the program is the text (printed by gen4.py) -/
def inCls : Stmt → Nat → Stmt
  | .ClassDef _ _ _ b _ _ _ _ _ _ _, j => b.getD j (.Pass ⟨0, 0, 0, 0⟩)
  | _, _ => .Pass ⟨0, 0, 0, 0⟩
def tx (i : Nat) : Stmt := if i < 1000 then PySem.Challenge.pw_everyrain_k01_number_texts.main.body.getD i (.Pass ⟨0, 0, 0, 0⟩) else inCls (PySem.Challenge.pw_everyrain_k01_number_texts.main.body.getD (i % 1000) (.Pass ⟨0, 0, 0, 0⟩)) (i / 1000 - 1)
theorem ok_is_whole : DefOk defs inf d_is_whole (tx 8) := ⟨⟨rfl, rfl, rfl, by decide +kernel, rfl, by decide +kernel, by decide +kernel⟩, rfl, by decide +kernel, fun _ _ _ _ _ _ us ws h1 h2 => match us, ws, h1, h2 with | [_], [], _, _ => rfl⟩
theorem ok_raw_pair : DefOk defs inf d_raw_pair (tx 9) := ⟨⟨rfl, rfl, rfl, by decide +kernel, rfl, by decide +kernel, by decide +kernel⟩, rfl, by decide +kernel, fun _ _ _ _ _ _ us ws h1 h2 => match us, ws, h1, h2 with | [_, _], [], _, _ => rfl⟩
theorem ok_lowest_terms : DefOk defs inf d_lowest_terms (tx 10) := ⟨⟨rfl, rfl, rfl, by decide +kernel, rfl, by decide +kernel, by decide +kernel⟩, rfl, by decide +kernel, fun _ _ _ _ _ _ us ws h1 h2 => match us, ws, h1, h2 with | [_, _], [], _, _ => rfl⟩
theorem ok_ratio_named : DefOk defs inf d_ratio_named (tx 11) := ⟨⟨rfl, rfl, rfl, by decide +kernel, rfl, by decide +kernel, by decide +kernel⟩, rfl, by decide +kernel, fun _ _ _ _ _ _ us ws h1 h2 => match us, ws, h1, h2 with | [_, _], [], _, _ => rfl⟩
theorem ok_ratio : DefOk defs inf d_ratio (tx 12) := ⟨⟨rfl, rfl, rfl, by decide +kernel, rfl, by decide +kernel, by decide +kernel⟩, rfl, by decide +kernel, fun _ _ _ _ _ _ us ws h1 h2 => match us, ws, h1, h2 with | [_], [], _, _ => rfl⟩
theorem ok_of : DefOk defs inf d_of (tx 13) := ⟨⟨rfl, rfl, rfl, by decide +kernel, rfl, by decide +kernel, by decide +kernel⟩, rfl, by decide +kernel, fun _ _ _ _ _ _ us ws h1 h2 => match us, ws, h1, h2 with | [_, _], [], _, _ => rfl⟩
theorem ok_plus : DefOk defs inf d_plus (tx 14) := ⟨⟨rfl, rfl, rfl, by decide +kernel, rfl, by decide +kernel, by decide +kernel⟩, rfl, by decide +kernel, fun _ _ _ _ _ _ us ws h1 h2 => match us, ws, h1, h2 with | [_, _], [], _, _ => rfl⟩
theorem ok_minus : DefOk defs inf d_minus (tx 15) := ⟨⟨rfl, rfl, rfl, by decide +kernel, rfl, by decide +kernel, by decide +kernel⟩, rfl, by decide +kernel, fun _ _ _ _ _ _ us ws h1 h2 => match us, ws, h1, h2 with | [_, _], [], _, _ => rfl⟩
theorem ok_times : DefOk defs inf d_times (tx 16) := ⟨⟨rfl, rfl, rfl, by decide +kernel, rfl, by decide +kernel, by decide +kernel⟩, rfl, by decide +kernel, fun _ _ _ _ _ _ us ws h1 h2 => match us, ws, h1, h2 with | [_, _], [], _, _ => rfl⟩
theorem ok_divided : DefOk defs inf d_divided (tx 17) := ⟨⟨rfl, rfl, rfl, by decide +kernel, rfl, by decide +kernel, by decide +kernel⟩, rfl, by decide +kernel, fun _ _ _ _ _ _ us ws h1 h2 => match us, ws, h1, h2 with | [_, _], [], _, _ => rfl⟩
theorem ok_compare : DefOk defs inf d_compare (tx 18) := ⟨⟨rfl, rfl, rfl, by decide +kernel, rfl, by decide +kernel, by decide +kernel⟩, rfl, by decide +kernel, fun _ _ _ _ _ _ us ws h1 h2 => match us, ws, h1, h2 with | [_, _], [], _, _ => rfl⟩
theorem ok_lesser : DefOk defs inf d_lesser (tx 19) := ⟨⟨rfl, rfl, rfl, by decide +kernel, rfl, by decide +kernel, by decide +kernel⟩, rfl, by decide +kernel, fun _ _ _ _ _ _ us ws h1 h2 => match us, ws, h1, h2 with | [_, _], [], _, _ => rfl⟩
theorem ok_greater : DefOk defs inf d_greater (tx 20) := ⟨⟨rfl, rfl, rfl, by decide +kernel, rfl, by decide +kernel, by decide +kernel⟩, rfl, by decide +kernel, fun _ _ _ _ _ _ us ws h1 h2 => match us, ws, h1, h2 with | [_, _], [], _, _ => rfl⟩
theorem ok_sum_of : DefOk defs inf d_sum_of (tx 21) := ⟨⟨rfl, rfl, rfl, by decide +kernel, rfl, by decide +kernel, by decide +kernel⟩, rfl, by decide +kernel, fun _ _ _ _ _ _ us ws h1 h2 => match us, ws, h1, h2 with | [_], [], _, _ => rfl⟩
theorem ok_rounded_up : DefOk defs inf d_rounded_up (tx 22) := ⟨⟨rfl, rfl, rfl, by decide +kernel, rfl, by decide +kernel, by decide +kernel⟩, rfl, by decide +kernel, fun _ _ _ _ _ _ us ws h1 h2 => match us, ws, h1, h2 with | [_], [], _, _ => rfl⟩
theorem ok_rounded_down : DefOk defs inf d_rounded_down (tx 23) := ⟨⟨rfl, rfl, rfl, by decide +kernel, rfl, by decide +kernel, by decide +kernel⟩, rfl, by decide +kernel, fun _ _ _ _ _ _ us ws h1 h2 => match us, ws, h1, h2 with | [_], [], _, _ => rfl⟩
theorem ok_ratio_text : DefOk defs inf d_ratio_text (tx 24) := ⟨⟨rfl, rfl, rfl, by decide +kernel, rfl, by decide +kernel, by decide +kernel⟩, rfl, by decide +kernel, fun _ _ _ _ _ _ us ws h1 h2 => match us, ws, h1, h2 with | [_], [], _, _ => rfl⟩
theorem ok_whole_from : DefOk defs inf d_whole_from (tx 25) := ⟨⟨rfl, rfl, rfl, by decide +kernel, rfl, by decide +kernel, by decide +kernel⟩, rfl, by decide +kernel, fun _ _ _ _ _ _ us ws h1 h2 => match us, ws, h1, h2 with | [_], [], _, _ => rfl⟩
theorem ok_ratio_from : DefOk defs inf d_ratio_from (tx 26) := ⟨⟨rfl, rfl, rfl, by decide +kernel, rfl, by decide +kernel, by decide +kernel⟩, rfl, by decide +kernel, fun _ _ _ _ _ _ us ws h1 h2 => match us, ws, h1, h2 with | [_], [], _, _ => rfl⟩
theorem ok__law_draws : DefOk defs inf d__law_draws (tx 28) := ⟨⟨rfl, rfl, rfl, by decide +kernel, rfl, by decide +kernel, by decide +kernel⟩, rfl, by decide +kernel, fun _ _ _ _ _ _ us ws h1 h2 => match us, ws, h1, h2 with | [_], [], _, _ => rfl⟩
theorem ok__law_take : DefOk defs inf d__law_take (tx 29) := ⟨⟨rfl, rfl, rfl, by decide +kernel, rfl, by decide +kernel, by decide +kernel⟩, rfl, by decide +kernel, fun _ _ _ _ _ _ us ws h1 h2 => match us, ws, h1, h2 with | [_, _], [], _, _ => rfl⟩
theorem ok__law_whole : DefOk defs inf d__law_whole (tx 30) := ⟨⟨rfl, rfl, rfl, by decide +kernel, rfl, by decide +kernel, by decide +kernel⟩, rfl, by decide +kernel, fun _ _ _ _ _ _ us ws h1 h2 => match us, ws, h1, h2 with | [_], [], _, _ => rfl⟩
theorem ok__law_pair : DefOk defs inf d__law_pair (tx 31) := ⟨⟨rfl, rfl, rfl, by decide +kernel, rfl, by decide +kernel, by decide +kernel⟩, rfl, by decide +kernel, fun _ _ _ _ _ _ us ws h1 h2 => match us, ws, h1, h2 with | [_, _], [], _, _ => rfl⟩
theorem ok__law_number : DefOk defs inf d__law_number (tx 32) := ⟨⟨rfl, rfl, rfl, by decide +kernel, rfl, by decide +kernel, by decide +kernel⟩, rfl, by decide +kernel, fun _ _ _ _ _ _ us ws h1 h2 => match us, ws, h1, h2 with | [_], [], _, _ => rfl⟩
theorem ok__law_great : DefOk defs inf d__law_great (tx 33) := ⟨⟨rfl, rfl, rfl, by decide +kernel, rfl, by decide +kernel, by decide +kernel⟩, rfl, by decide +kernel, fun _ _ _ _ _ _ us ws h1 h2 => match us, ws, h1, h2 with | [_, _], [], _, _ => rfl⟩
theorem ok__law_given : DefOk defs inf d__law_given (tx 34) := ⟨⟨rfl, rfl, rfl, by decide +kernel, rfl, by decide +kernel, by decide +kernel⟩, rfl, by decide +kernel, fun _ _ _ _ _ _ us ws h1 h2 => match us, ws, h1, h2 with | [_], [], _, _ => rfl⟩
theorem ok__law_is : DefOk defs inf d__law_is (tx 35) := ⟨⟨rfl, rfl, rfl, by decide +kernel, rfl, by decide +kernel, by decide +kernel⟩, rfl, by decide +kernel, fun _ _ _ _ _ _ us ws h1 h2 => match us, ws, h1, h2 with | [_], [], _, _ => rfl⟩
theorem ok__law_value : DefOk defs inf d__law_value (tx 36) := ⟨⟨rfl, rfl, rfl, by decide +kernel, rfl, by decide +kernel, by decide +kernel⟩, rfl, by decide +kernel, fun _ _ _ _ _ _ us ws h1 h2 => match us, ws, h1, h2 with | [_], [], _, _ => rfl⟩
theorem ok__law_figures : DefOk defs inf d__law_figures (tx 37) := ⟨⟨rfl, rfl, rfl, by decide +kernel, rfl, by decide +kernel, by decide +kernel⟩, rfl, by decide +kernel, fun _ _ _ _ _ _ us ws h1 h2 => match us, ws, h1, h2 with | [_], [], _, _ => rfl⟩
theorem ok__law_reads : DefOk defs inf d__law_reads (tx 38) := ⟨⟨rfl, rfl, rfl, by decide +kernel, rfl, by decide +kernel, by decide +kernel⟩, rfl, by decide +kernel, fun _ _ _ _ _ _ us ws h1 h2 => match us, ws, h1, h2 with | [_], [], _, _ => rfl⟩
theorem ok__law_text : DefOk defs inf d__law_text (tx 39) := ⟨⟨rfl, rfl, rfl, by decide +kernel, rfl, by decide +kernel, by decide +kernel⟩, rfl, by decide +kernel, fun _ _ _ _ _ _ us ws h1 h2 => match us, ws, h1, h2 with | [_], [], _, _ => rfl⟩
theorem ok__law_sign : DefOk defs inf d__law_sign (tx 40) := ⟨⟨rfl, rfl, rfl, by decide +kernel, rfl, by decide +kernel, by decide +kernel⟩, rfl, by decide +kernel, fun _ _ _ _ _ _ us ws h1 h2 => match us, ws, h1, h2 with | [_], [], _, _ => rfl⟩
theorem ok__law_long : DefOk defs inf d__law_long (tx 41) := ⟨⟨rfl, rfl, rfl, by decide +kernel, rfl, by decide +kernel, by decide +kernel⟩, rfl, by decide +kernel, fun _ _ _ _ _ _ us ws h1 h2 => match us, ws, h1, h2 with | [_], [], _, _ => rfl⟩
theorem ok__law_drawn_text : DefOk defs inf d__law_drawn_text (tx 42) := ⟨⟨rfl, rfl, rfl, by decide +kernel, rfl, by decide +kernel, by decide +kernel⟩, rfl, by decide +kernel, fun _ _ _ _ _ _ us ws h1 h2 => match us, ws, h1, h2 with | [_], [], _, _ => rfl⟩
theorem ok__law_any : DefOk defs inf d__law_any (tx 43) := ⟨⟨rfl, rfl, rfl, by decide +kernel, rfl, by decide +kernel, by decide +kernel⟩, rfl, by decide +kernel, fun _ _ _ _ _ _ us ws h1 h2 => match us, ws, h1, h2 with | [_], [], _, _ => rfl⟩
theorem ok__law_call : DefOk defs inf d__law_call (tx 44) := ⟨⟨rfl, rfl, rfl, by decide +kernel, rfl, by decide +kernel, by decide +kernel⟩, rfl, by decide +kernel, fun _ _ _ _ _ _ us ws h1 h2 => match us, ws, h1, h2 with | [_, _, _], [], _, _ => rfl⟩
theorem ok__law_due : DefOk defs inf d__law_due (tx 45) := ⟨⟨rfl, rfl, rfl, by decide +kernel, rfl, by decide +kernel, by decide +kernel⟩, rfl, by decide +kernel, fun _ _ _ _ _ _ us ws h1 h2 => match us, ws, h1, h2 with | [_, _, _], [], _, _ => rfl⟩
theorem ok__law_refused : DefOk defs inf d__law_refused (tx 46) := ⟨⟨rfl, rfl, rfl, by decide +kernel, rfl, by decide +kernel, by decide +kernel⟩, rfl, by decide +kernel, fun _ _ _ _ _ _ us ws h1 h2 => match us, ws, h1, h2 with | [_, _, _], [], _, _ => rfl⟩
theorem ok__law_asked : DefOk defs inf d__law_asked (tx 47) := ⟨⟨rfl, rfl, rfl, by decide +kernel, rfl, by decide +kernel, by decide +kernel⟩, rfl, by decide +kernel, fun _ _ _ _ _ _ us ws h1 h2 => match us, ws, h1, h2 with | [_], [], _, _ => rfl⟩
theorem ok__law_read_back : DefOk defs inf d__law_read_back (tx 48) := ⟨⟨rfl, rfl, rfl, by decide +kernel, rfl, by decide +kernel, by decide +kernel⟩, rfl, by decide +kernel, fun _ _ _ _ _ _ us ws h1 h2 => match us, ws, h1, h2 with | [_], [], _, _ => rfl⟩
theorem ok_law : DefOk defs inf d_law (tx 49) := ⟨⟨rfl, rfl, rfl, by decide +kernel, rfl, by decide +kernel, by decide +kernel⟩, rfl, by decide +kernel, fun _ _ _ _ _ _ us ws h1 h2 => match us, ws, h1, h2 with | [_], [], _, _ => rfl⟩
def ps : List (Def × Nat) := [(d_is_whole, 8), (d_raw_pair, 9), (d_lowest_terms, 10), (d_ratio_named, 11), (d_ratio, 12), (d_of, 13), (d_plus, 14), (d_minus, 15), (d_times, 16), (d_divided, 17), (d_compare, 18), (d_lesser, 19), (d_greater, 20), (d_sum_of, 21), (d_rounded_up, 22), (d_rounded_down, 23), (d_ratio_text, 24), (d_whole_from, 25), (d_ratio_from, 26), (d__law_draws, 28), (d__law_take, 29), (d__law_whole, 30), (d__law_pair, 31), (d__law_number, 32), (d__law_great, 33), (d__law_given, 34), (d__law_is, 35), (d__law_value, 36), (d__law_figures, 37), (d__law_reads, 38), (d__law_text, 39), (d__law_sign, 40), (d__law_long, 41), (d__law_drawn_text, 42), (d__law_any, 43), (d__law_call, 44), (d__law_due, 45), (d__law_refused, 46), (d__law_asked, 47), (d__law_read_back, 48), (d_law, 49)]
theorem all_ok : AllOk defs inf tx ps := ⟨ok_is_whole, ok_raw_pair, ok_lowest_terms, ok_ratio_named, ok_ratio, ok_of, ok_plus, ok_minus, ok_times, ok_divided, ok_compare, ok_lesser, ok_greater, ok_sum_of, ok_rounded_up, ok_rounded_down, ok_ratio_text, ok_whole_from, ok_ratio_from, ok__law_draws, ok__law_take, ok__law_whole, ok__law_pair, ok__law_number, ok__law_great, ok__law_given, ok__law_is, ok__law_value, ok__law_figures, ok__law_reads, ok__law_text, ok__law_sign, ok__law_long, ok__law_drawn_text, ok__law_any, ok__law_call, ok__law_due, ok__law_refused, ok__law_asked, ok__law_read_back, ok_law, trivial⟩
abbrev fa : List He.Fa := faOf ps inf.free
abbrev fn : List He.DefD := fnOf tx ps
abbrev ex : PySem.W.Frag → Bool := exOf PySem.Challenge.rw_everyrain_k01_number_texts.prog.main.file inf
abbrev R : PySem.W.OpenRow := PySem.W.OpenLaw.row PySem.Challenge.rw_everyrain_k01_number_texts
abbrev hk : PySem.W.Hook := hookX 4 fa fn ex
def ob (s : PySem.W.SharedT) : He.AlD := obsXG 4 fa fn ex (HandSHeadRun.getT s)
theorem ob_eq (s : PySem.W.SharedT) : ob s = hk.obs s.abs := obsXG_eq (HandSHeadRun.getT_eq s)
def loose : List Str := (["RainError", "BadNumber", "BadText", "FIGURES", "LONGEST", "is_whole", "raw_pair", "lowest_terms", "ratio_named", "ratio", "of", "plus"] : List Str) ++ (["minus", "times", "divided", "compare", "lesser", "greater", "sum_of", "rounded_up", "rounded_down", "ratio_text", "whole_from", "ratio_from"] : List Str) ++ (["_law_draws", "_law_take", "_law_whole", "_law_pair", "_law_number", "_law_great", "_law_given", "_law_is", "_law_value", "_law_figures", "_law_reads", "_law_text"] : List Str) ++ (["_law_sign", "_law_long", "_law_drawn_text", "_law_any", "_law_call", "_law_due", "_law_refused", "_law_asked", "_law_read_back"] : List Str)
end K01
set_option maxHeartbeats 4000000
namespace K01
open PySem L2 VI HandSHeadRun PySem.W
theorem run1 (w : World) : (HandSHeadRun.wholeF (fun p => HandSHeadRun.stepQ (HandSHeadRun.denQ HandSHeadRun.tabQ) p w) HandSHeadRun.fenceQ 6000 R.prog).map (fun x => (looksF R.prog x.1.heap x.2.abs, HandSHeadRun.seenQ (PySem.W.view R.prog [0, 49]) loose (importedModules R.prog.main.body) (fun s => PySem.W.xlAt (PySem.W.view R.prog [0, 49]) [] s && PySem.W.recOk R.toRowW.records s) x.2.abs)) = some (true, PySem.W.openGood (PySem.W.view R.prog [0, 49]) loose) := by kernel_rfl
theorem run2 (w : World) : (HandSHeadRun.wholeF (fun p => HandSHeadRun.stepQ (HandSHeadRun.denQ HandSHeadRun.tabQ) p w) HandSHeadRun.fenceQ 6000 R.prog).map (fun x => fa.all fun f => f.ok (KX 4 x.2)) = some true := by kernel_rfl
theorem run3 (w : World) : (HandSHeadRun.wholeF (fun p => HandSHeadRun.stepQ (HandSHeadRun.denQ HandSHeadRun.tabQ) p w) HandSHeadRun.fenceQ 6000 R.prog).map (fun x => fn.all fun d => d.ok (KX 4 x.2)) = some true := by kernel_rfl
theorem run4 (w : World) : (HandSHeadRun.wholeF (fun p => HandSHeadRun.stepQ (HandSHeadRun.denQ HandSHeadRun.tabQ) p w) HandSHeadRun.fenceQ 6000 R.prog).map (fun x => ex (KX 4 x.2)) = some true := by kernel_rfl
theorem run5 (w : World) : (HandSHeadRun.wholeF (fun p => HandSHeadRun.stepQ (HandSHeadRun.denQ HandSHeadRun.tabQ) p w) HandSHeadRun.fenceQ 6000 R.prog).map (fun x => fn.map fun d => He.fnW (KX 4 x.2) d.at_) = some (fn.map He.DefD.val) := by kernel_rfl
theorem run (w : World) : HandSHeadRun.RunEqI R (PySem.W.view R.prog [0, 49]) hk ob 6000 loose w := @runI_parts R (PySem.W.view R.prog [0, 49]) 4 fa fn ex 6000 loose w (HandSHeadRun.wholeF (fun p => HandSHeadRun.stepQ (HandSHeadRun.denQ HandSHeadRun.tabQ) p w) HandSHeadRun.fenceQ 6000 R.prog) rfl (run1 w) (run2 w) (run3 w) (run4 w) (run5 w)
end K01
open PySem PySem.W PySem.Calls PyProof.Rows
set_option maxRecDepth 100000 in
set_option maxHeartbeats 0 in
theorem PySem.Challenge.cw_everyrain_k01_number_texts_holds : PySem.Challenge.rw_everyrain_k01_number_texts.Holds := by
  w_on; o_law
  refine HandSHeadRun.head_imp (r := OpenLaw.row PySem.Challenge.rw_everyrain_k01_number_texts) (q := view (OpenLaw.row PySem.Challenge.rw_everyrain_k01_number_texts).prog [0, 49]) (H := K01.hk) (ob := K01.ob) (M := 6000) (loose := K01.loose) (d := HandSHeadRun.topDef (OpenLaw.row PySem.Challenge.rw_everyrain_k01_number_texts).prog 49) (kwd := []) K01.ob_eq
    K01.run (by kernel_rfl) (by kernel_rfl) (by kernel_rfl) (by rfl) (by first | assumption | decide +kernel) (by decide +kernel) ⟨rfl, rfl, rfl, rfl, rfl, by decide +kernel⟩ ?hw ?hc
  case hw => w_witness2
  case hc => exact VI.walk_law (l := PySem.Challenge.rw_everyrain_k01_number_texts) (k := 14) (f := 40) (fu := 1000) rfl (by kernel_rfl) (by kernel_rfl) rfl rfl (by decide +kernel) ⟨rfl, by decide, by decide⟩ (by kernel_rfl) (fun _ => by decide +kernel) rfl K01.all_ok rfl rfl rfl K01.law_true
