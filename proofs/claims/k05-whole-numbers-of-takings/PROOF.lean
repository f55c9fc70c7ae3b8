import PyProof.Rows.All
import Wide.All
import OpenK.AllK
import Wide.FinOn
import HandS.ForMost
import HandS.ForExc
import HandS.Wide
import HandS.NoneIn
import HandS.Lambda
import HandS.TupAny
import HandS.TupMul
import HandS.Flow
import HandS.Walk
import HandS.Style
import HandS.SortInts
import HandS.SortKw
import HandS.Steps
import KE.DataMinMax
import HandS.Zip
import HandS.Conv
import HandS.Property
import HandS.IsInst
import HandS.OwnEq
import HandS.Small
import HandS.Exc
import HandS.ExcOwn
import KE.GoesEnum
import HandS.TryMany
import HandS.ExcIs
import HandS.ExcField
import PySem.Challenge.RW_boxtaker_k05_whole_numbers_of_takings
set_option Elab.async false
set_option autoImplicit false
set_option linter.all false
set_option maxRecDepth 100000
set_option maxHeartbeats 1000000
/-! Fa: a functional reading of a program's fragment. Values are pure data (D); an expression is read as a function from the slots' data and a store of shared objects to a result; `den` turns such a function into a reading of the hand layer. -/
namespace Bx
open PySem L2

/-- pure data -/
inductive D where
  | non | bl (b : Bool) | int (i : Int) | str (s : Str)
  | tup (xs : List D) | lst (xs : List D)
  | ins (c : Str) (ns : List Str) (xs : List D)
  | ref (l : Nat) | fn (f : Str) | scr (ns : List Int)
  deriving Inhabited

/-- an object of the store -/
inductive O where
  | src (s : Int) (cs : List Int) (i : Int)
  deriving Inhabited
abbrev Store := List O
/-- an exception: its class, its fields if it has an own __init__ -/
structure Exc where
  cls : Str
  fld : Option (List (Str × D))
/-- a result: a value and the store, an exception, or nothing known -/
inductive R (α : Type) where
  | ok (a : α) (S : Store)
  | er (x : Exc) (S : Store)
  | no
/-- a slot of a frame -/
inductive Sl where
  | un | fz (d : D) | ow (ds : List D) | nw (c : Str) (ns : List Str) (xs : List D) | ex (x : Exc)
abbrev Rho := List Sl
abbrev Fn (α : Type) := Rho → Store → R α
@[simp] def R.bind {α β : Type} : R α → (α → Store → R β) → R β
  | .ok a S, k => k a S
  | .er x S, _ => .er x S
  | .no, _ => .no

section
variable (K : PySem.W.Frag) (mg : Str → Option Value)
mutual
/-- v is the datum d, in the heap H -/
inductive Rep (μ : Nat → Option Addr) (H : Hp) : D → V → Prop
  | non : Rep μ H .non .non
  | bl (b : Bool) : Rep μ H (.bl b) (.bl b)
  | int (i : Int) : Rep μ H (.int i) (.int i)
  | str (s : Str) : Rep μ H (.str s) (.str s)
  | tup {a : Addr} {vs : List V} {ds : List D} : H a = some (.tup vs) → Reps μ H ds vs → Rep μ H (.tup ds) (.ref a)
  | lst {a : Addr} {vs : List V} {ds : List D} : H a = some (.lst vs) → Reps μ H ds vs → Rep μ H (.lst ds) (.ref a)
  | ins {a C dx : Addr} {c : Str} {ns : List Str} {vs : List V} {ds : List D} : mg c = some (.ref C) → H a = some (.ins C dx (ns.zip vs)) → ns.length = vs.length → Reps μ H ds vs → Rep μ H (.ins c ns ds) (.ref a)
  | ref {l : Nat} {a : Addr} : μ l = some a → Rep μ H (.ref l) (.ref a)
  | fn {f : Str} {a : Addr} : mg f = some (.ref a) → Rep μ H (.fn f) (.ref a)
  | scr {a : Addr} {ns : List Int} : SqL K H a (ns.map V.int) → Rep μ H (.scr ns) (.ref a)
inductive Reps (μ : Nat → Option Addr) (H : Hp) : List D → List V → Prop
  | nil : Reps μ H [] []
  | cons {d : D} {ds : List D} {v : V} {vs : List V} : Rep μ H d v → Reps μ H ds vs → Reps μ H (d :: ds) (v :: vs)
end
end

theorem rd_mono {H H' : Hp} {a : Addr} {u : HO} (e : Same H H') (h : Rd H a u) : Rd H' a u := by
  rcases h with h | ⟨o, h⟩
  · exact .inl (e a _ h)
  · exact .inr ⟨o, e a _ h⟩
theorem sqt_mono {K : PySem.W.Frag} {H H' : Hp} {a : Addr} {xs : List V} (e : Same H H') (h : SqT K H a xs) : SqT K H' a xs := by
  rcases h with h | h
  · exact .inl (rd_mono e h)
  · exact .inr h
theorem sql_mono {K : PySem.W.Frag} {H H' : Hp} {a : Addr} {xs : List V} (e : Same H H') (h : SqL K H a xs) : SqL K H' a xs := by
  rcases h with h | h
  · exact .inl (rd_mono e h)
  · exact .inr h

section
variable {K : PySem.W.Frag} {mg : Str → Option Value} {μ μ' : Nat → Option Addr} {H H' : Hp}
mutual
theorem Rep.mono (hm : ∀ l a, μ l = some a → μ' l = some a) (e : Same H H') : ∀ (d : D) (v : V), Rep K mg μ H d v → Rep K mg μ' H' d v
  | .non, _, h => by cases h; exact .non
  | .bl _, _, h => by cases h; exact .bl _
  | .int _, _, h => by cases h; exact .int _
  | .str _, _, h => by cases h; exact .str _
  | .tup ds, _, h => by
    cases h with
    | tup h1 h2 => exact .tup (e _ _ h1) (Reps.mono hm e ds _ h2)
  | .lst ds, _, h => by
    cases h with
    | lst h1 h2 => exact .lst (e _ _ h1) (Reps.mono hm e ds _ h2)
  | .ins c ns ds, _, h => by
    cases h with
    | ins h0 h1 h2 h3 => exact .ins h0 (e _ _ h1) h2 (Reps.mono hm e ds _ h3)
  | .ref l, _, h => by
    cases h with
    | ref h => exact .ref (hm _ _ h)
  | .fn f, _, h => by
    cases h with
    | fn h => exact .fn h
  | .scr ns, _, h => by
    cases h with
    | scr h => exact .scr (sql_mono e h)
theorem Reps.mono (hm : ∀ l a, μ l = some a → μ' l = some a) (e : Same H H') : ∀ (ds : List D) (vs : List V), Reps K mg μ H ds vs → Reps K mg μ' H' ds vs
  | [], _, h => by cases h; exact .nil
  | d :: ds, _, h => by
    cases h with
    | cons h1 h2 => exact .cons (Rep.mono hm e d _ h1) (Reps.mono hm e ds _ h2)
end
theorem Reps.len : ∀ {ds : List D} {vs : List V}, Reps K mg μ H ds vs → ds.length = vs.length
  | [], _, h => by cases h; rfl
  | d :: ds, _, h => by
    cases h with
    | cons h1 h2 => simp [Reps.len h2]
theorem Reps.get : ∀ {ds : List D} {vs : List V} {i : Nat} {d : D}, Reps K mg μ H ds vs → ds[i]? = some d → ∃ v, vs[i]? = some v ∧ Rep K mg μ H d v
  | [], _, i, d, h, e => by simp at e
  | d :: ds, _, 0, _, h, e => by
    cases h with
    | cons h1 h2 =>
      simp at e; subst e
      exact ⟨_, rfl, h1⟩
  | d :: ds, _, i + 1, _, h, e => by
    cases h with
    | cons h1 h2 =>
      obtain ⟨v, a, b⟩ := Reps.get (i := i) h2 (by simpa using e)
      exact ⟨v, by simpa using a, b⟩
theorem Reps.getV : ∀ {ds : List D} {vs : List V} {i : Nat} {v : V}, Reps K mg μ H ds vs → vs[i]? = some v → ∃ d, ds[i]? = some d ∧ Rep K mg μ H d v := fun {ds vs i v} h e => by
  have hi : i < ds.length := by
    rw [h.len]
    exact (List.getElem?_eq_some_iff.mp e).1
  obtain ⟨v', a, b⟩ := h.get (i := i) (d := ds[i]) (by simp [hi])
  rw [e] at a; cases a
  exact ⟨_, by simp [hi], b⟩
theorem Reps.append : ∀ {ds es : List D} {vs ws : List V}, Reps K mg μ H ds vs → Reps K mg μ H es ws → Reps K mg μ H (ds ++ es) (vs ++ ws)
  | [], _, _, _, h, g => by cases h; exact g
  | d :: ds, _, _, _, h, g => by
    cases h with
    | cons h1 h2 => exact .cons h1 (Reps.append h2 g)
theorem Reps.drop : ∀ {ds : List D} {vs : List V} (n : Nat), Reps K mg μ H ds vs → Reps K mg μ H (ds.drop n) (vs.drop n)
  | _, _, 0, h => h
  | [], _, n + 1, h => by cases h; exact .nil
  | d :: ds, _, n + 1, h => by
    cases h with
    | cons h1 h2 => exact Reps.drop n h2
theorem Reps.take : ∀ {ds : List D} {vs : List V} (n : Nat), Reps K mg μ H ds vs → Reps K mg μ H (ds.take n) (vs.take n)
  | _, _, 0, h => by simpa using Reps.nil
  | [], _, n + 1, h => by cases h; exact .nil
  | d :: ds, _, n + 1, h => by
    cases h with
    | cons h1 h2 => exact .cons h1 (Reps.take n h2)
theorem Reps.set : ∀ {ds : List D} {vs : List V} {d : D} {v : V} (i : Nat), Reps K mg μ H ds vs → Rep K mg μ H d v → Reps K mg μ H (ds.set i d) (vs.set i v)
  | [], _, _, _, _, h, _ => by cases h; exact .nil
  | d :: ds, _, _, _, 0, h, g => by
    cases h with
    | cons h1 h2 => exact .cons g h2
  | d :: ds, _, _, _, i + 1, h, g => by
    cases h with
    | cons h1 h2 => exact .cons h1 (Reps.set i h2 g)
theorem Reps.reverse : ∀ {ds : List D} {vs : List V}, Reps K mg μ H ds vs → Reps K mg μ H ds.reverse vs.reverse
  | [], _, h => by cases h; exact .nil
  | d :: ds, _, h => by
    cases h with
    | cons h1 h2 =>
      rw [List.reverse_cons, List.reverse_cons]
      exact (Reps.reverse h2).append (.cons h1 .nil)
theorem Reps.ints : ∀ {ns : List Int} {vs : List V}, Reps K mg μ H (ns.map D.int) vs → vs = ns.map V.int
  | [], _, h => by cases h; rfl
  | n :: ns, _, h => by
    cases h with
    | cons h1 h2 =>
      cases h1
      rw [Reps.ints h2]; rfl
theorem Reps.ofInts : ∀ (ns : List Int), Reps K mg μ H (ns.map D.int) (ns.map V.int)
  | [] => .nil
  | n :: ns => .cons (.int n) (Reps.ofInts ns)
end

/-! ### worlds: which addresses are hidden (some 0: a frame's own list; some 1: a table of code objects; some (l + 2): of the store's object l), where the store's objects lie, the store -/
structure Wd where
  M : Addr → Option Nat
  μ : Nat → Option Addr
  S : Store
  T : Addr → Option Str := fun _ => none
def hid (M : Addr → Option Nat) (H : Hp) : Hp := fun a => match M a with
  | none => H a
  | some _ => none
theorem hid_some {M : Addr → Option Nat} {H : Hp} {a : Addr} {o : HO} : hid M H a = some o ↔ M a = none ∧ H a = some o := by
  unfold hid
  split <;> simp_all
theorem hid_le {M : Addr → Option Nat} {H : Hp} : Same (hid M H) H := fun a o h => (hid_some.mp h).2
def ORep (W : Wd) (H : Hp) (l : Nat) (a : Addr) : O → Prop
  | .src s cs i => W.M a = some (l + 2) ∧ ∃ c, W.M c = some (l + 2) ∧ a ≠ c ∧ H a = some (.lst [.int s, .ref c, .int i]) ∧ H c = some (.lst (cs.map V.int))
/-- the table of code objects at P: what it tells is named q -/
def TabW (W : Wd) (H : Hp) (P : Addr) (q : Str) : Prop := W.M P = some 1 ∧ ∃ ps : Array Value, H P = some (.tbl ps) ∧ TriplesOk ps.toList ∧ ∀ (pos : Pos) (cv : Value), codeAmong pos ps.toList = some cv → ∃ c, cv = .ref c ∧ (∀ l, W.M c ≠ some (l + 1)) ∧ H c = some (LamX.CodeO c q)
structure WOk (W : Wd) (H : Hp) : Prop where
  dom : ∀ p, W.M p ≠ none → H p ≠ none
  obj : ∀ l o, W.S[l]? = some o → ∃ a, W.μ l = some a ∧ ORep W H l a o
  bd : ∀ l a, W.μ l = some a → l < W.S.length
  tab : ∀ P q, W.T P = some q → TabW W H P q
theorem TabW.world {W W' : Wd} {H H' : Hp} {P : Addr} {q : Str} (t : TabW W H P q) (h1 : ∀ p, W.M p = some 1 → W'.M p = some 1 ∧ H' p = H p) (h2 : ∀ p q, (∀ l, W.M p ≠ some (l + 1)) → H p = some (LamX.CodeO p q) → (∀ l, W'.M p ≠ some (l + 1)) ∧ H' p = H p) : TabW W' H' P q := by
  obtain ⟨a, ps, b, c, d⟩ := t
  refine ⟨(h1 P a).1, ps, (h1 P a).2.trans b, c, fun pos cv hc => ?_⟩
  obtain ⟨c', e1, e2, e3⟩ := d pos cv hc
  obtain ⟨f1, f2⟩ := h2 c' q e2 e3
  exact ⟨c', e1, f1, f2.trans e3⟩
/-- what may have happened behind an expression: frozen things and frames' own lists stand -/
structure Gr (W : Wd) (H : Hp) (W' : Wd) (H' : Hp) : Prop where
  ms : ∀ p, H p ≠ none → W'.M p = W.M p
  ex : ∀ p o, H p = some o → (∀ l, W.M p ≠ some (l + 1)) → H' p = some o
  ds : ∀ p, H p ≠ none → H' p ≠ none
  mu : ∀ l a, W.μ l = some a → W'.μ l = some a
  tt : W'.T = W.T
/-- .. behind a statement: frozen things stand -/
structure GrS (W : Wd) (H : Hp) (W' : Wd) (H' : Hp) : Prop where
  fz : ∀ p o, W.M p = none → H p = some o → W'.M p = none ∧ H' p = some o
  mu : ∀ l a, W.μ l = some a → W'.μ l = some a
  tt : W'.T = W.T
theorem Gr.refl (W : Wd) (H : Hp) : Gr W H W H := ⟨fun _ _ => rfl, fun _ _ h _ => h, fun _ h => h, fun _ _ h => h, rfl⟩
theorem Gr.trans {W W1 W2 : Wd} {H H1 H2 : Hp} (a : Gr W H W1 H1) (b : Gr W1 H1 W2 H2) : Gr W H W2 H2 where
  ms := fun p h => (b.ms p (a.ds p h)).trans (a.ms p h)
  ex := fun p o h n => b.ex p o (a.ex p o h n) fun l => by rw [a.ms p (by simp [h])]; exact n l
  ds := fun p h => b.ds p (a.ds p h)
  mu := fun l x h => b.mu l x (a.mu l x h)
  tt := b.tt.trans a.tt
theorem Gr.s {W W1 : Wd} {H H1 : Hp} (a : Gr W H W1 H1) : GrS W H W1 H1 :=
  ⟨fun p o n h => ⟨(a.ms p (by simp [h])).trans n, a.ex p o h fun l => by rw [n]; simp⟩, a.mu, a.tt⟩
theorem GrS.refl (W : Wd) (H : Hp) : GrS W H W H := ⟨fun _ _ n h => ⟨n, h⟩, fun _ _ h => h, rfl⟩
theorem GrS.trans {W W1 W2 : Wd} {H H1 H2 : Hp} (a : GrS W H W1 H1) (b : GrS W1 H1 W2 H2) : GrS W H W2 H2 :=
  ⟨fun p o n h => b.fz p o (a.fz p o n h).1 (a.fz p o n h).2, fun l x h => b.mu l x (a.mu l x h), b.tt.trans a.tt⟩
theorem GrS.same {W W1 : Wd} {H H1 : Hp} (a : GrS W H W1 H1) : Same (hid W.M H) (hid W1.M H1) := fun p o h => by
  obtain ⟨n, e⟩ := hid_some.mp h
  exact hid_some.mpr (a.fz p o n e)

/-- a frame: the written part, the module's names, the world and heap at its start, what is wanted if it raises -/
structure Fm where
  K : PySem.W.Frag
  mg : Str → Option Value
  W0 : Wd
  H0 : Hp
  wish : WX
  self : Addr := (0 : Nat)
  T : Addr → Option Str := fun _ => none
  exc : Option (Addr × Value × Option Addr) := none
abbrev Fm.rep (F : Fm) (W : Wd) (H : Hp) (d : D) (v : V) : Prop := Rep F.K F.mg W.μ (hid W.M H) d v
abbrev Fm.reps (F : Fm) (W : Wd) (H : Hp) (d : List D) (v : List V) : Prop := Reps F.K F.mg W.μ (hid W.M H) d v
/-- the exception x: its class's object, its own dict -/
def ERep (F : Fm) (W : Wd) (H : Hp) (x : Exc) (cls : Value) (dd : Option Addr) : Prop :=
  ∃ C, F.mg x.cls = some (.ref C) ∧ cls = .ref C ∧ match x.fld with
    | none => dd = none
    | some fs => ∃ d vs, dd = some d ∧ hid W.M H d = some (.xd ((fs.map (·.1)).zip vs)) ∧ F.reps W H (fs.map (·.2)) vs
structure EnvOk (F : Fm) (W : Wd) (H : Hp) (σ : St) (ρ : Rho) : Prop where
  len : ρ.length = σ.length
  fz : ∀ (i : Nat) (d : D), ρ[i]? = some (.fz d) → ∃ v, σ[i]? = some (some v) ∧ F.rep W H d v
  ow : ∀ (i : Nat) (ds : List D), ρ[i]? = some (.ow ds) → ∃ p vs, σ[i]? = some (some (.ref p)) ∧ W.M p = some 0 ∧ F.H0 p = none ∧ H p = some (.lst vs) ∧ F.reps W H ds vs
  dj : ∀ (i j : Nat) (ds es : List D) (p : Addr), ρ[i]? = some (.ow ds) → ρ[j]? = some (.ow es) → σ[i]? = some (some (.ref p)) → σ[j]? = some (some (.ref p)) → i = j
  nw : ∀ (i : Nat) (c : Str) (ns : List Str) (xs : List D), ρ[i]? = some (.nw c ns xs) → ∃ p C dx vs, σ[i]? = some (some (.ref p)) ∧ F.mg c = some (.ref C) ∧ W.M p = some 0 ∧ F.H0 p = none ∧ H p = some (.ins C dx (ns.zip vs)) ∧ ns.length = vs.length ∧ F.reps W H xs vs ∧ p = F.self
  ex : ∀ (i : Nat) (x : Exc), ρ[i]? = some (.ex x) → ∃ a cls dd, F.exc = some (a, cls, dd) ∧ σ[i]? = some (some (.ref a)) ∧ ERep F W H x cls dd
  tk : W.T = F.T
structure IF (F : Fm) (W : Wd) (H : Hp) (σ : St) (ρ : Rho) : Prop where
  ok : WOk W H
  gr : Gr F.W0 F.H0 W H
  env : EnvOk F W H σ ρ
section
variable {F : Fm} {W W' : Wd} {H H' : Hp} {σ : St} {ρ : Rho}
theorem rep_gr {d : D} {v : V} (g : GrS W H W' H') (h : F.rep W H d v) : F.rep W' H' d v := Rep.mono g.mu g.same d v h
theorem reps_gr {d : List D} {v : List V} (g : GrS W H W' H') (h : F.reps W H d v) : F.reps W' H' d v := Reps.mono g.mu g.same d v h
theorem erep_gr {x : Exc} {cls : Value} {dd : Option Addr} (g : GrS W H W' H') (h : ERep F W H x cls dd) : ERep F W' H' x cls dd := by
  obtain ⟨C, h1, h2, h3⟩ := h
  refine ⟨C, h1, h2, ?_⟩
  cases hf : x.fld with
  | none => rw [hf] at h3; exact h3
  | some fs =>
    rw [hf] at h3
    obtain ⟨d, vs, e1, e2, e3⟩ := h3
    exact ⟨d, vs, e1, g.same d _ e2, reps_gr g e3⟩
theorem EnvOk.gr (e : EnvOk F W H σ ρ) (g : Gr W H W' H') : EnvOk F W' H' σ ρ where
  len := e.len
  fz := fun i d h => by
    obtain ⟨v, h1, h2⟩ := e.fz i d h
    exact ⟨v, h1, rep_gr g.s h2⟩
  ow := fun i ds h => by
    obtain ⟨p, vs, h1, h2, h3, h4, h5⟩ := e.ow i ds h
    exact ⟨p, vs, h1, (g.ms p (by simp [h4])).trans h2, h3, g.ex p _ h4 fun l => by rw [h2]; simp, reps_gr g.s h5⟩
  dj := e.dj
  nw := fun i c ns xs h => by
    obtain ⟨p, C, dx, vs, h1, h2, h3, h4, h5, h6, h7⟩ := e.nw i c ns xs h
    exact ⟨p, C, dx, vs, h1, h2, (g.ms p (by simp [h5])).trans h3, h4, g.ex p _ h5 fun l => by rw [h3]; simp, h6, reps_gr g.s h7.1, h7.2⟩
  ex := fun i x h => by
    obtain ⟨a, cls, dd, h1, h2, h3⟩ := e.ex i x h
    exact ⟨a, cls, dd, h1, h2, erep_gr g.s h3⟩
  tk := g.tt.trans e.tk
theorem IF.go (I : IF F W H σ ρ) (g : Gr W H W' H') (ok : WOk W' H') : IF F W' H' σ ρ := ⟨ok, I.gr.trans g, I.env.gr g⟩
end

/-! ### what is wanted behind an expression -/
def Post {α β : Type} (F : Fm) (rel : Wd → Hp → α → β → Prop) (W : Wd) (H : Hp) (σ : St) (r : R α) (Q : β → Hp → Prop) : Prop :=
  match r with
  | .ok a S' => ∀ b H' W', W'.S = S' → Gr W H W' H' → WOk W' H' → rel W' H' a b → Q b H'
  | .er x S' => ∀ cls dd H' W', W'.S = S' → Gr W H W' H' → WOk W' H' → ERep F W' H' x cls dd → F.wish cls dd σ H'
  | .no => False
/-- the reading that a function is -/
def den {α β : Type} (F : Fm) (rel : Wd → Hp → α → β → Prop) (f : Fn α) : St → Hp → (β → Hp → Prop) → Prop := fun σ H Q => ∃ ρ W, IF F W H σ ρ ∧ Post F rel W H σ (f ρ W.S) Q
abbrev relE {α : Type} : Wd → Hp → α → α → Prop := fun _ _ a b => a = b
abbrev denE (F : Fm) (f : Fn D) : TE := den F F.rep f
abbrev denT (F : Fm) (f : Fn Bool) : TT := den F relE f
abbrev denA (F : Fm) (f : Fn (List D)) : TA := den F F.reps f
def Mono {α β : Type} (rel : Wd → Hp → α → β → Prop) : Prop := ∀ W H W' H' a b, Gr W H W' H' → rel W H a b → rel W' H' a b
theorem mono_rep {F : Fm} : Mono F.rep := fun _ _ _ _ _ _ g h => rep_gr g.s h
theorem mono_reps {F : Fm} : Mono F.reps := fun _ _ _ _ _ _ g h => reps_gr g.s h
theorem mono_E {α : Type} : Mono (relE (α := α)) := fun _ _ _ _ _ _ _ h => h
section
variable {F : Fm} {W W' W1 : Wd} {H H' H1 : Hp} {σ : St} {ρ : Rho} {α β γ δ : Type} {rel : Wd → Hp → α → β → Prop} {rel2 : Wd → Hp → γ → δ → Prop} {Q : β → Hp → Prop} {r : R α}
theorem Post.weaken (g : Gr W H W1 H1) (h : Post F rel W H σ r Q) : Post F rel W1 H1 σ r Q := by
  cases r with
  | ok a S => exact fun b H' W' e g' ok hr => h b H' W' e (g.trans g') ok hr
  | er x S => exact fun cls dd H' W' e g' ok hr => h cls dd H' W' e (g.trans g') ok hr
  | no => exact h
theorem Post.imp {Q' : β → Hp → Prop} (h : Post F rel W H σ r Q) (k : ∀ b H', Q b H' → Q' b H') : Post F rel W H σ r Q' := by
  cases r with
  | ok a S => exact fun b H' W' e g' ok hr => k _ _ (h b H' W' e g' ok hr)
  | er x S => exact h
  | no => exact h
/-- one after another -/
theorem Post.bind {f : R γ} {k : γ → Store → R α} {Q2 : δ → Hp → Prop} (h : Post F rel W H σ (f.bind k) Q)
    (hk : ∀ c b H1 W1, Gr W H W1 H1 → WOk W1 H1 → rel2 W1 H1 c b → Post F rel W1 H1 σ (k c W1.S) Q → Q2 b H1) : Post F rel2 W H σ f Q2 := by
  cases f with
  | ok c S =>
    intro b H1 W1 e g ok hr
    have h' : Post F rel W H σ (k c S) Q := h
    rw [← e] at h'
    exact hk c b H1 W1 g ok hr (h'.weaken g)
  | er x S => exact h
  | no => exact h
theorem Post.val {a : α} {b : β} (ok : WOk W H) (h : Post F rel W H σ (.ok a W.S) Q) (hr : rel W H a b) : Q b H := h b H W rfl (Gr.refl W H) ok hr
end
theorem _root_.L2.PE.imp {X : Cx} {e : Expr} {t t' : TE} (h : PE X e t) (k : ∀ σ H Q, t' σ H Q → t σ H Q) : PE X e t' := ⟨fun pins s σ H Q I q => h.run pins s σ H Q I (k σ H Q q)⟩
theorem _root_.L2.PT.imp {X : Cx} {e : Expr} {t t' : TT} (h : PT X e t) (k : ∀ σ H Q, t' σ H Q → t σ H Q) : PT X e t' := ⟨fun pins s σ H Q I q => h.run pins s σ H Q I (k σ H Q q)⟩
theorem _root_.L2.PA.imp {X : Cx} {e : List Expr} {t t' : TA} (h : PA X e t) (k : ∀ σ H Q, t' σ H Q → t σ H Q) : PA X e t' := ⟨fun pos pins s σ H Q I q => h.run pos pins s σ H Q I (k σ H Q q)⟩
theorem _root_.L2.PS.imp {X : Cx} {e : Stmt} {t t' : TS} (h : PS X e t) (k : ∀ D σ H, t' D σ H → t D σ H) : PS X e t' := ⟨fun pins s σ H D I q => h.run pins s σ H D I (k D σ H q)⟩
theorem _root_.L2.PSs.imp {X : Cx} {e : List Stmt} {t t' : TS} (h : PSs X e t) (k : ∀ D σ H, t' D σ H → t D σ H) : PSs X e t' := ⟨fun pins s σ H D I q => h.run pins s σ H D I (k D σ H q)⟩

/-! ### expressions -/
@[simp] def fVar (i : Nat) : Fn D := fun ρ S => match ρ[i]? with
  | some (.fz d) => .ok d S
  | _ => .no
@[simp] def fC (d : D) : Fn D := fun _ S => .ok d S
def flatD : D → Bool
  | .non | .bl _ | .int _ | .str _ | .fn _ => true
  | _ => false
@[simp] def fBin (g : D → D → Store → R D) (f1 f2 : Fn D) : Fn D := fun ρ S => (f1 ρ S).bind fun a S1 => (f2 ρ S1).bind fun b S2 => g a b S2
@[simp] def fUn {α β : Type} (g : α → Store → R β) (f : Fn α) : Fn β := fun ρ S => (f ρ S).bind g
section
variable {X : Cx} {F : Fm} {a b e : Expr} {f f1 f2 f3 : Fn D} {pos : Pos}
theorem de_var {i : Nat} {e : Expr} (h : PE X e (tVar i)) : PE X e (denE F (fVar i)) := h.imp fun σ H Q ⟨ρ, W, I, q⟩ => by
  unfold fVar at q
  split at q
  · rename_i d hd
    obtain ⟨v, h1, h2⟩ := I.env.fz i d hd
    exact ⟨v, h1, q.val I.ok h2⟩
  · exact q.elim
theorem de_C {e : Expr} {v : V} {d : D} (h : PE X e (tC v)) (r : ∀ W H, F.rep W H d v) : PE X e (denE F (fC d)) := h.imp fun σ H Q ⟨ρ, W, I, q⟩ => q.val I.ok (r W H)
theorem de_int {i j pos} : PE X (.Constant (.int i) j pos) (denE F (fC (.int i))) := de_C pe_int fun _ _ => .int _
theorem de_bl {i j pos} : PE X (.Constant (.bool i) j pos) (denE F (fC (.bl i))) := de_C pe_bl fun _ _ => .bl _
theorem de_non {j pos} : PE X (.Constant .none j pos) (denE F (fC .non)) := de_C pe_non fun _ _ => .non
theorem de_str {i j pos} : PE X (.Constant (.str i) j pos) (denE F (fC (.str i))) := de_C pe_str fun _ _ => .str _
/-- an operation by values: what the rule of the layer asks, from the data -/
def OpD (F : Fm) (r : R2) (g : D → D → Store → R D) : Prop := ∀ (W : Wd) (H : Hp) (σ : St) (d e : D) (x y : V) (Q : VK), WOk W H → W.T = F.T → F.rep W H d x → F.rep W H e y → Post F F.rep W H σ (g d e W.S) Q → r x y H Q
theorem den_bin {r : R2} {g : D → D → Store → R D} (hr : OpD F r g) {σ : St} {H : Hp} {Q : VK} (h : denE F (fBin g f1 f2) σ H Q) : tOp r (denE F f1) (denE F f2) σ H Q := by
  obtain ⟨ρ, W, I, q⟩ := h
  refine ⟨ρ, W, I, q.bind fun c x H1 W1 g1 ok1 r1 q1 => ?_⟩
  have I1 := I.go g1 ok1
  refine ⟨ρ, W1, I1, q1.bind fun c2 y H2 W2 g2 ok2 r2 q2 => ?_⟩
  exact hr W2 H2 σ c c2 x y Q ok2 (I1.go g2 ok2).env.tk (rep_gr g2.s r1) r2 q2
theorem de_op {op : Operator} {r : R2} {g : D → D → Store → R D} (ho : OpR X (binaryOp op) r) (hr : OpD F r g) (ha : PE X a (denE F f1)) (hb : PE X b (denE F f2)) : PE X (.BinOp a op b pos) (denE F (fBin g f1 f2)) :=
  (pe_op ho ha hb).imp fun _ _ _ h => den_bin hr h
end
end Bx

namespace Bx
open PySem L2

abbrev LIM : Nat := 1000000
theorem lim_le {n : Nat} (h : n ≤ LIM) : n ≤ sizeLine := Nat.le_trans h (by decide)
theorem lim_lt {n : Nat} (h : n < LIM) : n < sizeLine := Nat.lt_of_lt_of_le h (by decide)

/-! ### new objects -/
section
variable {F : Fm} {W W' : Wd} {H H' : Hp} {σ : St} {ρ : Rho} {p : Addr} {o : HO} {α β : Type} {rel : Wd → Hp → α → β → Prop}
theorem ORep.same {l : Nat} {a : Addr} : ∀ {x : O}, ORep W H l a x → Same H H' → ORep W H' l a x
  | .src s cs i, ⟨h1, c, h2, h3, h4, h5⟩, e => ⟨h1, c, h2, h3, e _ _ h4, e _ _ h5⟩
theorem WOk.same (ok : WOk W H) (e : Same H H') : WOk W H' := ⟨fun p h => by
  have := ok.dom p h
  cases q : H p with
  | none => exact absurd q this
  | some u => rw [e p u q]; simp, fun l x h => by
  obtain ⟨a, h1, h2⟩ := ok.obj l x h
  exact ⟨a, h1, h2.same e⟩, ok.bd, fun P q hT => by
  obtain ⟨a, ps, b, c, d⟩ := ok.tab P q hT
  exact ⟨a, ps, e _ _ b, c, fun pos cv hc => by
    obtain ⟨c', e1, e2, e3⟩ := d pos cv hc
    exact ⟨c', e1, e2, e _ _ e3⟩⟩⟩
theorem Gr.same (e : Same H H') : Gr W H W H' := ⟨fun _ _ => rfl, fun p o h _ => e p o h, fun p h => by
  cases q : H p with
  | none => exact absurd q h
  | some u => rw [e p u q]; simp, fun _ _ h => h, rfl⟩
theorem same_new (hp : H p = none) : Same H (upd H p o) := fun b u e => by rw [upd_ne (ne_of_none e hp)]; exact e
theorem WOk.clear (ok : WOk W H) (hp : H p = none) : W.M p = none := by
  cases q : W.M p with
  | none => rfl
  | some n => exact absurd hp (ok.dom p (by simp [q]))
theorem hid_new (ok : WOk W H) (hp : H p = none) : hid W.M (upd H p o) p = some o := hid_some.mpr ⟨ok.clear hp, upd_same⟩
/-- a new object: what follows it -/
theorem Post.new {a : α} {b : β} {Q : β → Hp → Prop} (ok : WOk W H) (hp : H p = none) (h : Post F rel W H σ (.ok a W.S) Q) (hr : rel W (upd H p o) a b) : Q b (upd H p o) :=
  h b _ W rfl (Gr.same (same_new hp)) (ok.same (same_new hp)) hr
theorem reps_new {ds : List D} {vs : List V} (hp : H p = none) (h : F.reps W H ds vs) : F.reps W (upd H p o) ds vs := reps_gr (Gr.same (same_new hp)).s h
theorem rep_new {ds : D} {vs : V} (hp : H p = none) (h : F.rep W H ds vs) : F.rep W (upd H p o) ds vs := rep_gr (Gr.same (same_new hp)).s h
theorem rep_tup {ds : List D} {vs : List V} (ok : WOk W H) (hp : H p = none) (h : F.reps W H ds vs) : F.rep W (upd H p (.tup vs)) (.tup ds) (.ref p) := .tup (hid_new ok hp) (reps_new hp h)
theorem rep_lst {ds : List D} {vs : List V} (ok : WOk W H) (hp : H p = none) (h : F.reps W H ds vs) : F.rep W (upd H p (.lst vs)) (.lst ds) (.ref p) := .lst (hid_new ok hp) (reps_new hp h)
end

/-! ### operators on data -/
def gAdd : D → D → Store → R D
  | .int i, .int j, S => .ok (.int (i + j)) S
  | .str i, .str j, S => if i.length + j.length ≤ LIM then .ok (.str (i ++ j)) S else .no
  | .lst a, .lst b, S => if a.length + b.length ≤ LIM then .ok (.lst (a ++ b)) S else .no
  | .tup a, .tup b, S => if a.length + b.length ≤ LIM then .ok (.tup (a ++ b)) S else .no
  | _, _, _ => .no
def gSub : D → D → Store → R D
  | .int i, .int j, S => .ok (.int (i - j)) S
  | _, _, _ => .no
def mulOk (i j : Int) : Bool := decide (-(2 ^ 64) < i ∧ i < 2 ^ 64) || decide (-(2 ^ 64) < j ∧ j < 2 ^ 64)
def gMul : D → D → Store → R D
  | .int i, .int j, S => if mulOk i j then .ok (.int (i * j)) S else .no
  | .lst a, .int k, S => if a.length * k.toNat ≤ LIM ∧ -1000000 ≤ k ∧ k ≤ 1000000 then .ok (.lst (List.replicate k.toNat a).flatten) S else .no
  | .tup a, .int k, S => if 2 ≤ k ∧ k ≤ 1000 ∧ a.length ≤ 1000 ∧ a ≠ [] then .ok (.tup (List.replicate k.toNat a).flatten) S else .no
  | _, _, _ => .no
def gFdiv : D → D → Store → R D
  | .int i, .int j, S => if 0 < j ∧ j < 2 ^ 256 then .ok (.int (i / j)) S else .no
  | _, _, _ => .no
def gMod : D → D → Store → R D
  | .int i, .int j, S => if 0 < j then .ok (.int (i % j)) S else .no
  | _, _, _ => .no
def gPow : D → D → Store → R D
  | .int i, .int j, S => if 0 ≤ j ∧ j ≤ 1000000 ∧ i.natAbs < 2 ^ 64 then .ok (.int (i ^ j.toNat)) S else .no
  | _, _, _ => .no
def gCmp (p : Int → Int → Bool) : D → D → Store → R D
  | .int i, .int j, S => .ok (.bl (p i j)) S
  | _, _, _ => .no
abbrev gLt := gCmp fun i j => decide (i < j)
abbrev gLe := gCmp fun i j => decide (i ≤ j)
abbrev gGt := gCmp fun i j => decide (j < i)
abbrev gGe := gCmp fun i j => decide (j ≤ i)
mutual
def toPy : D → Option PyData
  | .non => some .none
  | .bl b => some (.bool b)
  | .int i => some (.int i)
  | .str s => some (.str s)
  | .tup xs => (toPys xs).map .tuple
  | .lst xs => (toPys xs).map .list
  | _ => none
def toPys : List D → Option (List PyData)
  | [] => some []
  | d :: ds => match toPy d, toPys ds with
    | some x, some y => some (x :: y)
    | _, _ => none
end
def gEq (d e : D) (S : Store) : R D := match toPy d, toPy e with
  | some x, some y => if SeqAt.shaped x && SeqAt.shaped y then .ok (.bl (PyData.eqv x y)) S else .no
  | _, _ => .no
def gNe (d e : D) (S : Store) : R D := match toPy d, toPy e with
  | some x, some y => if SeqAt.shaped x && SeqAt.shaped y then .ok (.bl (!PyData.eqv x y)) S else .no
  | _, _ => .no
def isNon : D → Bool
  | .non => true
  | _ => false
def gIsN : D → D → Store → R D
  | d, .non, S => .ok (.bl (isNon d)) S
  | _, _, _ => .no
def gNotN : D → D → Store → R D
  | d, .non, S => .ok (.bl (!isNon d)) S
  | _, _, _ => .no
def flatV? : D → Option V
  | .non => some .non
  | .bl b => some (.bl b)
  | .int i => some (.int i)
  | .str s => some (.str s)
  | _ => none
def flats? : List D → Option (List V)
  | [] => some []
  | d :: ds => match flatV? d, flats? ds with
    | some x, some y => some (x :: y)
    | _, _ => none
def gIn (neg : Bool) : D → D → Store → R D := fun d e S => match e with
  | .lst xs | .tup xs => match flatV? d, flats? xs with
    | some x, some ys => .ok (.bl (if neg then !inV x ys else inV x ys)) S
    | _, _ => .no
  | .str z => match d with
    | .str y => (match y.cps.toList with
      | [c] => .ok (.bl (if neg then !decide (c ∈ z.cps.toList) else decide (c ∈ z.cps.toList))) S
      | _ => .no)
    | _ => .no
  | _ => .no

section
variable {F : Fm}
theorem opd_add : OpD F (fun x y H Q => (rI0 fun i j => .int (i + j)) x y H Q ∨ (fun x y H Q => ∃ i j, x = .str i ∧ y = .str j ∧ i.length + j.length ≤ sizeLine ∧ Q (.str (i ++ j)) H) x y H Q ∨ rCat x y H Q ∨ rCatA F.K x y H Q) gAdd := by
  intro W H σ d e x y Q ok hT rx ry h
  unfold gAdd at h
  split at h
  · cases rx; cases ry
    exact .inl ⟨_, _, rfl, rfl, h.val ok (.int _)⟩
  · split at h
    · rename_i hz
      cases rx; cases ry
      exact .inr (.inl ⟨_, _, rfl, rfl, lim_le hz, h.val ok (.str _)⟩)
    · exact h.elim
  · split at h
    · rename_i hz
      cases rx with
      | lst a1 b1 =>
        cases ry with
        | lst a2 b2 =>
          rw [b1.len, b2.len] at hz
          exact .inr (.inr (.inl ⟨_, _, _, _, rfl, rfl, hid_le _ _ a1, hid_le _ _ a2, lim_le hz, fun p hp => h.new ok hp (rep_lst ok hp (b1.append b2))⟩))
    · exact h.elim
  · split at h
    · rename_i hz
      cases rx with
      | tup a1 b1 =>
        cases ry with
        | tup a2 b2 =>
          rw [b1.len, b2.len] at hz
          refine .inr (.inr (.inr ⟨_, _, _, _, rfl, rfl, SqT.of (hid_le _ _ a1), SqT.of (hid_le _ _ a2), lim_le hz, fun e1 => ?_, fun _ e2 => ?_, fun _ _ p hp => h.new ok hp (rep_tup ok hp (b1.append b2))⟩))
          · subst e1; cases b1
            exact h.val ok (.tup a2 b2)
          · subst e2; cases b2
            rw [List.append_nil] at h
            exact h.val ok (.tup a1 b1)
    · exact h.elim
  · exact h.elim
theorem opd_sub : OpD F (rI0 fun i j => .int (i - j)) gSub := by
  intro W H σ d e x y Q ok hT rx ry h
  unfold gSub at h
  split at h
  · cases rx; cases ry
    exact ⟨_, _, rfl, rfl, h.val ok (.int _)⟩
  · exact h.elim
theorem Reps.rep {K : PySem.W.Frag} {mg : Str → Option Value} {μ : Nat → Option Addr} {H : Hp} {ds : List D} {vs : List V} (h : Reps K mg μ H ds vs) : ∀ n : Nat, Reps K mg μ H (List.replicate n ds).flatten (List.replicate n vs).flatten
  | 0 => .nil
  | n + 1 => by
    rw [List.replicate_succ, List.replicate_succ, List.flatten_cons, List.flatten_cons]
    exact h.append (Reps.rep h n)
theorem opd_mul : OpD F (fun x y H Q => (rI CMul fun i j => .int (i * j)) x y H Q ∨ rRep x y H Q ∨ rRepT F.K x y H Q) gMul := by
  intro W H σ d e x y Q ok hT rx ry h
  unfold gMul at h
  split at h
  · split at h
    · rename_i hm
      cases rx; cases ry
      refine .inl ⟨_, _, rfl, rfl, ?_, h.val ok (.int _)⟩
      unfold mulOk at hm
      simpa [CMul] using hm
    · exact h.elim
  · split at h
    · rename_i hz
      obtain ⟨h1, h2, h3⟩ := hz
      cases ry
      cases rx with
      | lst a b =>
        rw [b.len] at h1
        refine .inr (.inl ⟨_, _, _, rfl, rfl, hid_le _ _ a, by omega, by omega, lim_le h1, fun p hp => h.new ok hp (rep_lst ok hp (b.rep _))⟩)
    · exact h.elim
  · split at h
    · rename_i hz
      obtain ⟨h1, h2, h3, h4⟩ := hz
      cases ry
      cases rx with
      | tup a b =>
        rw [b.len] at h3
        refine .inr (.inr ⟨_, _, _, rfl, rfl, SqT.of (hid_le _ _ a), ?_, h1, h2, h3, fun p hp => h.new ok hp (rep_tup ok hp (b.rep _))⟩)
        rintro rfl
        cases b
        exact h4 rfl
    · exact h.elim
  · exact h.elim
theorem opd_fdiv : OpD F (rI CDivW fun i j => .int (i / j)) gFdiv := by
  intro W H σ d e x y Q ok hT rx ry h
  unfold gFdiv at h
  split at h
  · split at h
    · rename_i hz
      cases rx; cases ry
      exact ⟨_, _, rfl, rfl, wide_div (b := 256) hz.1 (by omega) (by decide) (by decide), h.val ok (.int _)⟩
    · exact h.elim
  · exact h.elim
theorem opd_mod : OpD F (rI (fun _ j => 0 < j) fun i j => .int (i % j)) gMod := by
  intro W H σ d e x y Q ok hT rx ry h
  unfold gMod at h
  split at h
  · split at h
    · rename_i hz
      cases rx; cases ry
      exact ⟨_, _, rfl, rfl, hz, h.val ok (.int _)⟩
    · exact h.elim
  · exact h.elim
theorem opd_pow : OpD F (rI CPow fun i j => .int (i ^ j.toNat)) gPow := by
  intro W H σ d e x y Q ok hT rx ry h
  unfold gPow at h
  split at h
  · split at h
    · rename_i hz
      cases rx; cases ry
      exact ⟨_, _, rfl, rfl, hz, h.val ok (.int _)⟩
    · exact h.elim
  · exact h.elim
theorem opd_cmp {p : Int → Int → Bool} : OpD F (rI0 fun i j => .bl (p i j)) (gCmp p) := by
  intro W H σ d e x y Q ok hT rx ry h
  unfold gCmp at h
  split at h
  · cases rx; cases ry
    exact ⟨_, _, rfl, rfl, h.val ok (.bl _)⟩
  · exact h.elim
mutual
theorem rep_dp {K : PySem.W.Frag} {mg : Str → Option Value} {μ : Nat → Option Addr} {M : Addr → Option Nat} {H : Hp} : ∀ (d : D) (v : V) (x : PyData), toPy d = some x → Rep K mg μ (hid M H) d v → Dp K H v x
  | .non, v, x, e, h => by
    cases h
    obtain rfl := Option.some.inj e
    exact .non
  | .bl b, v, x, e, h => by
    cases h
    obtain rfl := Option.some.inj e
    exact .bl _
  | .int b, v, x, e, h => by
    cases h
    obtain rfl := Option.some.inj e
    exact .int _
  | .str b, v, x, e, h => by
    cases h
    obtain rfl := Option.some.inj e
    exact .str _
  | .tup ds, v, x, e, h => by
    cases h with
    | tup h1 h2 =>
      obtain ⟨y, e1, e2⟩ := Option.map_eq_some_iff.mp (show (toPys ds).map PyData.tuple = some x from e)
      subst e2
      exact .tup (SqT.of (hid_le _ _ h1)) (reps_dp ds _ y e1 h2)
  | .lst ds, v, x, e, h => by
    cases h with
    | lst h1 h2 =>
      obtain ⟨y, e1, e2⟩ := Option.map_eq_some_iff.mp (show (toPys ds).map PyData.list = some x from e)
      subst e2
      exact .lst (SqL.of (hid_le _ _ h1)) (reps_dp ds _ y e1 h2)
  | .ins _ _ _, v, x, e, h => by cases e
  | .ref _, v, x, e, h => by cases e
  | .fn _, v, x, e, h => by cases e
  | .scr _, v, x, e, h => by cases e
theorem reps_dp {K : PySem.W.Frag} {mg : Str → Option Value} {μ : Nat → Option Addr} {M : Addr → Option Nat} {H : Hp} : ∀ (d : List D) (v : List V) (x : List PyData), toPys d = some x → Reps K mg μ (hid M H) d v → DpAll K H v x
  | [], v, x, e, h => by
    cases h
    obtain rfl := Option.some.inj e
    exact .nil
  | d :: ds, v, x, e, h => by
    cases h with
    | cons h1 h2 =>
      unfold toPys at e
      split at e
      · rename_i a b ea eb
        obtain rfl := Option.some.inj e
        exact .cons (rep_dp d _ _ ea h1) (reps_dp ds _ _ eb h2)
      · cases e
end
theorem opd_eq : OpD F (rEqD F.K) gEq := by
  intro W H σ d e x y Q ok hT rx ry h
  unfold gEq at h
  split at h
  · rename_i a b ea eb
    split at h
    · rename_i hs
      rw [Bool.and_eq_true] at hs
      exact ⟨a, b, rep_dp _ _ _ ea rx, rep_dp _ _ _ eb ry, hs.1, hs.2, h.val ok (.bl _)⟩
    · exact h.elim
  · exact h.elim
theorem opd_ne : OpD F (rNeD F.K) gNe := by
  intro W H σ d e x y Q ok hT rx ry h
  unfold gNe at h
  split at h
  · rename_i a b ea eb
    split at h
    · rename_i hs
      rw [Bool.and_eq_true] at hs
      exact ⟨a, b, rep_dp _ _ _ ea rx, rep_dp _ _ _ eb ry, hs.1, hs.2, h.val ok (.bl _)⟩
    · exact h.elim
  · exact h.elim
theorem rep_non {W : Wd} {H : Hp} {d : D} {v : V} (h : F.rep W H d v) : isNon d = decide (v = .non) := by
  cases h <;> simp [isNon]
theorem opd_isN : OpD F (fun x y H Q => y = .non ∧ Q (.bl (decide (x = .non))) H) gIsN := by
  intro W H σ d e x y Q ok hT rx ry h
  unfold gIsN at h
  split at h
  · cases ry
    rw [rep_non rx] at h
    exact ⟨rfl, h.val ok (.bl _)⟩
  · exact h.elim
theorem opd_notN : OpD F (fun x y H Q => y = .non ∧ Q (.bl (!decide (x = .non))) H) gNotN := by
  intro W H σ d e x y Q ok hT rx ry h
  unfold gNotN at h
  split at h
  · cases ry
    rw [rep_non rx] at h
    exact ⟨rfl, h.val ok (.bl _)⟩
  · exact h.elim
theorem flat_rep {W : Wd} {H : Hp} {d : D} {v x : V} (h : F.rep W H d v) (e : flatV? d = some x) : v = x ∧ flatV x = true := by
  cases h <;> simp_all [flatV?] <;> subst e <;> rfl
theorem flats_rep {W : Wd} {H : Hp} : ∀ {ds : List D} {vs xs : List V}, F.reps W H ds vs → flats? ds = some xs → vs = xs ∧ xs.all flatV = true
  | [], _, xs, h, e => by
    cases h
    obtain rfl := Option.some.inj e
    exact ⟨rfl, rfl⟩
  | d :: ds, _, xs, h, e => by
    cases h with
    | cons h1 h2 =>
      unfold flats? at e
      split at e
      · rename_i a b ea eb
        obtain rfl := Option.some.inj e
        obtain ⟨e1, f1⟩ := flat_rep h1 ea
        obtain ⟨e2, f2⟩ := flats_rep h2 eb
        subst e1 e2
        exact ⟨rfl, by simp [f1, f2]⟩
      · cases e
end
end Bx

namespace Bx
open PySem L2

/-! ### masks -/
def mask (p : Addr) (W : Wd) : Wd := { W with M := fun q => if q = p then some 0 else W.M q }
def unmask (p : Addr) (W : Wd) : Wd := { W with M := fun q => if q = p then none else W.M q }
section
variable {F : Fm} {W W' : Wd} {H H' : Hp} {σ : St} {ρ : Rho} {p : Addr} {o : HO} {α β : Type} {rel : Wd → Hp → α → β → Prop}
theorem mask_self : (mask p W).M p = some 0 := by simp [mask]
theorem mask_ne {q : Addr} (h : q ≠ p) : (mask p W).M q = W.M q := by simp [mask, h]
theorem unmask_self : (unmask p W).M p = none := by simp [unmask]
theorem unmask_ne {q : Addr} (h : q ≠ p) : (unmask p W).M q = W.M q := by simp [unmask, h]
theorem ORep.world {l : Nat} {a : Addr} : ∀ {x : O}, ORep W H l a x → (∀ q, W.M q = some (l + 2) → W'.M q = some (l + 2) ∧ H' q = H q) → ORep W' H' l a x
  | .src s cs i, ⟨h1, c, h2, h3, h4, h5⟩, e => ⟨(e a h1).1, c, (e c h2).1, h3, (e a h1).2.trans h4, (e c h2).2.trans h5⟩
theorem mask_new (ok : WOk W H) (hp : H p = none) : WOk (mask p W) (upd H p o) ∧ Gr W H (mask p W) (upd H p o) := by
  have nd : ∀ q, H q ≠ none → q ≠ p := fun q h e => h (e ▸ hp)
  refine ⟨⟨fun q h => ?_, fun l x h => ?_, ok.bd, fun P q hT => (ok.tab P q hT).world (fun p h1 => ?_) (fun p q h1 h2 => ⟨fun l => by rw [mask_ne (nd p (by rw [h2]; simp))]; exact h1 l, upd_ne (nd p (by rw [h2]; simp))⟩)⟩, ⟨fun q h => mask_ne (nd q h), fun q u h _ => by rw [upd_ne (nd q (by simp [h]))]; exact h, fun q h => by rw [upd_ne (nd q h)]; exact h, fun _ _ h => h, rfl⟩⟩
  · by_cases e : q = p
    · subst e; rw [upd_same]; simp
    · rw [upd_ne e]
      rw [mask_ne e] at h
      exact ok.dom q h
  · obtain ⟨a, h1, h2⟩ := ok.obj l x h
    refine ⟨a, h1, h2.world fun q hq => ?_⟩
    have hne : q ≠ p := nd q (ok.dom q (by simp [hq]))
    exact ⟨(mask_ne hne).trans hq, upd_ne hne⟩
  · have hne : p ≠ _ := nd p (ok.dom p (by simp [h1]))
    exact ⟨(mask_ne hne).trans h1, upd_ne hne⟩
theorem lst_code {H : Hp} {p : Addr} {xs : List V} (h : H p = some (.lst xs)) : ∀ c q, H p ≠ some (LamX.CodeO c q) := fun c q z => by rw [h] at z; cases z
theorem ins_code {H : Hp} {p C dx : Addr} {fs : List (Str × V)} (h : H p = some (.ins C dx fs)) : ∀ c q, H p ≠ some (LamX.CodeO c q) := fun c q z => by rw [h] at z; cases z
/-- a hidden object (a frame's own) changes -/
theorem WOk.own (ok : WOk W H) (hp : W.M p = some 0) (hx : ∀ c q, H p ≠ some (LamX.CodeO c q)) : WOk W (upd H p o) := by
  refine ⟨fun q h => ?_, fun l x h => ?_, ok.bd, fun P q hT => (ok.tab P q hT).world (fun a h1 => ⟨h1, upd_ne fun e => by rw [e, hp] at h1; simp at h1⟩) (fun a q h1 h2 => ⟨h1, upd_ne fun e => hx a q (by rw [← e]; exact h2)⟩)⟩
  · by_cases e : q = p
    · subst e; rw [upd_same]; simp
    · rw [upd_ne e]; exact ok.dom q h
  · obtain ⟨a, h1, h2⟩ := ok.obj l x h
    refine ⟨a, h1, h2.world fun q hq => ⟨hq, upd_ne fun e => ?_⟩⟩
    rw [e, hp] at hq; simp at hq
theorem hid_own (hp : W.M p ≠ none) : hid W.M (upd H p o) = hid W.M H := by
  funext a
  unfold hid
  split
  · rename_i h
    exact upd_ne fun e => hp (e ▸ h)
  · rfl
/-- a hidden object is let be seen -/
theorem unmask_ok (ok : WOk W H) (hp : W.M p = some 0) : WOk (unmask p W) H := by
  refine ⟨fun q h => ?_, fun l x h => ?_, ok.bd, fun P q hT => (ok.tab P q hT).world (fun a h1 => ⟨(unmask_ne fun e => by rw [e, hp] at h1; simp at h1).trans h1, rfl⟩) (fun a q h1 h2 => ⟨fun l => by
    by_cases e : a = p
    · rw [e, unmask_self]; simp
    · rw [unmask_ne e]; exact h1 l, rfl⟩)⟩
  · by_cases e : q = p
    · subst e; exact absurd unmask_self h
    · rw [unmask_ne e] at h; exact ok.dom q h
  · obtain ⟨a, h1, h2⟩ := ok.obj l x h
    refine ⟨a, h1, h2.world fun q hq => ⟨(unmask_ne fun e => ?_).trans hq, rfl⟩⟩
    rw [e, hp] at hq; simp at hq
theorem unmask_same (hp : W.M p = some 0) : Same (hid W.M H) (hid (unmask p W).M H) := fun a u h => by
  obtain ⟨h1, h2⟩ := hid_some.mp h
  refine hid_some.mpr ⟨?_, h2⟩
  by_cases e : a = p
  · subst e; exact unmask_self
  · exact (unmask_ne e).trans h1
theorem unmask_gr (hp : W'.M p = some 0) (hn : H p = none) (g : Gr W H W' H') : Gr W H (unmask p W') H' :=
  ⟨fun q h => (unmask_ne fun e => h (by rw [e]; exact hn)).trans (g.ms q h), g.ex, g.ds, g.mu, g.tt⟩
theorem unmask_grS (hp : W.M p = some 0) : GrS W H (unmask p W) H := ⟨fun q u n h => ⟨by
  by_cases e : q = p
  · subst e; exact unmask_self
  · exact (unmask_ne e).trans n, h⟩, fun _ _ h => h, rfl⟩
end

/-! ### an expression's value for a slot: seen by all, or a new list -/
def relX (F : Fm) (H0 : Hp) (W' : Wd) (H' : Hp) : Sl → V → Prop
  | .fz d, v => F.rep W' H' d v
  | .ow ds, v => ∃ p vs, v = .ref p ∧ H0 p = none ∧ W'.M p = some 0 ∧ H' p = some (.lst vs) ∧ F.reps W' H' ds vs
  | _, _ => False
/-- the reading whose relation knows the heap ahead -/
def denX (F : Fm) (f : Fn Sl) : TE := fun σ H Q => ∃ ρ W, IF F W H σ ρ ∧ Post F (relX F H) W H σ (f ρ W.S) Q
@[simp] def fMk (f : Fn D) : Fn Sl := fun ρ S => (f ρ S).bind fun d S1 => .ok (.fz d) S1
@[simp] def fOw (f : Fn (List D)) : Fn Sl := fun ρ S => (f ρ S).bind fun d S1 => .ok (.ow d) S1
def frz : Sl → Store → R D
  | .fz d, S => .ok d S
  | .ow ds, S => .ok (.lst ds) S
  | _, _ => .no
@[simp] def fFz (f : Fn Sl) : Fn D := fun ρ S => (f ρ S).bind frz
section
variable {X : Cx} {F : Fm} {a b c e : Expr} {es : List Expr} {f f1 f2 f3 : Fn D} {fs : Fn (List D)} {fx : Fn Sl} {pos : Pos}
theorem dx_E {e : Expr} (h : PE X e (denE F f)) : PE X e (denX F (fMk f)) := h.imp fun σ H Q ⟨ρ, W, I, q⟩ => ⟨ρ, W, I, q.bind fun d v H1 W1 g ok r q1 => q1.val ok r⟩
theorem de_X {e : Expr} (h : PE X e (denX F fx)) : PE X e (denE F (fFz fx)) := h.imp fun σ H Q ⟨ρ, W, I, q⟩ => ⟨ρ, W, I, by
  have q : Post F F.rep W H σ ((fx ρ W.S).bind frz) Q := q
  revert q
  cases fx ρ W.S with
  | ok sl S =>
    intro q v H1 W1 e g ok r
    cases sl with
    | fz d => exact q v H1 W1 e g ok r
    | ow ds =>
      obtain ⟨p, vs, rfl, hn, hm, hp, hr⟩ := r
      exact q (.ref p) H1 (unmask p W1) e (unmask_gr hm hn g) (unmask_ok ok hm) (.lst (hid_some.mpr ⟨unmask_self, hp⟩) (Reps.mono (fun _ _ h => h) (unmask_same hm) _ _ hr))
    | un => exact r.elim
    | nw _ _ _ => exact r.elim
    | ex _ => exact r.elim
  | er x S => exact fun q => q
  | no => exact fun q => q⟩

/-! ### arguments -/
@[simp] def fNil : Fn (List D) := fun _ S => .ok [] S
@[simp] def fCons (f : Fn D) (fs : Fn (List D)) : Fn (List D) := fun ρ S => (f ρ S).bind fun d S1 => (fs ρ S1).bind fun ds S2 => .ok (d :: ds) S2
theorem da_nil : PA X [] (denA F fNil) := pa_nil.imp fun σ H Q ⟨ρ, W, I, q⟩ => q.val I.ok .nil
theorem da_cons (ha : PE X e (denE F f)) (hr : PA X es (denA F fs)) (hs : starEach (e :: es) X.env = (false, eval e X.env) :: starEach es X.env := by rfl) : PA X (e :: es) (denA F (fCons f fs)) :=
  (pa_cons ha hr hs).imp fun σ H Q ⟨ρ, W, I, q⟩ => ⟨ρ, W, I, q.bind fun d v H1 W1 g ok r q1 => ⟨ρ, W1, I.go g ok, q1.bind fun ds vs H2 W2 g2 ok2 r2 q2 => q2.val ok2 (.cons (rep_gr g2.s r) r2)⟩⟩
@[simp] def fTup (fs : Fn (List D)) : Fn D := fun ρ S => (fs ρ S).bind fun ds S1 => if ds.length ≤ LIM then .ok (.tup ds) S1 else .no
@[simp] def fLst (fs : Fn (List D)) : Fn Sl := fun ρ S => (fs ρ S).bind fun ds S1 => if ds.length ≤ LIM then .ok (.ow ds) S1 else .no
theorem de_tup {k} (h : PA X es (denA F fs)) : PE X (.Tuple es k pos) (denE F (fTup fs)) := (pe_tup h).imp fun σ H Q ⟨ρ, W, I, q⟩ => ⟨ρ, W, I, q.bind fun ds vs H1 W1 g ok r q1 => by
  split at q1
  · rename_i hz
    rw [r.len] at hz
    exact ⟨lim_le hz, fun p hp => q1.new ok hp (rep_tup ok hp r)⟩
  · exact q1.elim⟩
/-- a new list: what follows it -/
theorem Post.newX {W0 W : Wd} {H0 H : Hp} {σ : St} {Q : VK} {ds : List D} {vs : List V} {p : Addr} (g : Gr W0 H0 W H) (ok : WOk W H) (hp : H p = none) (h : Post F (relX F H0) W H σ (.ok (.ow ds) W.S) Q) (hr : F.reps W H ds vs) : Q (.ref p) (upd H p (.lst vs)) := by
  obtain ⟨ok', g'⟩ := mask_new (o := .lst vs) ok hp
  refine h _ _ (mask p W) rfl g' ok' ⟨p, vs, rfl, ?_, mask_self, upd_same, reps_gr g'.s hr⟩
  cases e : H0 p with
  | none => rfl
  | some u => exact absurd hp (g.ds p (by simp [e]))
theorem dx_lst (h : PA X es (denA F fs)) : PE X (.List es pos) (denX F (fLst fs)) := (pe_lst h).imp fun σ H Q ⟨ρ, W, I, q⟩ => ⟨ρ, W, I, q.bind fun ds vs H1 W1 g ok r q1 => by
  split at q1
  · rename_i hz
    rw [r.len] at hz
    exact ⟨lim_le hz, fun p hp => Post.newX g ok hp q1 r⟩
  · exact q1.elim⟩
/-- [..] * n, a list for a slot -/
@[simp] def fRepL (f1 f2 : Fn D) : Fn Sl := fun ρ S => (fBin gMul f1 f2 ρ S).bind fun d S1 => match d with
  | .lst ds => .ok (.ow ds) S1
  | _ => .no

/-! ### operators -/
theorem de_add (ha : PE X a (denE F f1)) (hb : PE X b (denE F f2)) (hK : F.K = X.K := by rfl) : PE X (.BinOp a .Add b pos) (denE F (fBin gAdd f1 f2)) := de_op (op_add.or (op_add_str.or (op_cat.or op_catA))) (by have := @opd_add F; rw [hK] at this; exact this) ha hb
theorem de_sub (ha : PE X a (denE F f1)) (hb : PE X b (denE F f2)) : PE X (.BinOp a .Sub b pos) (denE F (fBin gSub f1 f2)) := de_op op_sub opd_sub ha hb
theorem de_mul (ha : PE X a (denE F f1)) (hb : PE X b (denE F f2)) (hK : F.K = X.K := by rfl) : PE X (.BinOp a .Mult b pos) (denE F (fBin gMul f1 f2)) := de_op (op_mul.or (op_rep.or op_repT)) (by have := @opd_mul F; rw [hK] at this; exact this) ha hb
theorem de_fdiv (ha : PE X a (denE F f1)) (hb : PE X b (denE F f2)) : PE X (.BinOp a .FloorDiv b pos) (denE F (fBin gFdiv f1 f2)) := de_op op_fdivW opd_fdiv ha hb
theorem de_mod (ha : PE X a (denE F f1)) (hb : PE X b (denE F f2)) : PE X (.BinOp a .Mod b pos) (denE F (fBin gMod f1 f2)) := de_op op_mod opd_mod ha hb
theorem de_pow (ha : PE X a (denE F f1)) (hb : PE X b (denE F f2)) : PE X (.BinOp a .Pow b pos) (denE F (fBin gPow f1 f2)) := de_op op_pow opd_pow ha hb
def gNeg : D → Store → R D
  | .int i, S => .ok (.int (-i)) S
  | _, _ => .no
theorem de_neg (ha : PE X a (denE F f)) : PE X (.UnaryOp .USub a pos) (denE F (fUn gNeg f)) := (pe_un un_neg ha).imp fun σ H Q ⟨ρ, W, I, q⟩ => ⟨ρ, W, I, q.bind fun d v H1 W1 g ok r q1 => by
  unfold gNeg at q1
  split at q1
  · cases r
    exact ⟨_, rfl, q1.val ok (.int _)⟩
  · exact q1.elim⟩
theorem de_cmp {op : CmpOp} {r : R2} {g : D → D → Store → R D} (ho : OpR X (compareOp op) r) (hr : OpD F r g) (ha : PE X a (denE F f1)) (hb : PE X b (denE F f2)) (hm : behindInMarks op b = false) : PE X (.Compare a [op] [b] pos) (denE F (fBin g f1 f2)) :=
  (pe_cmpR ho ha hb hm).imp fun _ _ _ h => den_bin hr h
theorem de_lt (ha : PE X a (denE F f1)) (hb : PE X b (denE F f2)) : PE X (.Compare a [.Lt] [b] pos) (denE F (fBin gLt f1 f2)) := de_cmp op_lt opd_cmp ha hb (nomark _)
theorem de_le (ha : PE X a (denE F f1)) (hb : PE X b (denE F f2)) : PE X (.Compare a [.LtE] [b] pos) (denE F (fBin gLe f1 f2)) := de_cmp op_le opd_cmp ha hb (nomark _)
theorem de_gt (ha : PE X a (denE F f1)) (hb : PE X b (denE F f2)) : PE X (.Compare a [.Gt] [b] pos) (denE F (fBin gGt f1 f2)) := de_cmp op_gt opd_cmp ha hb (nomark _)
theorem de_ge (ha : PE X a (denE F f1)) (hb : PE X b (denE F f2)) : PE X (.Compare a [.GtE] [b] pos) (denE F (fBin gGe f1 f2)) := de_cmp op_ge opd_cmp ha hb (nomark _)
theorem de_eq (hu : X.A.units + 64 < cLine) (ha : PE X a (denE F f1)) (hb : PE X b (denE F f2)) (hK : F.K = X.K := by rfl) : PE X (.Compare a [.Eq] [b] pos) (denE F (fBin gEq f1 f2)) := de_cmp (op_eqD hu) (by rw [← hK]; exact opd_eq) ha hb (nomark _)
theorem de_ne (hu : X.A.units + 64 < cLine) (ha : PE X a (denE F f1)) (hb : PE X b (denE F f2)) (hK : F.K = X.K := by rfl) : PE X (.Compare a [.NotEq] [b] pos) (denE F (fBin gNe f1 f2)) := de_cmp (op_neD hu) (by rw [← hK]; exact opd_ne) ha hb (nomark _)
theorem de_isN (ha : PE X a (denE F f1)) (hb : PE X b (denE F f2)) : PE X (.Compare a [.Is] [b] pos) (denE F (fBin gIsN f1 f2)) := de_cmp op_isN opd_isN ha hb (nomark _)
theorem de_notN (ha : PE X a (denE F f1)) (hb : PE X b (denE F f2)) : PE X (.Compare a [.IsNot] [b] pos) (denE F (fBin gNotN f1 f2)) := de_cmp op_notN opd_notN ha hb (nomark _)
theorem str_one {y : Str} {c : Nat} (h : y.cps.toList = [c]) : y = ⟨#[c]⟩ := by
  obtain ⟨a⟩ := y
  congr 1
  apply Array.toList_inj.mp
  exact h
theorem opd_in : OpD F (fun x y H Q => rIn F.K false x y H Q ∨ rInS x y H Q) (gIn false) := by
  intro W H σ d e x y Q ok hT rx ry h
  unfold gIn at h
  split at h
  · split at h
    · rename_i ea eb
      cases ry with
      | lst a b =>
        obtain ⟨e1, f1⟩ := flat_rep rx ea
        obtain ⟨e2, f2⟩ := flats_rep b eb
        subst e1 e2
        exact .inl ⟨_, _, rfl, .inl (SqL.of (hid_le _ _ a)), f1, f2, h.val ok (.bl _)⟩
    · exact h.elim
  · split at h
    · rename_i ea eb
      cases ry with
      | tup a b =>
        obtain ⟨e1, f1⟩ := flat_rep rx ea
        obtain ⟨e2, f2⟩ := flats_rep b eb
        subst e1 e2
        exact .inl ⟨_, _, rfl, .inr (SqT.of (hid_le _ _ a)), f1, f2, h.val ok (.bl _)⟩
    · exact h.elim
  · split at h
    · split at h
      · rename_i y _ c hc
        cases rx; cases ry
        obtain rfl : y = ⟨#[c]⟩ := str_one hc
        exact .inr ⟨_, _, rfl, rfl, h.val ok (.bl _)⟩
      · exact h.elim
    · exact h.elim
  · exact h.elim
theorem opd_notIn : OpD F (fun x y H Q => rIn F.K true x y H Q ∨ rNotInS x y H Q) (gIn true) := by
  intro W H σ d e x y Q ok hT rx ry h
  unfold gIn at h
  split at h
  · split at h
    · rename_i ea eb
      cases ry with
      | lst a b =>
        obtain ⟨e1, f1⟩ := flat_rep rx ea
        obtain ⟨e2, f2⟩ := flats_rep b eb
        subst e1 e2
        exact .inl ⟨_, _, rfl, .inl (SqL.of (hid_le _ _ a)), f1, f2, h.val ok (.bl _)⟩
    · exact h.elim
  · split at h
    · rename_i ea eb
      cases ry with
      | tup a b =>
        obtain ⟨e1, f1⟩ := flat_rep rx ea
        obtain ⟨e2, f2⟩ := flats_rep b eb
        subst e1 e2
        exact .inl ⟨_, _, rfl, .inr (SqT.of (hid_le _ _ a)), f1, f2, h.val ok (.bl _)⟩
    · exact h.elim
  · split at h
    · split at h
      · rename_i y _ c hc
        cases rx; cases ry
        obtain rfl : y = ⟨#[c]⟩ := str_one hc
        exact .inr ⟨_, _, rfl, rfl, h.val ok (.bl _)⟩
      · exact h.elim
    · exact h.elim
  · exact h.elim
theorem de_in (ha : PE X a (denE F f1)) (hb : PE X b (denE F f2)) (hm : behindInMarks .In b = false := by rfl) (hK : F.K = X.K := by rfl) : PE X (.Compare a [.In] [b] pos) (denE F (fBin (gIn false) f1 f2)) := de_cmp (op_in_seq.or op_inS) (by rw [← hK]; exact opd_in) ha hb hm
theorem de_notIn (ha : PE X a (denE F f1)) (hb : PE X b (denE F f2)) (hm : behindInMarks .NotIn b = false := by rfl) (hK : F.K = X.K := by rfl) : PE X (.Compare a [.NotIn] [b] pos) (denE F (fBin (gIn true) f1 f2)) := de_cmp (op_notIn_seq.or op_notInS) (by rw [← hK]; exact opd_notIn) ha hb hm
@[simp] def fChain (g1 g2 : D → D → Store → R D) (f1 f2 f3 : Fn D) : Fn D := fun ρ S => (f1 ρ S).bind fun a S1 => (f2 ρ S1).bind fun b S2 => (g1 a b S2).bind fun z S3 => match z with
  | .bl true => (f3 ρ S3).bind fun c S4 => g2 b c S4
  | .bl false => .ok (.bl false) S3
  | _ => .no
theorem den_chain {r r' : R2} {g1 g2 : D → D → Store → R D} (hr : OpD F r g1) (hr' : OpD F r' g2) : ∀ σ H Q, denE F (fChain g1 g2 f1 f2 f3) σ H Q → tChain r r' (denE F f1) (denE F f2) (denE F f3) σ H Q := fun σ H Q ⟨ρ, W, I, q⟩ =>
  ⟨ρ, W, I, q.bind fun d x H1 W1 g ok r1 q1 => ⟨ρ, W1, I.go g ok, q1.bind fun e y H2 W2 g2 ok2 r2 q2 => by
    have I2 := (I.go g ok).go g2 ok2
    refine hr W2 H2 σ d e x y _ ok2 I2.env.tk (rep_gr g2.s r1) r2 (q2.bind fun z u H3 W3 g3 ok3 r3 q3 => ?_)
    split at q3
    · cases r3
      refine ⟨true, rfl, ?_⟩
      rw [if_pos rfl]
      exact ⟨ρ, W3, I2.go g3 ok3, q3.bind fun k w H4 W4 g4 ok4 r4 q4 => hr' W4 H4 σ e k y w Q ok4 ((I2.go g3 ok3).go g4 ok4).env.tk (rep_gr (g3.trans g4).s r2) r4 q4⟩
    · cases r3
      refine ⟨false, rfl, ?_⟩
      rw [if_neg Bool.false_ne_true]
      exact q3.val ok3 (.bl _)
    · exact q3.elim⟩⟩

theorem de_chain {op op' : CmpOp} {r r' : R2} {g1 g2 : D → D → Store → R D} (ho : OpR X (compareOp op) r) (ho' : OpR X (compareOp op') r') (hr : OpD F r g1) (hr' : OpD F r' g2) (ha : PE X a (denE F f1)) (hb : PE X b (denE F f2)) (hc : PE X c (denE F f3))
    (hm : lastMarks [op, op'] [b, c] = false := by with_unfolding_all rfl) : PE X (.Compare a [op, op'] [b, c] pos) (denE F (fChain g1 g2 f1 f2 f3)) := (pe_chain ho ho' ha hb hc hm).imp (den_chain hr hr')

/-! comparisons as tests -/
def gBl : D → Store → R Bool
  | .bl k, S => .ok k S
  | _, _ => .no
theorem dt_of {e : Expr} {te : TE} (h : PT X e (tTest te)) (k : ∀ σ H Q, denE F f σ H Q → te σ H Q) : PT X e (denT F (fUn gBl f)) := h.imp fun σ H Q ⟨ρ, W, I, q⟩ => k σ H _ ⟨ρ, W, I, q.bind fun d v H1 W1 g ok r q1 => by
  unfold gBl at q1
  split at q1
  · cases r
    exact ⟨_, rfl, q1.val ok rfl⟩
  · exact q1.elim⟩
theorem dt_cmp {op : CmpOp} {r : R2} {g : D → D → Store → R D} (ho : OpR X (compareOp op) r) (hr : OpD F r g) (ha : PE X a (denE F f1)) (hb : PE X b (denE F f2)) (hm : behindInMarks op b = false) : PT X (.Compare a [op] [b] pos) (denT F (fUn gBl (fBin g f1 f2))) :=
  dt_of (pt_cmpR ho ha hb hm) fun _ _ _ h => den_bin hr h
theorem dt_lt (ha : PE X a (denE F f1)) (hb : PE X b (denE F f2)) : PT X (.Compare a [.Lt] [b] pos) (denT F (fUn gBl (fBin gLt f1 f2))) := dt_cmp op_lt opd_cmp ha hb (nomark _)
theorem dt_le (ha : PE X a (denE F f1)) (hb : PE X b (denE F f2)) : PT X (.Compare a [.LtE] [b] pos) (denT F (fUn gBl (fBin gLe f1 f2))) := dt_cmp op_le opd_cmp ha hb (nomark _)
theorem dt_gt (ha : PE X a (denE F f1)) (hb : PE X b (denE F f2)) : PT X (.Compare a [.Gt] [b] pos) (denT F (fUn gBl (fBin gGt f1 f2))) := dt_cmp op_gt opd_cmp ha hb (nomark _)
theorem dt_ge (ha : PE X a (denE F f1)) (hb : PE X b (denE F f2)) : PT X (.Compare a [.GtE] [b] pos) (denT F (fUn gBl (fBin gGe f1 f2))) := dt_cmp op_ge opd_cmp ha hb (nomark _)
theorem dt_eq (hu : X.A.units + 64 < cLine) (ha : PE X a (denE F f1)) (hb : PE X b (denE F f2)) (hK : F.K = X.K := by rfl) : PT X (.Compare a [.Eq] [b] pos) (denT F (fUn gBl (fBin gEq f1 f2))) := dt_cmp (op_eqD hu) (by rw [← hK]; exact opd_eq) ha hb (nomark _)
theorem dt_ne (hu : X.A.units + 64 < cLine) (ha : PE X a (denE F f1)) (hb : PE X b (denE F f2)) (hK : F.K = X.K := by rfl) : PT X (.Compare a [.NotEq] [b] pos) (denT F (fUn gBl (fBin gNe f1 f2))) := dt_cmp (op_neD hu) (by rw [← hK]; exact opd_ne) ha hb (nomark _)
theorem dt_isN (ha : PE X a (denE F f1)) (hb : PE X b (denE F f2)) : PT X (.Compare a [.Is] [b] pos) (denT F (fUn gBl (fBin gIsN f1 f2))) := dt_cmp op_isN opd_isN ha hb (nomark _)
theorem dt_notN (ha : PE X a (denE F f1)) (hb : PE X b (denE F f2)) : PT X (.Compare a [.IsNot] [b] pos) (denT F (fUn gBl (fBin gNotN f1 f2))) := dt_cmp op_notN opd_notN ha hb (nomark _)
theorem dt_in (ha : PE X a (denE F f1)) (hb : PE X b (denE F f2)) (hm : behindInMarks .In b = false := by rfl) (hK : F.K = X.K := by rfl) : PT X (.Compare a [.In] [b] pos) (denT F (fUn gBl (fBin (gIn false) f1 f2))) := dt_cmp (op_in_seq.or op_inS) (by rw [← hK]; exact opd_in) ha hb hm
theorem dt_notIn (ha : PE X a (denE F f1)) (hb : PE X b (denE F f2)) (hm : behindInMarks .NotIn b = false := by rfl) (hK : F.K = X.K := by rfl) : PT X (.Compare a [.NotIn] [b] pos) (denT F (fUn gBl (fBin (gIn true) f1 f2))) := dt_cmp (op_notIn_seq.or op_notInS) (by rw [← hK]; exact opd_notIn) ha hb hm
theorem dt_chain {op op' : CmpOp} {r r' : R2} {g1 g2 : D → D → Store → R D} (ho : OpR X (compareOp op) r) (ho' : OpR X (compareOp op') r') (hr : OpD F r g1) (hr' : OpD F r' g2) (ha : PE X a (denE F f1)) (hb : PE X b (denE F f2)) (hc : PE X c (denE F f3))
    (hm : lastMarks [op, op'] [b, c] = false := by with_unfolding_all rfl) : PT X (.Compare a [op, op'] [b, c] pos) (denT F (fUn gBl (fChain g1 g2 f1 f2 f3))) := dt_of (pt_chain ho ho' ha hb hc hm) (den_chain hr hr')

/-! ### tests, truth -/
def tru? : D → Option Bool
  | .non => some false
  | .bl b => some b
  | .int i => some (i != 0)
  | .str s => if s.length ≤ LIM then some ((s.length : Int) != 0) else none
  | .lst xs => some (!xs.isEmpty)
  | .tup xs => some (!xs.isEmpty)
  | _ => none
theorem tru_rep {W : Wd} {H : Hp} {d : D} {v : V} {k : Bool} (h : F.rep W H d v) (e : tru? d = some k) : TruV F.K v H k := by
  cases h with
  | non => exact (Option.some.inj e).symm
  | bl b => exact (Option.some.inj e).symm
  | int b => exact (Option.some.inj e).symm
  | str s =>
    have e' : (if s.length ≤ LIM then some ((s.length : Int) != 0) else none) = some k := e
    split at e'
    · rename_i hz
      exact ⟨lim_le hz, (Option.some.inj e').symm⟩
    · cases e'
  | tup h1 h2 =>
    obtain rfl := Option.some.inj e
    refine .inr (.inl ⟨_, SqT.of (hid_le _ _ h1), ?_⟩)
    cases h2 <;> rfl
  | lst h1 h2 =>
    obtain rfl := Option.some.inj e
    refine .inl ⟨_, SqL.of (hid_le _ _ h1), ?_⟩
    cases h2 <;> rfl
  | ins _ _ _ _ => cases e
  | ref _ => cases e
  | fn _ => cases e
  | scr _ => cases e
def gTru (d : D) (S : Store) : R Bool := match tru? d with
  | some k => .ok k S
  | none => .no
/-- a value's truth as a test -/
theorem dt_tru (ha : PE X a (denE F f)) (he : ∀ whole, isTrue a X.env whole = (do let v ← whole; standAt a.pos; holding [v] (truthy v)) := by intro _; rfl) (hK : F.K = X.K := by rfl) : PT X a (denT F (fUn gTru f)) :=
  (pt_truth ha he).imp fun σ H Q ⟨ρ, W, I, q⟩ => ⟨ρ, W, I, q.bind fun d v H1 W1 g ok r q1 => by
    unfold gTru at q1
    split at q1
    · rename_i k hk
      have := tru_rep r hk
      rw [hK] at this
      exact ⟨k, this, q1.val ok rfl⟩
    · exact q1.elim⟩
@[simp] def fNotT (f : Fn Bool) : Fn Bool := fun ρ S => (f ρ S).bind fun b S1 => .ok (!b) S1
@[simp] def fAndT (f g : Fn Bool) : Fn Bool := fun ρ S => (f ρ S).bind fun b S1 => if b = true then g ρ S1 else .ok false S1
@[simp] def fOrT (f g : Fn Bool) : Fn Bool := fun ρ S => (f ρ S).bind fun b S1 => if b = true then .ok true S1 else g ρ S1
variable {t1 t2 : Fn Bool} {rest : List Expr}
theorem dt_not (ha : PT X a (denT F t1)) : PT X (.UnaryOp .Not a pos) (denT F (fNotT t1)) := (pt_not ha).imp fun σ H Q ⟨ρ, W, I, q⟩ => ⟨ρ, W, I, q.bind fun d v H1 W1 g ok r q1 => by
  subst r; exact q1.val ok rfl⟩
theorem _root_.L2.PW.imp {e : Expr} {t t' : TT} (h : PW X e t) (k : ∀ σ H Q, t' σ H Q → t σ H Q) : PW X e t' := ⟨fun whole pins s σ H Q I q => h.run whole pins s σ H Q I (k σ H Q q)⟩
theorem dw_and1 (ha : PT X a (denT F t1)) : PW X (.BoolOp .And [a] pos) (denT F t1) := pw_and1 ha
theorem dw_or1 (ha : PT X a (denT F t1)) : PW X (.BoolOp .Or [a] pos) (denT F t1) := pw_or1 ha
theorem dw_and (ha : PT X a (denT F t1)) (hb : PW X (.BoolOp .And (b :: rest) pos) (denT F t2)) : PW X (.BoolOp .And (a :: b :: rest) pos) (denT F (fAndT t1 t2)) := (pw_and ha hb).imp fun σ H Q ⟨ρ, W, I, q⟩ =>
  ⟨ρ, W, I, q.bind fun d v H1 W1 g ok r q1 => by
    subst r
    cases d with
    | true =>
      rw [if_pos rfl]
      exact ⟨ρ, W1, I.go g ok, q1⟩
    | false =>
      rw [if_neg Bool.false_ne_true]
      exact q1.val ok rfl⟩
theorem dw_or (ha : PT X a (denT F t1)) (hb : PW X (.BoolOp .Or (b :: rest) pos) (denT F t2)) : PW X (.BoolOp .Or (a :: b :: rest) pos) (denT F (fOrT t1 t2)) := (pw_or ha hb).imp fun σ H Q ⟨ρ, W, I, q⟩ =>
  ⟨ρ, W, I, q.bind fun d v H1 W1 g ok r q1 => by
    subst r
    cases d with
    | true =>
      rw [if_pos rfl]
      exact q1.val ok rfl
    | false =>
      rw [if_neg Bool.false_ne_true]
      exact ⟨ρ, W1, I.go g ok, q1⟩⟩
@[simp] def fIfE (t : Fn Bool) (f1 f2 : Fn D) : Fn D := fun ρ S => (t ρ S).bind fun b S1 => if b = true then f1 ρ S1 else f2 ρ S1
theorem de_if (hc : PT X c (denT F t1)) (ha : PE X a (denE F f1)) (hb : PE X b (denE F f2)) : PE X (.IfExp c a b pos) (denE F (fIfE t1 f1 f2)) := (pe_ifExp hc ha hb).imp fun σ H Q ⟨ρ, W, I, q⟩ =>
  ⟨ρ, W, I, q.bind fun d v H1 W1 g ok r q1 => by
    subst r
    cases d with
    | true =>
      rw [if_pos rfl]
      exact ⟨ρ, W1, I.go g ok, q1⟩
    | false =>
      rw [if_neg Bool.false_ne_true]
      exact ⟨ρ, W1, I.go g ok, q1⟩⟩
/-- x and y, x or y, not x as values -/
@[simp] def fAndV (f g : Fn D) : Fn D := fun ρ S => (f ρ S).bind fun d S1 => match tru? d with
  | some true => g ρ S1
  | some false => .ok d S1
  | none => .no
@[simp] def fOrV (f g : Fn D) : Fn D := fun ρ S => (f ρ S).bind fun d S1 => match tru? d with
  | some true => .ok d S1
  | some false => g ρ S1
  | none => .no
def gNot (d : D) (S : Store) : R D := match tru? d with
  | some k => .ok (.bl (!k)) S
  | none => .no
theorem de_one {op} (h : PE X a (denE F f)) : PE X (.BoolOp op [a] pos) (denE F f) := pe_one h
theorem de_and (ha : PE X a (denE F f1)) (hb : PE X (.BoolOp .And (b :: rest) pos) (denE F f2)) (hK : F.K = X.K := by rfl) : PE X (.BoolOp .And (a :: b :: rest) pos) (denE F (fAndV f1 f2)) := (pe_andT ha hb).imp fun σ H Q ⟨ρ, W, I, q⟩ =>
  ⟨ρ, W, I, q.bind fun d v H1 W1 g ok r q1 => by
    split at q1
    · rename_i hk
      have := tru_rep r hk
      rw [hK] at this
      exact ⟨true, this, by rw [if_pos rfl]; exact ⟨ρ, W1, I.go g ok, q1⟩⟩
    · rename_i hk
      have := tru_rep r hk
      rw [hK] at this
      exact ⟨false, this, by rw [if_neg Bool.false_ne_true]; exact q1.val ok r⟩
    · exact q1.elim⟩
theorem de_or (ha : PE X a (denE F f1)) (hb : PE X (.BoolOp .Or (b :: rest) pos) (denE F f2)) (hK : F.K = X.K := by rfl) : PE X (.BoolOp .Or (a :: b :: rest) pos) (denE F (fOrV f1 f2)) := (pe_orT ha hb).imp fun σ H Q ⟨ρ, W, I, q⟩ =>
  ⟨ρ, W, I, q.bind fun d v H1 W1 g ok r q1 => by
    split at q1
    · rename_i hk
      have := tru_rep r hk
      rw [hK] at this
      exact ⟨true, this, by rw [if_pos rfl]; exact q1.val ok r⟩
    · rename_i hk
      have := tru_rep r hk
      rw [hK] at this
      exact ⟨false, this, by rw [if_neg Bool.false_ne_true]; exact ⟨ρ, W1, I.go g ok, q1⟩⟩
    · exact q1.elim⟩
theorem de_not (ha : PE X a (denE F f)) (hK : F.K = X.K := by rfl) : PE X (.UnaryOp .Not a pos) (denE F (fUn gNot f)) := (pe_notT ha).imp fun σ H Q ⟨ρ, W, I, q⟩ =>
  ⟨ρ, W, I, q.bind fun d v H1 W1 g ok r q1 => by
    unfold gNot at q1
    split at q1
    · rename_i k hk
      have := tru_rep r hk
      rw [hK] at this
      exact ⟨k, this, q1.val ok (.bl _)⟩
    · exact q1.elim⟩

/-! ### subscripts, slices -/
def gIx : D → D → Store → R D
  | .lst xs, .int i, S => match atI xs i with
    | some d => .ok d S
    | none => .no
  | .tup xs, .int i, S => match atI xs i with
    | some d => .ok d S
    | none => .no
  | .str z, .int i, S => if z.length ≤ LIM then (match atI z.cps.toList i with
    | some c => .ok (.str ⟨#[c]⟩) S
    | none => .no) else .no
  | _, _, _ => .no
theorem atI_rep {W : Wd} {H : Hp} {ds : List D} {vs : List V} {i : Int} {d : D} (h : F.reps W H ds vs) (e : atI ds i = some d) : ∃ v, atI vs i = some v ∧ F.rep W H d v := by
  unfold atI at *
  rw [h.len] at e
  cases q : ixN vs.length i with
  | none => rw [q] at e; cases e
  | some j =>
    rw [q] at e
    obtain ⟨v, a, b⟩ := h.get (i := j) e
    exact ⟨v, a, b⟩
theorem opd_ix : OpD F (rIx F.K) gIx := by
  intro W H σ d e x y Q ok hT rx ry h
  unfold gIx at h
  split at h
  · split at h
    · rename_i hd
      cases ry
      cases rx with
      | lst a b =>
        obtain ⟨v, e1, r1⟩ := atI_rep b hd
        exact .inl ⟨_, _, _, v, rfl, rfl, SqL.of (hid_le _ _ a), e1, h.val ok r1⟩
    · exact h.elim
  · split at h
    · rename_i hd
      cases ry
      cases rx with
      | tup a b =>
        obtain ⟨v, e1, r1⟩ := atI_rep b hd
        exact .inr (.inl ⟨_, _, _, v, rfl, rfl, SqT.of (hid_le _ _ a), e1, h.val ok r1⟩)
    · exact h.elim
  · split at h
    · rename_i hz
      split at h
      · rename_i hd
        cases rx; cases ry
        exact .inr (.inr ⟨_, _, _, rfl, rfl, lim_le hz, hd, h.val ok (.str _)⟩)
      · exact h.elim
    · exact h.elim
  · exact h.elim
theorem de_ix (ha : PE X a (denE F f1)) (hb : PE X b (denE F f2)) (hs : PlainIx b := by exact fun _ _ => rfl) (hK : F.K = X.K := by rfl) : PE X (.Subscript a b pos) (denE F (fBin gIx f1 f2)) := (pe_ix ix_seq ha hb hs).imp fun _ _ _ h => den_bin (by rw [← hK]; exact opd_ix) h
def cutD (xs : List D) (lo hi : Option Int) : List D := (xs.drop (HT.sIx xs.length 0 lo)).take (HT.sIx xs.length xs.length hi - HT.sIx xs.length 0 lo)
theorem cut_rep {W : Wd} {H : Hp} {ds : List D} {vs : List V} {lo hi : Option Int} (h : F.reps W H ds vs) : F.reps W H (cutD ds lo hi) (cutV vs lo hi) := by
  unfold cutD cutV
  rw [h.len]
  exact (h.drop _).take _
abbrev denO (F : Fm) (f : Fn (Option Int)) : TO := den F relE f
@[simp] def fPn : Fn (Option Int) := fun _ S => .ok none S
def gPart : D → Store → R (Option Int)
  | .int i, S => .ok (some i) S
  | _, _ => .no
theorem _root_.L2.PO.imp {e : Option Expr} {t t' : TO} (h : PO X e t) (k : ∀ σ H Q, t' σ H Q → t σ H Q) : PO X e t' := ⟨fun pins s σ H Q I q => h.run pins s σ H Q I (k σ H Q q)⟩
theorem do_none : PO X none (denO F fPn) := po_none.imp fun σ H Q ⟨ρ, W, I, q⟩ => q.val I.ok rfl
theorem do_some (ha : PE X a (denE F f)) : PO X (some a) (denO F (fUn gPart f)) := (po_some ha).imp fun σ H Q ⟨ρ, W, I, q⟩ => ⟨ρ, W, I, q.bind fun d v H1 W1 g ok r q1 => by
  unfold gPart at q1
  split at q1
  · cases r
    exact ⟨_, rfl, q1.val ok rfl⟩
  · exact q1.elim⟩
def gSl : D → Option Int → Option Int → Store → R D
  | .lst xs, lo, hi, S => .ok (.lst (cutD xs lo hi)) S
  | .tup xs, lo, hi, S => .ok (.tup (cutD xs lo hi)) S
  | _, _, _, _ => .no
@[simp] def fSl (f : Fn D) (l h : Fn (Option Int)) : Fn D := fun ρ S => (f ρ S).bind fun d S1 => (l ρ S1).bind fun lo S2 => (h ρ S2).bind fun hi S3 => gSl d lo hi S3
variable {lo hi : Option Expr} {fl fh : Fn (Option Int)} {p2 : Pos}
theorem cutD_whole {xs : List D} {lo hi : Option Int} (h1 : HT.sIx xs.length 0 lo = 0) (h2 : HT.sIx xs.length xs.length hi = xs.length) : cutD xs lo hi = xs := by
  unfold cutD
  rw [h1, h2]
  simp
theorem de_slice (ha : PE X a (denE F f)) (hl : PO X lo (denO F fl)) (hh : PO X hi (denO F fh)) (hK : F.K = X.K := by rfl) : PE X (.Subscript a (.Slice lo hi none p2) pos) (denE F (fSl f fl fh)) :=
  (pe_slice (sl_list.or sl_tupA) ha hl hh).imp fun σ H Q ⟨ρ, W, I, q⟩ => ⟨ρ, W, I, q.bind fun d v H1 W1 g ok r q1 => ⟨ρ, W1, I.go g ok, q1.bind fun l l' H2 W2 g2 ok2 r2 q2 => ⟨ρ, W2, (I.go g ok).go g2 ok2, q2.bind fun u u' H3 W3 g3 ok3 r3 q3 => by
    subst r2 r3
    have r := rep_gr (g2.trans g3).s r
    unfold gSl at q3
    split at q3
    · cases r with
      | lst a b => exact .inl ⟨_, _, rfl, SqL.of (hid_le _ _ a), fun p hp => q3.new ok3 hp (rep_lst ok3 hp (cut_rep b))⟩
    · cases r with
      | tup a b =>
        refine .inr ⟨_, _, rfl, SqT.of (hid_le _ _ a), fun hw => ?_, fun _ p hp => q3.new ok3 hp (rep_tup ok3 hp (cut_rep b))⟩
        rw [← b.len] at hw
        rw [cutD_whole hw.1 hw.2] at q3
        exact q3.val ok3 (.tup a b)
    · exact q3.elim⟩⟩⟩

/-! ### calls of built-ins by name -/
def CalD (F : Fm) (r : List V → Hp → VK → Prop) (g : List D → Store → R D) : Prop := ∀ (W : Wd) (H : Hp) (σ : St) (ds : List D) (vs : List V) (Q : VK), WOk W H → F.reps W H ds vs → Post F F.rep W H σ (g ds W.S) Q → r vs H Q
theorem den_cb {r : List V → Hp → VK → Prop} {g : List D → Store → R D} (hg : CalD F r g) {σ : St} {H : Hp} {Q : VK} (h : denE F (fUn g fs) σ H Q) : tCB r (denA F fs) σ H Q := by
  obtain ⟨ρ, W, I, q⟩ := h
  exact ⟨ρ, W, I, q.bind fun d v H1 W1 g1 ok r q1 => hg W1 H1 σ d v Q ok r q1⟩
variable {x : Str} {p : Pos}
theorem de_cb {r : List V → Hp → VK → Prop} {g : List D → Store → R D} {id : String} (hc : CallR X (.builtin id) r) (hd : CalD F r g) (hg : Gl X x) (hm : X.mg x = none) (hv : bootBuiltins x = some (.builtin id)) (ha : PA X (e :: es) (denA F fs))
    (hn : x ≠ "__name__" := by decide) (hdb : (x == ("__debug__" : Str)) = false := by decide) (he : starEach (e :: es) X.env = (false, eval e X.env) :: starEach es X.env := by rfl) (hpl : (backTo pos (starEach es X.env)).any (·.1) = false := by rfl) :
    PE X (.Call (.Name x p) (e :: es) [] pos) (denE F (fUn g fs)) := (pe_callB hc hg hm hv ha hn hdb he hpl).imp fun _ _ _ h => den_cb hd h
theorem de_ct {r : List V → Hp → VK → Prop} {g : List D → Store → R D} {T : String} (hc : CallR X (.type T) r) (hd : CalD F r g) (hg : Gl X x) (hm : X.mg x = none) (hv : bootBuiltins x = some (.type T)) (ha : PA X (e :: es) (denA F fs))
    (hn : x ≠ "__name__" := by decide) (hdb : (x == ("__debug__" : Str)) = false := by decide) (he : starEach (e :: es) X.env = (false, eval e X.env) :: starEach es X.env := by rfl) (hpl : (backTo pos (starEach es X.env)).any (·.1) = false := by rfl) :
    PE X (.Call (.Name x p) (e :: es) [] pos) (denE F (fUn g fs)) := (pe_callTy hc hg hm hv ha hn hdb he hpl).imp fun _ _ _ h => den_cb hd h
/-- .. that make a new list -/
def CalX (F : Fm) (r : List V → Hp → VK → Prop) (g : List D → Store → R (List D)) : Prop := ∀ (W : Wd) (H : Hp) (σ : St) (ds : List D) (vs : List V) (Q : VK) (es : List D) (S' : Store), WOk W H → F.reps W H ds vs → g ds W.S = .ok es S' →
  (∀ p ws, H p = none → F.reps W H es ws → Q (.ref p) (upd H p (.lst ws))) → r vs H Q
@[simp] def fCx (g : List D → Store → R (List D)) (fs : Fn (List D)) : Fn Sl := fun ρ S => (fs ρ S).bind fun ds S1 => match g ds S1 with
  | .ok es _ => .ok (.ow es) S1
  | _ => .no
theorem den_cx {r : List V → Hp → VK → Prop} {g : List D → Store → R (List D)} (hg : CalX F r g) {σ : St} {H : Hp} {Q : VK} (h : denX F (fCx g fs) σ H Q) : tCB r (denA F fs) σ H Q := by
  obtain ⟨ρ, W, I, q⟩ := h
  refine ⟨ρ, W, I, q.bind fun ds vs H1 W1 g1 ok r q1 => ?_⟩
  split at q1
  · rename_i es S' he
    exact hg W1 H1 σ ds vs Q es S' ok r he fun p ws hp hr => Post.newX g1 ok hp q1 hr
  · exact q1.elim
end
end Bx

namespace Bx
open PySem L2 PyProof.Rows

/-! ### built-ins on data -/
def gLen : List D → Store → R D
  | [.lst xs], S => .ok (.int xs.length) S
  | [.tup xs], S => .ok (.int xs.length) S
  | [.str z], S => if z.length ≤ LIM then .ok (.int z.length) S else .no
  | _, _ => .no
def gInt : List D → Store → R D
  | [.int i], S => .ok (.int i) S
  | [.bl b], S => .ok (.int (if b then 1 else 0)) S
  | _, _ => .no
def ints? : List D → Option (List Int)
  | [] => some []
  | .int i :: ds => (ints? ds).map (i :: ·)
  | _ :: _ => none
def mx (m x : Int) : Int := if m > x then m else x
def mn (m x : Int) : Int := if m < x then m else x
def maxL : List Int → Int
  | [] => 0
  | [x] => x
  | x :: xs => mx (maxL xs) x
def minL : List Int → Int
  | [] => 0
  | [x] => x
  | x :: xs => mn (minL xs) x
def gMax : List D → Store → R D
  | [.int i, .int j], S => .ok (.int (if j > i then j else i)) S
  | [.lst xs], S => match ints? xs with
    | some (n :: ns) => .ok (.int (maxL (n :: ns))) S
    | _ => .no
  | [.tup xs], S => match ints? xs with
    | some (n :: ns) => .ok (.int (maxL (n :: ns))) S
    | _ => .no
  | _, _ => .no
def gMin : List D → Store → R D
  | [.int i, .int j], S => .ok (.int (if j < i then j else i)) S
  | [.lst xs], S => match ints? xs with
    | some (n :: ns) => .ok (.int (minL (n :: ns))) S
    | _ => .no
  | _, _ => .no
def gSum : List D → Store → R D
  | [.lst xs], S => match ints? xs with
    | some ns => .ok (.int ns.sum) S
    | _ => .no
  | _, _ => .no
def insI (x : Int) : List Int → List Int
  | [] => [x]
  | y :: ys => if x ≤ y then x :: y :: ys else y :: insI x ys
def sortI : List Int → List Int
  | [] => []
  | x :: xs => insI x (sortI xs)
def gSorted : List D → Store → R (List D)
  | [.lst xs], S => match ints? xs with
    | some ns => .ok ((sortI ns).map .int) S
    | _ => .no
  | _, _ => .no
def gSortedRev : List D → Store → R (List D)
  | [.lst xs], S => match ints? xs with
    | some ns => .ok ((sortI ns).reverse.map .int) S
    | _ => .no
  | _, _ => .no
def gList : List D → Store → R (List D)
  | [.lst xs], S => .ok xs S
  | [.tup xs], S => .ok xs S
  | [.scr ns], S => .ok (ns.map .int) S
  | _, _ => .no
def gTuple : List D → Store → R D
  | [.lst xs], S => .ok (.tup xs) S
  | [.tup xs], S => .ok (.tup xs) S
  | _, _ => .no

theorem insI_perm (x : Int) : ∀ l, (insI x l).Perm (x :: l)
  | [] => .refl _
  | y :: ys => by
    unfold insI
    split
    · exact .refl _
    · exact ((insI_perm x ys).cons y).trans (.swap x y ys)
theorem sortI_perm : ∀ l, (sortI l).Perm l
  | [] => .refl _
  | x :: xs => (insI_perm x _).trans ((sortI_perm xs).cons x)
theorem insI_sorted (x : Int) : ∀ l : List Int, l.Pairwise (· ≤ ·) → (insI x l).Pairwise (· ≤ ·)
  | [], _ => by simp [insI]
  | y :: ys, h => by
    unfold insI
    rw [List.pairwise_cons] at h
    split
    · rename_i hxy
      rw [List.pairwise_cons]
      refine ⟨fun z hz => ?_, List.pairwise_cons.mpr h⟩
      rcases List.mem_cons.mp hz with rfl | hz
      · exact hxy
      · exact Int.le_trans hxy (h.1 z hz)
    · rename_i hxy
      rw [List.pairwise_cons]
      refine ⟨fun z hz => ?_, insI_sorted x ys h.2⟩
      rcases List.mem_cons.mp ((insI_perm x ys).mem_iff.mp hz) with rfl | hz
      · omega
      · exact h.1 z hz
theorem sortI_sorted : ∀ l : List Int, (sortI l).Pairwise (· ≤ ·)
  | [] => .nil
  | x :: xs => insI_sorted x _ (sortI_sorted xs)
theorem sort_same {a b : List Int} (hp : a.Perm b) (ha : a.Pairwise (· ≤ ·)) (hb : b.Pairwise (· ≤ ·)) : a = b := hp.eq_of_pairwise (fun x y _ _ h1 h2 => Int.le_antisymm h1 h2) ha hb
theorem sortI_is {a b : List Int} (hp : a.Perm b) (ha : a.Pairwise (· ≤ ·)) : a = sortI b := sort_same (hp.trans (sortI_perm b).symm) ha (sortI_sorted b)
theorem maxL_mem : ∀ {l : List Int}, l ≠ [] → maxL l ∈ l
  | [x], _ => by simp [maxL]
  | x :: y :: ys, _ => by
    unfold maxL mx
    have := maxL_mem (l := y :: ys) (by simp)
    split
    · exact .tail _ this
    · exact .head _
theorem maxL_ge : ∀ {l : List Int}, ∀ y ∈ l, y ≤ maxL l
  | [x], y, h => by simp [maxL] at *; omega
  | x :: z :: ys, y, h => by
    have := maxL_ge (l := z :: ys)
    unfold maxL mx
    rcases List.mem_cons.mp h with rfl | h
    · split <;> omega
    · have := this y h
      split <;> omega
theorem minL_mem : ∀ {l : List Int}, l ≠ [] → minL l ∈ l
  | [x], _ => by simp [minL]
  | x :: y :: ys, _ => by
    unfold minL mn
    have := minL_mem (l := y :: ys) (by simp)
    split
    · exact .tail _ this
    · exact .head _
theorem minL_le : ∀ {l : List Int}, ∀ y ∈ l, minL l ≤ y
  | [x], y, h => by simp [minL] at *; omega
  | x :: z :: ys, y, h => by
    have := minL_le (l := z :: ys)
    unfold minL mn
    rcases List.mem_cons.mp h with rfl | h
    · split <;> omega
    · have := this y h
      split <;> omega
theorem ints_eq : ∀ {ds : List D} {ns : List Int}, ints? ds = some ns → ds = ns.map .int
  | [], ns, h => by
    obtain rfl := Option.some.inj h
    rfl
  | .int i :: ds, ns, h => by
    obtain ⟨m, h1, rfl⟩ := Option.map_eq_some_iff.mp (show (ints? ds).map (i :: ·) = some ns from h)
    rw [ints_eq h1]; rfl
@[simp] theorem ints_map : ∀ ns : List Int, ints? (ns.map D.int) = some ns
  | [] => rfl
  | n :: ns => by simp [ints?, ints_map ns]
section
variable {F : Fm} {X : Cx}
theorem rep_int {W : Wd} {H : Hp} {i : Int} {v : V} (h : F.rep W H (.int i) v) : v = .int i := by cases h; rfl
theorem cal_len : CalD F (fun xs H Q => ∃ x n, xs = [x] ∧ LenV F.K x H n ∧ Q (.int n) H) gLen := by
  intro W H σ ds vs Q ok r h
  unfold gLen at h
  split at h
  · cases r with
    | cons r1 r2 =>
      cases r2
      cases r1 with
      | lst a b => exact ⟨_, _, rfl, .inl ⟨_, SqL.of (hid_le _ _ a), rfl⟩, by rw [← b.len]; exact h.val ok (.int _)⟩
  · cases r with
    | cons r1 r2 =>
      cases r2
      cases r1 with
      | tup a b => exact ⟨_, _, rfl, .inr ⟨_, SqT.of (hid_le _ _ a), rfl⟩, by rw [← b.len]; exact h.val ok (.int _)⟩
  · split at h
    · rename_i hz
      cases r with
      | cons r1 r2 =>
        cases r2
        cases r1
        exact ⟨_, _, rfl, ⟨lim_le hz, rfl⟩, h.val ok (.int _)⟩
    · exact h.elim
  · exact h.elim
theorem cal_int : CalD F (fun xs H Q => (∃ i, xs = [.int i] ∧ Q (.int i) H) ∨ ∃ k, xs = [.bl k] ∧ Q (.int (if k then 1 else 0)) H) gInt := by
  intro W H σ ds vs Q ok r h
  unfold gInt at h
  split at h
  · cases r with
    | cons r1 r2 =>
      cases r2
      cases r1
      exact .inl ⟨_, rfl, h.val ok (.int _)⟩
  · cases r with
    | cons r1 r2 =>
      cases r2
      cases r1
      exact .inr ⟨_, rfl, h.val ok (.int _)⟩
  · exact h.elim
theorem readsInts (h : Heap) : ∀ {ns : List Int} {its : List Value}, Vals (ns.map V.int) its → ∃ as, ReadsAll h its (ns.map .int) as
  | [], _, r => by
    cases r
    exact ⟨_, .nil⟩
  | n :: ns, _, r => by
    cases r with
    | cons r1 r2 =>
      obtain ⟨t, rfl⟩ := r1
      obtain ⟨as, h2⟩ := readsInts h r2
      exact ⟨_, .cons (.int n t) h2⟩
def rMaxT (K : PySem.W.Frag) : List V → Hp → VK → Prop := fun vs H Q => ∃ (a : Addr) (ns : List Int), vs = [V.ref a] ∧ SqT K H a (ns.map V.int) ∧ 0 < ns.length ∧ ∀ m, m ∈ ns → (∀ y, y ∈ ns → y ≤ m) → Q (.int m) H
theorem foldl_max (n : Int) : ∀ ns : List Int, ns.foldl max n ∈ n :: ns ∧ ∀ y, y ∈ n :: ns → y ≤ ns.foldl max n := by
  intro ns
  induction ns generalizing n with
  | nil => simp
  | cons k r ih =>
    obtain ⟨h1, h2⟩ := ih (max n k)
    simp only [List.foldl_cons]
    refine ⟨?_, fun y hy => ?_⟩
    · rcases List.mem_cons.mp h1 with e | e
      · rw [e]
        rcases Int.le_total n k with z | z
        · rw [Int.max_eq_right z]; simp
        · rw [Int.max_eq_left z]; simp
      · exact List.mem_cons_of_mem _ (List.mem_cons_of_mem _ e)
    · have hm := h2 (max n k) (List.mem_cons_self ..)
      simp only [List.mem_cons] at hy
      rcases hy with rfl | rfl | hy
      · omega
      · omega
      · exact h2 y (List.mem_cons_of_mem _ hy)
theorem cr_maxT {X : Cx} (hc : X.calm = true) (hu : X.A.units + 1 < cLine) : CallR X (.builtin "max") (rMaxT X.K) := by
  intro pins s σ H vs us Q I r h
  obtain ⟨a, ns, rfl, hs, hne, q⟩ := h
  obtain ⟨its, rv, ht, hz⟩ := I.tuple hs
  rw [Vals.ref1 r]
  cases ns with
  | nil => simp at hne
  | cons n ns =>
    obtain ⟨as, hR⟩ := readsInts s.heap rv
    refine PySem.W.max_tuple_data (x := .int n) (xs := ns.map .int) (I.ok.hd hc) ht (by simpa using hR) ⟨fun x hx y hy => ?_, fun x hx => ?_⟩ ?_ fun i v h' tk bs hv hr hk => ?_
    · obtain ⟨x', _, rfl⟩ := List.mem_map.mp (show x ∈ (n :: ns).map PyData.int from hx)
      obtain ⟨y', _, rfl⟩ := List.mem_map.mp (show y ∈ (n :: ns).map PyData.int from hy)
      rfl
    · obtain ⟨x', _, rfl⟩ := List.mem_map.mp (show x ∈ (n :: ns).map PyData.int from hx)
      simp
    · have := PyProof.Rows.depthAll_ints (n :: ns)
      simp only [List.map_cons] at this
      rw [this]
      exact hu
    · rw [PySem.W.maxD_ints] at hr
      obtain ⟨h1, h2⟩ := foldl_max n ns
      cases hr
      exact ⟨.int _, H, I.kept hk, ⟨_, rfl⟩, q _ h1 h2⟩
theorem cal_max : CalD F (fun xs H Q => (∃ i j, xs = [.int i, .int j] ∧ Q (.int (if j > i then j else i)) H) ∨ rMax F.K xs H Q ∨ rMaxT F.K xs H Q) gMax := by
  intro W H σ ds vs Q ok r h
  unfold gMax at h
  split at h
  · cases r with
    | cons r1 r2 =>
      cases r2 with
      | cons r3 r4 =>
        cases r4; cases r1; cases r3
        exact .inl ⟨_, _, rfl, h.val ok (.int _)⟩
  · split at h
    · rename_i hi
      cases r with
      | cons r1 r2 =>
        cases r2
        cases r1 with
        | lst a b =>
          rw [ints_eq hi] at b
          obtain rfl := b.ints
          refine .inr (.inl ⟨_, _, rfl, SqL.of (hid_le _ _ a), by simp, fun m hm hle => ?_⟩)
          rename_i n ns _
          have e : m = maxL (n :: ns) := Int.le_antisymm (maxL_ge m hm) (hle _ (maxL_mem (by simp)))
          rw [e]
          exact h.val ok (.int _)
    · exact h.elim
  · split at h
    · rename_i hi
      cases r with
      | cons r1 r2 =>
        cases r2
        cases r1 with
        | tup a b =>
          rw [ints_eq hi] at b
          obtain rfl := b.ints
          refine .inr (.inr ⟨_, _, rfl, SqT.of (hid_le _ _ a), by simp, fun m hm hle => ?_⟩)
          rename_i n ns _
          have e : m = maxL (n :: ns) := Int.le_antisymm (maxL_ge m hm) (hle _ (maxL_mem (by simp)))
          rw [e]
          exact h.val ok (.int _)
    · exact h.elim
  · exact h.elim
theorem cal_min : CalD F (fun xs H Q => (∃ i j, xs = [.int i, .int j] ∧ Q (.int (if j < i then j else i)) H) ∨ rMin F.K xs H Q) gMin := by
  intro W H σ ds vs Q ok r h
  unfold gMin at h
  split at h
  · cases r with
    | cons r1 r2 =>
      cases r2 with
      | cons r3 r4 =>
        cases r4; cases r1; cases r3
        exact .inl ⟨_, _, rfl, h.val ok (.int _)⟩
  · split at h
    · rename_i hi
      cases r with
      | cons r1 r2 =>
        cases r2
        cases r1 with
        | lst a b =>
          rw [ints_eq hi] at b
          obtain rfl := b.ints
          refine .inr ⟨_, _, rfl, SqL.of (hid_le _ _ a), by simp, fun m hm hle => ?_⟩
          rename_i n ns _
          have e : m = minL (n :: ns) := Int.le_antisymm (hle _ (minL_mem (by simp))) (minL_le m hm)
          rw [e]
          exact h.val ok (.int _)
    · exact h.elim
  · exact h.elim
theorem cal_sum : CalD F (rSum F.K) gSum := by
  intro W H σ ds vs Q ok r h
  unfold gSum at h
  split at h
  · split at h
    · rename_i hi
      cases r with
      | cons r1 r2 =>
        cases r2
        cases r1 with
        | lst a b =>
          rw [ints_eq hi] at b
          obtain rfl := b.ints
          exact ⟨_, _, rfl, SqL.of (hid_le _ _ a), h.val ok (.int _)⟩
    · exact h.elim
  · exact h.elim
theorem cal_tuple : CalD F (fun xs H Q => ∃ p ys, xs = [.ref p] ∧ ((SqL F.K H p ys ∧ ∀ l, H l = none → Q (.ref l) (upd H l (.tup ys))) ∨ (SqT F.K H p ys ∧ Q (.ref p) H))) gTuple := by
  intro W H σ ds vs Q ok r h
  unfold gTuple at h
  split at h
  · cases r with
    | cons r1 r2 =>
      cases r2
      cases r1 with
      | lst a b => exact ⟨_, _, rfl, .inl ⟨SqL.of (hid_le _ _ a), fun l hl => h.new ok hl (rep_tup ok hl b)⟩⟩
  · cases r with
    | cons r1 r2 =>
      cases r2
      cases r1 with
      | tup a b => exact ⟨_, _, rfl, .inr ⟨SqT.of (hid_le _ _ a), h.val ok (.tup a b)⟩⟩
  · exact h.elim
theorem cal_list : CalX F (fun xs H Q => ∃ p ys, xs = [.ref p] ∧ (SqL F.K H p ys ∨ SqT F.K H p ys) ∧ ∀ l, H l = none → Q (.ref l) (upd H l (.lst ys))) gList := by
  intro W H σ ds vs Q es S' ok r he h
  unfold gList at he
  split at he
  · cases he
    cases r with
    | cons r1 r2 =>
      cases r2
      cases r1 with
      | lst a b => exact ⟨_, _, rfl, .inl (SqL.of (hid_le _ _ a)), fun l hl => h l _ hl b⟩
  · cases he
    cases r with
    | cons r1 r2 =>
      cases r2
      cases r1 with
      | tup a b => exact ⟨_, _, rfl, .inr (SqT.of (hid_le _ _ a)), fun l hl => h l _ hl b⟩
  · cases he
    cases r with
    | cons r1 r2 =>
      cases r2
      cases r1 with
      | scr a => exact ⟨_, _, rfl, .inl (sql_mono hid_le a), fun l hl => h l _ hl (Reps.ofInts _)⟩
  · cases he
theorem cal_sorted : CalX F (rSortedI F.K) gSorted := by
  intro W H σ ds vs Q es S' ok r he h
  unfold gSorted at he
  split at he
  · split at he
    · rename_i hi
      cases he
      cases r with
      | cons r1 r2 =>
        cases r2
        cases r1 with
        | lst a b =>
          rw [ints_eq hi] at b
          obtain rfl := b.ints
          refine ⟨_, _, rfl, SqL.of (hid_le _ _ a), fun ns' p hp hs hn => ?_⟩
          obtain rfl := sortI_is hp hs
          exact h p _ hn (Reps.ofInts _)
    · cases he
  · cases he
theorem cal_sortedRev : CalX F (fun vs H Q => rSortedKw F.K true [V.bl true] vs [V.bl true] H Q) gSortedRev := by
  intro W H σ ds vs Q es S' ok r he h
  unfold gSortedRev at he
  split at he
  · split at he
    · rename_i hi
      cases he
      cases r with
      | cons r1 r2 =>
        cases r2
        cases r1 with
        | lst a b =>
          rw [ints_eq hi] at b
          obtain rfl := b.ints
          refine ⟨_, _, rfl, rfl, SqL.of (hid_le _ _ a), fun ns' p hp hs hn => ?_⟩
          have hs' : ns'.reverse.Pairwise (· ≤ ·) := by
            have hs2 : ns'.Pairwise (· ≥ ·) := by simpa [OrdB] using hs
            exact List.pairwise_reverse.mpr (hs2.imp fun h => h)
          have e1 := sortI_is (ns'.reverse_perm.trans hp) hs'
          rw [← e1, List.reverse_reverse] at h
          exact h p _ hn (Reps.ofInts _)
    · cases he
  · cases he
variable {e : Expr} {es : List Expr} {f : Fn D} {fs : Fn (List D)} {pos p : Pos}
theorem de_len (hg : Gl X "len") (hm : X.mg "len" = none) (ha : PA X [e] (denA F fs)) (he : starEach [e] X.env = (false, eval e X.env) :: starEach [] X.env := by rfl) (hK : F.K = X.K := by rfl) : PE X (.Call (.Name "len" p) [e] [] pos) (denE F (fUn gLen fs)) :=
  de_cb call_len (by rw [← hK]; exact cal_len) hg hm PySem.boot_len ha (he := he)
theorem de_intc (hg : Gl X "int") (hm : X.mg "int" = none) (ha : PA X [e] (denA F fs)) (he : starEach [e] X.env = (false, eval e X.env) :: starEach [] X.env := by rfl) : PE X (.Call (.Name "int" p) [e] [] pos) (denE F (fUn gInt fs)) :=
  de_ct call_int1 cal_int hg hm (by decide +kernel) ha (he := he)
theorem de_max (hu : X.A.units + 1 < cLine) (hc : X.calm = true) (hg : Gl X "max") (hm : X.mg "max" = none) (ha : PA X (e :: es) (denA F fs)) (he : starEach (e :: es) X.env = (false, eval e X.env) :: starEach es X.env := by rfl) (hpl : (backTo pos (starEach es X.env)).any (·.1) = false := by rfl) (hK : F.K = X.K := by rfl) : PE X (.Call (.Name "max" p) (e :: es) [] pos) (denE F (fUn gMax fs)) :=
  de_cb ((call_max2 hc).or ((cr_max hc).or (cr_maxT hc hu))) (by rw [← hK]; exact cal_max) hg hm (by decide +kernel) ha (he := he) (hpl := hpl)
theorem de_min (hc : X.calm = true) (hg : Gl X "min") (hm : X.mg "min" = none) (ha : PA X (e :: es) (denA F fs)) (he : starEach (e :: es) X.env = (false, eval e X.env) :: starEach es X.env := by rfl) (hpl : (backTo pos (starEach es X.env)).any (·.1) = false := by rfl) (hK : F.K = X.K := by rfl) : PE X (.Call (.Name "min" p) (e :: es) [] pos) (denE F (fUn gMin fs)) :=
  de_cb ((call_min2 hc).or (cr_min hc)) (by rw [← hK]; exact cal_min) hg hm (by decide +kernel) ha (he := he) (hpl := hpl)
theorem de_sum (hc : X.calm = true) (hg : Gl X "sum") (hm : X.mg "sum" = none) (ha : PA X [e] (denA F fs)) (he : starEach [e] X.env = (false, eval e X.env) :: starEach [] X.env := by rfl) (hK : F.K = X.K := by rfl) : PE X (.Call (.Name "sum" p) [e] [] pos) (denE F (fUn gSum fs)) :=
  de_cb (cr_sum hc) (by rw [← hK]; exact cal_sum) hg hm (by decide +kernel) ha (he := he)
theorem de_tuple (hg : Gl X "tuple") (hm : X.mg "tuple" = none) (ha : PA X [e] (denA F fs)) (he : starEach [e] X.env = (false, eval e X.env) :: starEach [] X.env := by rfl) (hK : F.K = X.K := by rfl) : PE X (.Call (.Name "tuple" p) [e] [] pos) (denE F (fUn gTuple fs)) :=
  de_ct call_tuple_of (by rw [← hK]; exact cal_tuple) hg hm (by decide +kernel) ha (he := he)
theorem dx_list (hg : Gl X "list") (hm : X.mg "list" = none) (ha : PA X [e] (denA F fs)) (he : starEach [e] X.env = (false, eval e X.env) :: starEach [] X.env := by rfl) (hK : F.K = X.K := by rfl) : PE X (.Call (.Name "list" p) [e] [] pos) (denX F (fCx gList fs)) :=
  (pe_callTy call_list_of hg hm (by decide +kernel) ha (he := he)).imp fun _ _ _ h => den_cx (by rw [← hK]; exact cal_list) h
theorem dx_sorted (hg : Gl X "sorted") (hm : X.mg "sorted" = none) (ha : PA X [e] (denA F fs)) (he : starEach [e] X.env = (false, eval e X.env) :: starEach [] X.env := by rfl) (hK : F.K = X.K := by rfl) : PE X (.Call (.Name "sorted" p) [e] [] pos) (denX F (fCx gSorted fs)) :=
  (pe_callB cr_sortedI hg hm (by decide +kernel) ha (he := he)).imp fun _ _ _ h => den_cx (by rw [← hK]; exact cal_sorted) h
/-- sorted(xs, reverse=True) -/
theorem dx_sortedRev {kws : List Keyword} (hg : Gl X "sorted") (hm : X.mg "sorted" = none) (ha : PA X [e] (denA F fs)) (hk : PK X kws (tCons (tC (.bl true)) tNil))
    (he : backTo pos (starEach [e] X.env) = (false, eval e X.env) :: backTo pos (starEach [] X.env) := by rfl) (hpl : (backTo pos (starEach [e] X.env)).any (·.1) = false := by rfl)
    (hall : (backToKw pos (keywordEach kws X.env)).all (·.1.isSome) = true := by rfl) (hnone : (backToKw pos (keywordEach kws X.env)).any (·.1.isNone) = false := by rfl) (hks : (backToKw pos (keywordEach kws X.env)).filterMap (·.1) = [Str.ofString "reverse"] := by rfl)
    (hK : F.K = X.K := by rfl) : PE X (.Call (.Name "sorted" p) [e] kws pos) (denX F (fCx gSortedRev fs)) :=
  (pe_callBK (cr_sortedRev (b := true)) hg hm (by decide +kernel) ha hk (he := he) (hpl := hpl) (hall := hall) (hnone := hnone) (hks := hks)).imp fun σ H Q h => den_cx (r := fun vs H Q => rSortedKw X.K true [V.bl true] vs [V.bl true] H Q) (by rw [← hK]; exact cal_sortedRev) h
end
end Bx

namespace Bx
open PySem L2

/-! ### what is walked -/
def PostI (F : Fm) (W : Wd) (H : Hp) (σ : St) (r : R (List D)) (T : It → Hp → Prop) : Prop :=
  match r with
  | .ok ds S' => ∀ J Y G H' W', W'.S = S' → Gr W H W' H' → WOk W' H' → Walk J ds.length G Y → (∀ W2 H2, GrS W' H' W2 H2 → G H2) →
      (∀ i d W2 H2 x H3, GrS W' H' W2 H2 → WOk W2 H2 → ds[i]? = some d → Y i H2 x H3 → Same H2 H3 ∧ F.rep W2 H3 d x) → T J H'
  | .er x S' => ∀ cls dd H' W', W'.S = S' → Gr W H W' H' → WOk W' H' → ERep F W' H' x cls dd → F.wish cls dd σ H'
  | .no => False
def denI (F : Fm) (f : Fn (List D)) : TI := fun σ H T => ∃ ρ W, IF F W H σ ρ ∧ PostI F W H σ (f ρ W.S) T
section
variable {F : Fm} {W W' W1 : Wd} {H H' H1 : Hp} {σ : St} {ρ : Rho} {γ δ : Type} {rel2 : Wd → Hp → γ → δ → Prop} {T : It → Hp → Prop}
theorem PostI.weaken {r : R (List D)} (g : Gr W H W1 H1) (h : PostI F W H σ r T) : PostI F W1 H1 σ r T := by
  cases r with
  | ok a S => exact fun J Y G H' W' e g' ok w k1 k2 => h J Y G H' W' e (g.trans g') ok w k1 k2
  | er x S => exact fun cls dd H' W' e g' ok hr => h cls dd H' W' e (g.trans g') ok hr
  | no => exact h
theorem PostI.bind {f : R γ} {k : γ → Store → R (List D)} {Q2 : δ → Hp → Prop} (h : PostI F W H σ (f.bind k) T)
    (hk : ∀ c b H1 W1, Gr W H W1 H1 → WOk W1 H1 → rel2 W1 H1 c b → PostI F W1 H1 σ (k c W1.S) T → Q2 b H1) : Post F rel2 W H σ f Q2 := by
  cases f with
  | ok c S =>
    intro b H1 W1 e g ok hr
    have h' : PostI F W H σ (k c S) T := h
    rw [← e] at h'
    exact hk c b H1 W1 g ok hr (h'.weaken g)
  | er x S => exact h
  | no => exact h
end
theorem _root_.L2.PI.imp {X : Cx} {tg e : Expr} {t t' : TI} (h : PI X tg e t) (k : ∀ σ H Q, t' σ H Q → t σ H Q) : PI X tg e t' := ⟨fun pins s σ H R I q => h.run pins s σ H R I (k σ H R q)⟩
theorem _root_.L2.PG.imp {X : Cx} {tg : Expr} {t t' : TG} (h : PG X tg t) (k : ∀ v σ H Q, t' v σ H Q → t v σ H Q) : PG X tg t' := ⟨fun pins s σ H v u Q I r q => h.run pins s σ H v u Q I r (k v σ H Q q)⟩
theorem _root_.L2.PGs.imp {X : Cx} {tg : List Expr} {t t' : TGs} (h : PGs X tg t) (k : ∀ v σ H Q, t' v σ H Q → t v σ H Q) : PGs X tg t' := ⟨fun pins s σ H v u Q I r q => h.run pins s σ H v u Q I r (k v σ H Q q)⟩
theorem pi_seq {X : Cx} {tg l : Expr} {tl : TE} (hl : PE X l tl) : PI X tg l (fun σ H R => tl σ H fun x H1 => (∃ a xs, x = .ref a ∧ SqL X.K H1 a xs ∧ R (Itl X.K a) H1) ∨ (∃ a xs, x = .ref a ∧ SqT X.K H1 a xs ∧ R (Itt X.K a) H1)) := by
  refine ⟨fun pins s σ H R I h => ?_⟩
  refine thn (hl.run pins s σ H _ I h) fun v s1 ⟨x, H1, I1, r1, q1⟩ => ?_
  rcases q1 with ⟨a, xs, rfl, hq, q⟩ | ⟨a, xs, rfl, hq, q⟩
  · cases r1
    obtain ⟨its, rv, p, hz⟩ := I1.list hq
    refine wpAny_pyIter_list p.isList ?_
    refine ⟨s1.heap.objs.size, [s1.heap.objs.size], _, _, H1, rfl, I1.kept (t' := s1.toks) fun b o e => Heap.get?_push_of_some _ e, turn_list a _, ⟨_, Heap.get?_push_size _ rfl, rfl, rfl⟩, fun b hb => ?_, q⟩
    have e : b = s1.heap.objs.size := by simpa using hb
    subst e
    exact I1.fpOk (Nat.le_refl _) (I1.hok.fresh (Nat.le_refl _))
  · cases r1
    obtain ⟨its, rv, p, hz⟩ := I1.tuple hq
    refine wpAny_pyIter_tuple (show s1.heap.IsTuple a its.toArray from p) ?_
    refine ⟨s1.heap.objs.size, [s1.heap.objs.size], _, _, H1, rfl, I1.kept (t' := s1.toks) fun b o e => Heap.get?_push_of_some _ e, turn_tuple a _, ⟨_, Heap.get?_push_size _ rfl, rfl, rfl⟩, fun b hb => ?_, q⟩
    have e : b = s1.heap.objs.size := by simpa using hb
    subst e
    exact I1.fpOk (Nat.le_refl _) (I1.hok.fresh (Nat.le_refl _))
def gItems : D → Store → R (List D)
  | .lst xs, S => .ok xs S
  | .tup xs, S => .ok xs S
  | .scr ns, S => .ok (ns.map .int) S
  | _, _ => .no
section
variable {X : Cx} {F : Fm} {tg e e2 : Expr} {es : List Expr} {f : Fn D} {fs : Fn (List D)} {p pos : Pos}
theorem ystand {W' W2 : Wd} {H' H2 H3 : Hp} {vs : List V} {ds : List D} {i : Nat} {d : D} {x : V} (b : F.reps W' H' ds vs) (g : GrS W' H' W2 H2) (hd : ds[i]? = some d) (y : YAt vs i H2 x H3) : Same H2 H3 ∧ F.rep W2 H3 d x := by
  obtain ⟨rfl, hx⟩ := y
  obtain ⟨v, h1, h2⟩ := b.get (i := i) hd
  rw [hx] at h1
  cases h1
  exact ⟨Same.refl _, rep_gr g h2⟩
theorem stands {M : Addr → Option Nat} {H : Hp} {a : Addr} {o : HO} {W' W2 : Wd} {H2 : Hp} (h : hid W'.M H a = some o) (g : GrS W' H W2 H2) : H2 a = some o := (hid_some.mp (g.same a o h)).2
theorem di_seq (h : PE X e (denE F f)) (hK : F.K = X.K := by rfl) : PI X tg e (denI F (fUn gItems f)) := (pi_seq h).imp fun σ H T ⟨ρ, W, I, q⟩ => ⟨ρ, W, I, q.bind fun d v H1 W1 g ok r q1 => by
  unfold gItems at q1
  split at q1
  · cases r with
    | @lst a vs _ h1 h2 =>
      refine .inl ⟨a, vs, rfl, SqL.of (hid_le _ _ h1), ?_⟩
      refine q1 _ (YAt vs) (fun H => SqL X.K H a vs) H1 W1 rfl (Gr.refl _ _) ok (by rw [h2.len]; exact walk_list) (fun W2 H2 g2 => SqL.of (stands (M := W1.M) h1 g2)) fun i d W2 H2 x H3 g2 _ hd y => ystand h2 g2 hd y
  · cases r with
    | @tup a vs _ h1 h2 =>
      refine .inr ⟨a, vs, rfl, SqT.of (hid_le _ _ h1), ?_⟩
      refine q1 _ (YAt vs) (fun H => SqT X.K H a vs) H1 W1 rfl (Gr.refl _ _) ok (by rw [h2.len]; exact walk_tup) (fun W2 H2 g2 => SqT.of (stands (M := W1.M) h1 g2)) fun i d W2 H2 x H3 g2 _ hd y => ystand h2 g2 hd y
  · rename_i xs
    cases r with
    | @scr a _ h1 =>
      have h2 : F.reps W1 H1 (xs.map D.int) (xs.map V.int) := Reps.ofInts _
      refine .inl ⟨a, xs.map V.int, rfl, sql_mono hid_le (by rw [← hK]; exact h1), ?_⟩
      refine q1 _ (YAt (xs.map V.int)) (fun H => SqL X.K H a (xs.map V.int)) H1 W1 rfl (Gr.refl _ _) ok (by rw [h2.len]; exact walk_list) (fun W2 H2 g2 => sql_mono hid_le (sql_mono g2.same (by rw [← hK]; exact h1))) fun i d W2 H2 x H3 g2 _ hd y => ystand h2 g2 hd y
  · exact q1.elim⟩
def rangeD (lo : Int) (n : Nat) : List D := (List.range n).map fun (k : Nat) => .int (lo + k)
def gRange1 : List D → Store → R (List D)
  | [.int j], S => if -1000000 ≤ j ∧ j ≤ 1000000 then .ok (rangeD 0 j.toNat) S else .no
  | _, _ => .no
def gRange2 : List D → Store → R (List D)
  | [.int i, .int j], S => if -1000000 ≤ i ∧ i ≤ 1000000 ∧ -1000000 ≤ j ∧ j ≤ 1000000 then .ok (rangeD i (j - i).toNat) S else .no
  | _, _ => .no
theorem rangeD_len {lo : Int} {n : Nat} : (rangeD lo n).length = n := by simp [rangeD]
theorem yrange {lo : Int} {n i : Nat} {d : D} {W2 : Wd} {H2 H3 : Hp} {x : V} (hd : (rangeD lo n)[i]? = some d) (y : YFn (fun i => V.int (lo + i)) i H2 x H3) : Same H2 H3 ∧ F.rep W2 H3 d x := by
  obtain ⟨rfl, rfl⟩ := y
  unfold rangeD at hd
  rw [List.getElem?_map] at hd
  obtain ⟨k, hk, rfl⟩ := Option.map_eq_some_iff.mp hd
  obtain ⟨hi, e⟩ := List.getElem?_eq_some_iff.mp hk
  rw [List.getElem_range] at e
  subst e
  exact ⟨Same.refl _, .int _⟩
theorem di_range1 (hg : Gl X "range") (hm : X.mg "range" = none) (ha : PA X [e] (denA F fs)) (hs : starEach [e] X.env = [(false, eval e X.env)] := by rfl) : PI X tg (.Call (.Name "range" p) [e] [] pos) (denI F (fUn gRange1 fs)) :=
  (pi_range1 hg hm ha hs).imp fun σ H T ⟨ρ, W, I, q⟩ => ⟨ρ, W, I, q.bind fun ds v H1 W1 g ok r q1 => by
    unfold gRange1 at q1
    split at q1
    · split at q1
      · rename_i hz
        cases r with
        | cons r1 r2 =>
          cases r2; cases r1
          refine ⟨_, rfl, by omega, by omega, ?_⟩
          exact q1 _ _ _ H1 W1 rfl (Gr.refl _ _) ok (by rw [rangeD_len]; exact walk_range) (fun _ _ _ => trivial) fun i d W2 H2 x H3 g2 _ hd y => yrange hd y
      · exact q1.elim
    · exact q1.elim⟩
theorem di_range2 (hg : Gl X "range") (hm : X.mg "range" = none) (ha : PA X [e, e2] (denA F fs)) (hs : starEach [e, e2] X.env = [(false, eval e X.env), (false, eval e2 X.env)] := by rfl) (hs2 : starEach [e2] X.env = [(false, eval e2 X.env)] := by rfl) :
    PI X tg (.Call (.Name "range" p) [e, e2] [] pos) (denI F (fUn gRange2 fs)) :=
  (pi_range2 hg hm ha hs hs2).imp fun σ H T ⟨ρ, W, I, q⟩ => ⟨ρ, W, I, q.bind fun ds v H1 W1 g ok r q1 => by
    unfold gRange2 at q1
    split at q1
    · split at q1
      · rename_i hz
        cases r with
        | cons r1 r2 =>
          cases r2 with
          | cons r3 r4 =>
            cases r4; cases r1; cases r3
            refine ⟨_, _, rfl, ⟨by omega, by omega, by omega, by omega⟩, ?_⟩
            exact q1 _ _ _ H1 W1 rfl (Gr.refl _ _) ok (by rw [rangeD_len]; exact walk_range) (fun _ _ _ => trivial) fun i d W2 H2 x H3 g2 _ hd y => yrange hd y
      · exact q1.elim
    · exact q1.elim⟩
def gEnum : List D → Store → R (List D)
  | [.lst xs], S => .ok (xs.zipIdx.map fun p => .tup [.int p.2, p.1]) S
  | _, _ => .no
theorem ypair {W2 : Wd} {H2 H3 : Hp} {v : V} {xs ys : Nat → Option V} {i : Nat} {a b : D} (ok : WOk W2 H2) (y : YPair xs ys i H2 v H3) (h1 : ∀ x, xs i = some x → F.rep W2 H2 a x) (h2 : ∀ x, ys i = some x → F.rep W2 H2 b x) : Same H2 H3 ∧ F.rep W2 H3 (.tup [a, b]) v := by
  obtain ⟨T, x, z, rfl, hT, rfl, e1, e2⟩ := y
  exact ⟨same_new hT, rep_tup ok hT (.cons (h1 x e1) (.cons (h2 z e2) .nil))⟩
variable {elts : List Expr} {kk : Nat} {tpos : Pos}
theorem di_enum (hg : Gl X "enumerate") (hm : X.mg "enumerate" = none) (ha : PA X [e] (denA F fs)) (hs : starEach [e] X.env = [(false, eval e X.env)] := by rfl) (hK : F.K = X.K := by rfl) :
    PI X (.Tuple elts kk tpos) (.Call (.Name "enumerate" p) [e] [] pos) (denI F (fUn gEnum fs)) := (pi_enum hg hm ha hs).imp fun σ H T ⟨ρ, W, I, q⟩ => ⟨ρ, W, I, q.bind fun ds v H1 W1 g ok r q1 => by
    unfold gEnum at q1
    split at q1
    · cases r with
      | cons r1 r2 =>
        cases r2
        cases r1 with
        | @lst a vs _ h1 h2 =>
          refine ⟨a, vs, rfl, SqL.of (hid_le _ _ h1), ?_⟩
          refine q1 _ _ (fun H => SqL X.K H a vs) H1 W1 rfl (Gr.refl _ _) ok (by rw [List.length_map, List.length_zipIdx, h2.len]; exact walk_enum) (fun W2 H2 g2 => SqL.of (stands (M := W1.M) h1 g2)) fun i d W2 H2 x H3 g2 ok2 hd y => ?_
          rw [List.getElem?_map, List.getElem?_zipIdx] at hd
          obtain ⟨⟨d', j⟩, hd', rfl⟩ := Option.map_eq_some_iff.mp hd
          obtain ⟨d'', hd'', e⟩ := Option.map_eq_some_iff.mp hd'
          cases e
          refine ypair ok2 y (fun x e => ?_) fun x e => ?_
          · cases e
            rw [Nat.zero_add]
            exact .int _
          · obtain ⟨v', e1, e2⟩ := h2.get (i := i) hd''
            rw [e] at e1; cases e1
            exact rep_gr g2 e2
    · exact q1.elim⟩
def gZip : List D → Store → R (List D)
  | [.lst xs, .lst ys], S => .ok ((xs.zip ys).map fun p => .tup [p.1, p.2]) S
  | [.tup xs, .tup ys], S => .ok ((xs.zip ys).map fun p => .tup [p.1, p.2]) S
  | _, _ => .no
theorem walk_zipT {K : PySem.W.Frag} {a b : Addr} {xs ys : List V} {n : Nat} (hn : n = min xs.length ys.length) : Walk (RZ.ItzT K a b) n (fun H => SqT K H a xs ∧ SqT K H b ys) (YPair (fun i => xs[i]?) (fun i => ys[i]?)) := by
  subst hn
  refine ⟨fun i _ hi q => ?_, fun _ q => ⟨xs, ys, q.1, q.2, by omega⟩, fun i H v H' _ q y => ?_⟩
  · have h1 : i < xs.length := by omega
    have h2 : i < ys.length := by omega
    exact ⟨xs, ys, xs[i], ys[i], q.1, q.2, by simp [h1], by simp [h2]⟩
  · obtain ⟨T, x, z, h1, h2, h3, h4, h5⟩ := y
    exact ⟨T, x, z, h1, h2, h3, h4 xs q.1, h5 ys q.2⟩
theorem yzip {W1 W2 : Wd} {H1 H2 H3 : Hp} {vs ws : List V} {xs ys : List D} {i : Nat} {d : D} {x : V} (ok : WOk W2 H2) (b1 : F.reps W1 H1 xs vs) (b2 : F.reps W1 H1 ys ws) (g : GrS W1 H1 W2 H2) (hd : ((xs.zip ys).map fun p => D.tup [p.1, p.2])[i]? = some d)
    (y : YPair (fun i => vs[i]?) (fun i => ws[i]?) i H2 x H3) : Same H2 H3 ∧ F.rep W2 H3 d x := by
  rw [List.getElem?_map] at hd
  obtain ⟨⟨d1, d2⟩, hd', rfl⟩ := Option.map_eq_some_iff.mp hd
  rw [List.getElem?_zip_eq_some] at hd'
  refine ypair ok y (fun x e => ?_) fun x e => ?_
  · obtain ⟨v', e1, e2⟩ := b1.get (i := i) hd'.1
    rw [e] at e1; cases e1
    exact rep_gr g e2
  · obtain ⟨v', e1, e2⟩ := b2.get (i := i) hd'.2
    rw [e] at e1; cases e1
    exact rep_gr g e2
theorem di_zip (hg : Gl X "zip") (hm : X.mg "zip" = none) (ha : PA X [e, e2] (denA F fs)) (hs : starEach [e, e2] X.env = (false, eval e X.env) :: starEach [e2] X.env := by rfl) (hpl : (backTo pos (starEach [e2] X.env)).any (·.1) = false := by rfl) (hK : F.K = X.K := by rfl) :
    PI X (.Tuple elts kk tpos) (.Call (.Name "zip" p) [e, e2] [] pos) (denI F (fUn gZip fs)) := (RZ.pi_zipA hg hm ha hs hpl).imp fun σ H T ⟨ρ, W, I, q⟩ => ⟨ρ, W, I, q.bind fun ds v H1 W1 g ok r q1 => by
    unfold gZip at q1
    split at q1
    · cases r with
      | cons r1 r2 =>
        cases r2 with
        | cons r3 r4 =>
          cases r4
          cases r1 with
          | @lst a vs _ h1 h2 =>
            cases r3 with
            | @lst b ws _ h3 h4 =>
              refine ⟨a, b, vs, ws, rfl, .inl ⟨SqL.of (hid_le _ _ h1), SqL.of (hid_le _ _ h3), ?_⟩⟩
              exact q1 _ _ (fun H => SqL X.K H a vs ∧ SqL X.K H b ws) H1 W1 rfl (Gr.refl _ _) ok (by rw [List.length_map, List.length_zip, h2.len, h4.len]; exact walk_zip rfl) (fun W2 H2 g2 => ⟨SqL.of (stands (M := W1.M) h1 g2), SqL.of (stands (M := W1.M) h3 g2)⟩) fun i d W2 H2 x H3 g2 ok2 hd y => yzip ok2 h2 h4 g2 hd y
    · cases r with
      | cons r1 r2 =>
        cases r2 with
        | cons r3 r4 =>
          cases r4
          cases r1 with
          | @tup a vs _ h1 h2 =>
            cases r3 with
            | @tup b ws _ h3 h4 =>
              refine ⟨a, b, vs, ws, rfl, .inr ⟨SqT.of (hid_le _ _ h1), SqT.of (hid_le _ _ h3), ?_⟩⟩
              exact q1 _ _ (fun H => SqT X.K H a vs ∧ SqT X.K H b ws) H1 W1 rfl (Gr.refl _ _) ok (by rw [List.length_map, List.length_zip, h2.len, h4.len]; exact walk_zipT rfl) (fun W2 H2 g2 => ⟨SqT.of (stands (M := W1.M) h1 g2), SqT.of (stands (M := W1.M) h3 g2)⟩) fun i d W2 H2 x H3 g2 ok2 hd y => yzip ok2 h2 h4 g2 hd y
    · exact q1.elim⟩
end

/-! ### targets -/
theorem wipe_get (σ : L2.St) (j : Nat) : ∀ vs : List Nat, (wipe σ vs)[j]? = if j ∈ vs then (σ[j]?).map (fun _ => none) else σ[j]?
  | [] => by simp [wipe]
  | v :: vs => by
    unfold wipe
    by_cases h : v = j
    · subst h
      rw [List.getElem?_set_self']
      rw [wipe_get σ v vs]
      by_cases h2 : v ∈ vs
      · simp only [h2, List.mem_cons, or_true, if_true]
        cases σ[v]? <;> rfl
      · simp only [h2, List.mem_cons, true_or, if_true, if_false]
        cases σ[v]? <;> rfl
    · rw [List.getElem?_set_ne h, wipe_get σ j vs]
      have : j ∈ v :: vs ↔ j ∈ vs := by simp [Ne.symm h]
      simp only [this]
theorem wipe_set {σ : L2.St} {i : Nat} {x : Option V} {vs : List Nat} (h : i ∈ vs) : wipe (σ.set i x) vs = wipe σ vs := by
  apply List.ext_getElem?
  intro j
  rw [wipe_get, wipe_get]
  by_cases e : i = j
  · subst e
    simp only [h, if_true, List.getElem?_set_self']
    cases σ[i]? <;> rfl
  · rw [List.getElem?_set_ne e]
def wipeR (ρ : Rho) : List Nat → Rho
  | [] => ρ
  | v :: vs => (wipeR ρ vs).set v .un
theorem wipeR_len (ρ : Rho) : ∀ vs, (wipeR ρ vs).length = ρ.length
  | [] => rfl
  | v :: vs => by unfold wipeR; rw [List.length_set, wipeR_len ρ vs]
theorem wipeR_get {ρ : Rho} {j : Nat} {s : Sl} (hs : s ≠ .un) : ∀ {vs : List Nat}, (wipeR ρ vs)[j]? = some s → ρ[j]? = some s ∧ j ∉ vs
  | [], h => ⟨h, by simp⟩
  | v :: vs, h => by
    unfold wipeR at h
    by_cases e : v = j
    · subst e
      rw [List.getElem?_set_self'] at h
      cases q : (wipeR ρ vs)[v]? with
      | none => rw [q] at h; cases h
      | some u => rw [q] at h; cases h; exact absurd rfl hs
    · rw [List.getElem?_set_ne e] at h
      obtain ⟨h1, h2⟩ := wipeR_get hs h
      exact ⟨h1, by simp only [List.mem_cons, not_or]; exact ⟨fun z => e z.symm, h2⟩⟩
section
variable {F : Fm} {W W' : Wd} {H H' : Hp} {σ : L2.St} {ρ : Rho}
theorem EnvOk.wipe (e : EnvOk F W H σ ρ) (vs : List Nat) : EnvOk F W H (wipe σ vs) (wipeR ρ vs) where
  len := by rw [wipeR_len, wipe_length, e.len]
  fz := fun i d h => by
    obtain ⟨h1, h2⟩ := wipeR_get (by simp) h
    obtain ⟨v, a, b⟩ := e.fz i d h1
    exact ⟨v, by rw [wipe_get, if_neg h2]; exact a, b⟩
  ow := fun i d h => by
    obtain ⟨h1, h2⟩ := wipeR_get (by simp) h
    obtain ⟨p, vs', a, b⟩ := e.ow i d h1
    exact ⟨p, vs', by rw [wipe_get, if_neg h2]; exact a, b⟩
  dj := fun i j ds es p h1 h2 h3 h4 => by
    obtain ⟨a1, a2⟩ := wipeR_get (by simp) h1
    obtain ⟨b1, b2⟩ := wipeR_get (by simp) h2
    rw [wipe_get, if_neg a2] at h3
    rw [wipe_get, if_neg b2] at h4
    exact e.dj i j ds es p a1 b1 h3 h4
  nw := fun i c ns xs h => by
    obtain ⟨h1, h2⟩ := wipeR_get (by simp) h
    obtain ⟨p, C, dx, vs', a, b⟩ := e.nw i c ns xs h1
    exact ⟨p, C, dx, vs', by rw [wipe_get, if_neg h2]; exact a, b⟩
  ex := fun i x h => by
    obtain ⟨h1, h2⟩ := wipeR_get (by simp) h
    obtain ⟨p, cls, dd, a, b, c⟩ := e.ex i x h1
    exact ⟨p, cls, dd, a, by rw [wipe_get, if_neg h2]; exact b, c⟩
  tk := e.tk
/-- a slot gets a datum seen by all -/
theorem EnvOk.set (e : EnvOk F W H σ ρ) {i : Nat} {d : D} {v : V} (r : F.rep W H d v) (hi : i < ρ.length) : EnvOk F W H (σ.set i (some v)) (ρ.set i (.fz d)) where
  len := by rw [List.length_set, List.length_set, e.len]
  fz := fun j d' h => by
    by_cases z : i = j
    · subst z
      rw [List.getElem?_set_self hi] at h
      cases h
      exact ⟨v, by rw [List.getElem?_set_self (by rw [← e.len]; exact hi)], r⟩
    · rw [List.getElem?_set_ne z] at h ⊢
      exact e.fz j d' h
  ow := fun j d' h => by
    by_cases z : i = j
    · subst z
      rw [List.getElem?_set_self hi] at h
      cases h
    · rw [List.getElem?_set_ne z] at h ⊢
      exact e.ow j d' h
  dj := fun j k ds es p h1 h2 h3 h4 => by
    by_cases z : i = j
    · subst z
      rw [List.getElem?_set_self hi] at h1
      cases h1
    · by_cases z2 : i = k
      · subst z2
        rw [List.getElem?_set_self hi] at h2
        cases h2
      · rw [List.getElem?_set_ne z] at h1 h3
        rw [List.getElem?_set_ne z2] at h2 h4
        exact e.dj j k ds es p h1 h2 h3 h4
  nw := fun j c ns xs h => by
    by_cases z : i = j
    · subst z
      rw [List.getElem?_set_self hi] at h
      cases h
    · rw [List.getElem?_set_ne z] at h ⊢
      exact e.nw j c ns xs h
  ex := fun j x h => by
    by_cases z : i = j
    · subst z
      rw [List.getElem?_set_self hi] at h
      cases h
    · rw [List.getElem?_set_ne z] at h
      obtain ⟨p, cls, dd, a, b, c⟩ := e.ex j x h
      exact ⟨p, cls, dd, a, by rw [List.getElem?_set_ne z]; exact b, c⟩
  tk := e.tk
/-- a slot gets a list of its own -/
theorem EnvOk.setOw (e : EnvOk F W H σ ρ) {i : Nat} {ds : List D} {p : Addr} {vs : List V} (hm : W.M p = some 0) (h0 : F.H0 p = none) (hp : H p = some (.lst vs)) (r : F.reps W H ds vs) (hi : i < ρ.length)
    (hn : ∀ j es, j ≠ i → ρ[j]? = some (.ow es) → σ[j]? ≠ some (some (.ref p))) : EnvOk F W H (σ.set i (some (.ref p))) (ρ.set i (.ow ds)) where
  len := by rw [List.length_set, List.length_set, e.len]
  fz := fun j d' h => by
    by_cases z : i = j
    · subst z
      rw [List.getElem?_set_self hi] at h
      cases h
    · rw [List.getElem?_set_ne z] at h ⊢
      exact e.fz j d' h
  ow := fun j d' h => by
    by_cases z : i = j
    · subst z
      rw [List.getElem?_set_self hi] at h
      cases h
      exact ⟨p, vs, by rw [List.getElem?_set_self (by rw [← e.len]; exact hi)], hm, h0, hp, r⟩
    · rw [List.getElem?_set_ne z] at h ⊢
      exact e.ow j d' h
  dj := fun j k ds es q h1 h2 h3 h4 => by
    by_cases z : i = j
    · by_cases z2 : i = k
      · omega
      · subst z
        rw [List.getElem?_set_self (by rw [← e.len]; exact hi)] at h3
        rw [List.getElem?_set_ne z2] at h2 h4
        cases h3
        exact absurd h4 (hn k es (Ne.symm z2) h2)
    · by_cases z2 : i = k
      · subst z2
        rw [List.getElem?_set_self (by rw [← e.len]; exact hi)] at h4
        rw [List.getElem?_set_ne z] at h1 h3
        cases h4
        exact absurd h3 (hn j ds (Ne.symm z) h1)
      · rw [List.getElem?_set_ne z] at h1 h3
        rw [List.getElem?_set_ne z2] at h2 h4
        exact e.dj j k ds es q h1 h2 h3 h4
  nw := fun j c ns xs h => by
    by_cases z : i = j
    · subst z
      rw [List.getElem?_set_self hi] at h
      cases h
    · rw [List.getElem?_set_ne z] at h ⊢
      exact e.nw j c ns xs h
  ex := fun j x h => by
    by_cases z : i = j
    · subst z
      rw [List.getElem?_set_self hi] at h
      cases h
    · rw [List.getElem?_set_ne z] at h
      obtain ⟨p, cls, dd, a, b, c⟩ := e.ex j x h
      exact ⟨p, cls, dd, a, by rw [List.getElem?_set_ne z]; exact b, c⟩
  tk := e.tk
end
abbrev Tgt (α : Type) := α → Rho → Option Rho
def denG {α β : Type} (F : Fm) (rel : Wd → Hp → α → β → Prop) (g : Tgt α) (ixs : List Nat) : β → L2.St → Hp → (L2.St → Hp → Prop) → Prop := fun v σ H Q => ∃ ρ W d ρ', IF F W H σ ρ ∧ rel W H d v ∧ g d ρ = some ρ' ∧
  ∀ σ', IF F W H σ' ρ' → (∀ vs : List Nat, (∀ i ∈ ixs, i ∈ vs) → wipe σ' vs = wipe σ vs) → Q σ' H
def gtName (i : Nat) : Tgt D := fun d ρ => if i < ρ.length then some (ρ.set i (.fz d)) else none
def gtNil : Tgt (List D) := fun ds ρ => match ds with
  | [] => some ρ
  | _ => none
def gtCons (g : Tgt D) (gs : Tgt (List D)) : Tgt (List D) := fun ds ρ => match ds with
  | [] => none
  | d :: ds => (g d ρ).bind fun ρ1 => gs ds ρ1
def gtTup (n : Nat) (gs : Tgt (List D)) : Tgt D := fun d ρ => match d with
  | .tup ds => if ds.length = n then gs ds ρ else none
  | .lst ds => if ds.length = n then gs ds ρ else none
  | _ => none
section
variable {X : Cx} {F : Fm} {t : Expr} {ts : List Expr} {g : Tgt D} {gs : Tgt (List D)} {is js : List Nat}
theorem dg_name {i : Nat} (h : PG X t (gName i)) : PG X t (denG F F.rep (gtName i) [i]) := h.imp fun v σ H Q ⟨ρ, W, d, ρ', I, r, e, k⟩ => by
  unfold gtName at e
  split at e
  · rename_i hi
    cases e
    exact k _ ⟨I.ok, I.gr, I.env.set r hi⟩ fun vs hv => wipe_set (hv i (by simp))
  · cases e
theorem dgs_nil : PGs X [] (denG F F.reps gtNil []) := pgs_nil.imp fun v σ H Q ⟨ρ, W, d, ρ', I, r, e, k⟩ => by
  cases r with
  | nil =>
    cases e
    exact ⟨rfl, k σ I fun _ _ => rfl⟩
  | cons _ _ => cases e
theorem dgs_cons (h1 : PG X t (denG F F.rep g is)) (h2 : PGs X ts (denG F F.reps gs js)) (hs : (assignEach (t :: ts) X.env).map (·.2) = assign t X.env :: (assignEach ts X.env).map (·.2) := by rfl) : PGs X (t :: ts) (denG F F.reps (gtCons g gs) (is ++ js)) :=
  (pgs_cons h1 h2 hs).imp fun v σ H Q ⟨ρ, W, d, ρ', I, r, e, k⟩ => by
    cases r with
    | nil => cases e
    | @cons d ds v vs r1 r2 =>
      obtain ⟨ρ1, e1, e2⟩ := Option.bind_eq_some_iff.mp (show (g d ρ).bind (fun ρ1 => gs ds ρ1) = some ρ' from e)
      refine ⟨v, vs, rfl, ρ, W, d, ρ1, I, r1, e1, fun σ1 I1 w1 => ⟨ρ1, W, ds, ρ', I1, r2, e2, fun σ2 I2 w2 => k σ2 I2 fun vs hv => ?_⟩⟩
      rw [w2 vs fun i hi => hv i (List.mem_append_right _ hi), w1 vs fun i hi => hv i (List.mem_append_left _ hi)]
theorem pg_or {e : Expr} {t1 t2 : TG} (h1 : PG X e t1) (h2 : PG X e t2) : PG X e (fun v σ H Q => t1 v σ H Q ∨ t2 v σ H Q) :=
  ⟨fun pins s σ H v u Q I r h => h.elim (fun k => h1.run pins s σ H v u Q I r k) (fun k => h2.run pins s σ H v u Q I r k)⟩
theorem dg_tup {k : Nat} {pos : Pos} {n : Nat} (hc : X.calm = true) (h : PGs X ts (denG F F.reps gs is)) (hn : (assignEach ts X.env).length = n := by rfl) (hst : (assignEach ts X.env).findIdx? (·.1) = none := by rfl) (hK : F.K = X.K := by rfl) : PG X (.Tuple ts k pos) (denG F F.rep (gtTup n gs) is) :=
  (pg_or (pg_tup hc h hn hst) (pg_unl hc h hn hst)).imp fun v σ H Q ⟨ρ, W, d, ρ', I, r, e, k⟩ => by
    cases r with
    | @tup a vs ds h1 h2 =>
      have e' : (if ds.length = n then gs ds ρ else none) = some ρ' := e
      split at e'
      · rename_i hl
        exact .inl ⟨a, vs, rfl, SqT.of (hid_le _ _ h1), by rw [← h2.len]; exact hl, ρ, W, ds, ρ', I, h2, e', k⟩
      · cases e'
    | @lst a vs ds h1 h2 =>
      have e' : (if ds.length = n then gs ds ρ else none) = some ρ' := e
      split at e'
      · rename_i hl
        exact .inr ⟨a, vs, rfl, SqL.of (hid_le _ _ h1), by rw [← h2.len]; exact hl, ρ, W, ds, ρ', I, h2, e', k⟩
      · cases e'
    | _ => cases e
end
end Bx

namespace Bx
open PySem L2

/-! ### comprehensions -/
def Fm.nw (F : Fm) : Fm := { F with wish := fun _ _ _ _ => False }
theorem EnvOk.nwF {F : Fm} {W : Wd} {H : Hp} {σ : L2.St} {ρ : Rho} (e : EnvOk F W H σ ρ) : EnvOk F.nw W H σ ρ := ⟨e.len, e.fz, e.ow, e.dj, e.nw, e.ex, e.tk⟩
theorem IF.nwF {F : Fm} {W : Wd} {H : Hp} {σ : L2.St} {ρ : Rho} (I : IF F W H σ ρ) : IF F.nw W H σ ρ := ⟨I.ok, I.gr, I.env.nwF⟩
def fYes : Fn Bool := fun _ S => .ok true S
def lcL (g : Tgt D) (t : Fn Bool) (e : Fn D) (ρ : Rho) : List D → List D → Store → R (List D)
  | [], acc, S => .ok acc S
  | d :: ds, acc, S => match g d ρ with
    | none => .no
    | some ρ1 => (t ρ1 S).bind fun b S1 => if b = true then (e ρ1 S1).bind fun y S2 => lcL g t e ρ ds (acc ++ [y]) S2 else lcL g t e ρ ds acc S1
def noer {α β : Type} (k : α → Store → R β) : R α → R β
  | .ok a S => k a S
  | _ => .no
def fLc (fi : Fn (List D)) (g : Tgt D) (t : Fn Bool) (e : Fn D) (vs : List Nat) : Fn Sl := fun ρ S => (fi ρ S).bind fun ds S1 => if ds.length ≤ LIM then noer (fun ys S2 => .ok (.ow ys) S2) (lcL g t e (wipeR ρ vs) ds [] S1) else .no
theorem den_lc {F : Fm} {fi : Fn (List D)} {g : Tgt D} {t : Fn Bool} {e : Fn D} {vs is : List Nat} (hv : ∀ i ∈ is, i ∈ vs) {σ : L2.St} {H : Hp} {Q : VK} (h : denX F (fLc fi g t e vs) σ H Q) :
    tLc (denI F fi) (denG F F.rep g is) (denT F.nw t) (denE F.nw e) vs σ H Q := by
  obtain ⟨ρ, W, I, q⟩ := h
  refine ⟨ρ, W, I, ?_⟩
  unfold fLc at q
  cases hfi : fi ρ W.S with
  | no => rw [hfi] at q; exact q.elim
  | er x S => rw [hfi] at q; exact q
  | ok ds S1 =>
    rw [hfi] at q
    have q1 : Post F (relX F H) W H σ (if ds.length ≤ LIM then noer (fun ys S2 => .ok (.ow ys) S2) (lcL g t e (wipeR ρ vs) ds [] S1) else .no) Q := q
    split at q1
    · rename_i hlen
      cases hl : lcL g t e (wipeR ρ vs) ds [] S1 with
      | no => rw [hl] at q1; exact q1.elim
      | er x S => rw [hl] at q1; exact q1.elim
      | ok ys S2 =>
        rw [hl] at q1
        have q1 : Post F (relX F H) W H σ (.ok (.ow ys) S2) Q := q1
        intro J Y G H1 W1 e1 g1 ok1 wk st yl Dl hD
        have nD : ∀ q, H1 q ≠ none → q ≠ Dl := fun q hq z => hq (z ▸ hD)
        have hD0 : H Dl = none := by
          cases z : H Dl with
          | none => rfl
          | some u => exact absurd hD (g1.ds Dl (by simp [z]))
        refine lc_it wk (fun i H' => ∃ W' acc ws, WOk W' H' ∧ Gr W1 H1 W' H' ∧ W'.M Dl = some 0 ∧ H' Dl = some (.lst ws) ∧ F.reps W' H' acc ws ∧ acc.length ≤ i ∧ lcL g t e (wipeR ρ vs) (ds.drop i) acc W'.S = .ok ys S2) ?_ ?_ ?_ ?_
        · obtain ⟨a, b⟩ := mask_new (o := .lst []) ok1 hD
          exact ⟨mask Dl W1, [], [], a, b, mask_self, upd_same, .nil, Nat.le_refl _, by rw [← e1] at hl; exact hl⟩
        · rintro i H' hi ⟨W', acc, ws, _, g', _⟩
          exact st W' H' g'.s
        · rintro i x H2 H3 hi ⟨W', acc, ws, ok', g', hM, hDl, hr, hacc, hres⟩ y
          have hdi : ds[i]? = some ds[i] := by simp [hi]
          obtain ⟨sm, rx⟩ := yl i ds[i] W' H2 x H3 g'.s ok' hdi y
          rw [List.drop_eq_getElem_cons hi] at hres
          unfold lcL at hres
          cases hg : g ds[i] (wipeR ρ vs) with
          | none => rw [hg] at hres; cases hres
          | some ρ1 =>
            rw [hg] at hres
            have g3 : Gr W1 H1 W' H3 := g'.trans (Gr.same sm)
            have ok3 := ok'.same sm
            have IE : EnvOk F W' H3 (wipe σ vs) (wipeR ρ vs) := ((I.env.gr g1).gr g3).wipe vs
            refine ⟨wipeR ρ vs, W', ds[i], ρ1, ⟨ok3, I.gr.trans (g1.trans g3), IE⟩, rx, hg, fun σ2 I2 w2 => ⟨?_, ?_⟩⟩
            · rw [w2 vs hv, ]
              apply List.ext_getElem?
              intro j
              rw [wipe_get, wipe_get]
              by_cases hj : j ∈ vs
              · simp only [hj, if_true]
                cases σ[j]? <;> rfl
              · simp only [hj, if_false]
            · refine ⟨ρ1, W', I2.nwF, ?_⟩
              have hres' : (t ρ1 W'.S).bind (fun b S1 => if b = true then (e ρ1 S1).bind fun y S2 => lcL g t e (wipeR ρ vs) (ds.drop (i + 1)) (acc ++ [y]) S2 else lcL g t e (wipeR ρ vs) (ds.drop (i + 1)) acc S1) = .ok ys S2 := hres
              cases ht : t ρ1 W'.S with
              | no => rw [ht] at hres'; cases hres'
              | er x S => rw [ht] at hres'; cases hres'
              | ok b S3 =>
                rw [ht] at hres'
                intro b' H4 W4 e4 g4 ok4 rb
                cases (show b = b' from rb)
                have hD4 : H4 Dl = some (.lst ws) := g4.ex Dl _ (sm _ _ hDl) fun l => by rw [hM]; simp
                have hM4 : W4.M Dl = some 0 := (g4.ms Dl (by rw [sm _ _ hDl]; simp)).trans hM
                have hr4 : F.reps W4 H4 acc ws := reps_gr ((Gr.same sm).trans g4).s hr
                cases b with
                | false =>
                  rw [if_neg Bool.false_ne_true]
                  exact ⟨W4, acc, ws, ok4, g3.trans g4, hM4, hD4, hr4, by omega, by rw [e4]; exact hres'⟩
                | true =>
                  rw [if_pos rfl]
                  have hres2 : (e ρ1 S3).bind (fun y S2 => lcL g t e (wipeR ρ vs) (ds.drop (i + 1)) (acc ++ [y]) S2) = .ok ys S2 := hres'
                  refine ⟨ρ1, W4, (I2.nwF).go g4 ok4, ?_⟩
                  rw [e4]
                  cases he : e ρ1 S3 with
                  | no => rw [he] at hres2; cases hres2
                  | er x S => rw [he] at hres2; cases hres2
                  | ok y S5 =>
                    rw [he] at hres2
                    intro v H5 W5 e5 g5 ok5 rv
                    have hD5 : H5 Dl = some (.lst ws) := g5.ex Dl _ hD4 fun l => by rw [hM4]; simp
                    have hM5 : W5.M Dl = some 0 := (g5.ms Dl (by rw [hD4]; simp)).trans hM4
                    have hr5 : F.reps W5 H5 acc ws := reps_gr g5.s hr4
                    have hh : hid W5.M (upd H5 Dl (.lst (ws ++ [v]))) = hid W5.M H5 := hid_own (by rw [hM5]; simp)
                    refine ⟨ws, hD5, ?_, W5, acc ++ [y], ws ++ [v], ok5.own hM5 (lst_code hD5), ?_, hM5, upd_same, ?_, by simp; omega, by rw [e5]; exact hres2⟩
                    · have := hr.len
                      have : acc.length < LIM := by omega
                      exact lim_lt (by omega)
                    · have z : Gr W1 H1 W5 H5 := g3.trans (g4.trans g5)
                      exact ⟨fun q hq => z.ms q hq, fun q o hq hl => by rw [upd_ne (nD q (by simp [hq]))]; exact z.ex q o hq hl, fun q hq => by rw [upd_ne (nD q hq)]; exact z.ds q hq, z.mu, z.tt⟩
                    · have a1 : F.reps W5 (upd H5 Dl (.lst (ws ++ [v]))) acc ws := by
                        show Reps _ _ _ (hid W5.M _) _ _
                        rw [hh]; exact hr5
                      have a2 : F.rep W5 (upd H5 Dl (.lst (ws ++ [v]))) y v := by
                        show Rep _ _ _ (hid W5.M _) _ _
                        rw [hh]; exact rv
                      exact a1.append (.cons a2 .nil)
        · rintro H' ⟨W', acc, ws, ok', g', hM, hDl, hr, _, hres⟩
          rw [List.drop_length] at hres
          unfold lcL at hres
          cases hres
          exact q1 _ H' W' rfl (g1.trans g') ok' ⟨Dl, ws, rfl, hD0, hM, hDl, hr⟩
    · exact q1.elim
section
variable {X : Cx} {F : Fm} {elt tg iter c : Expr} {ifs : List Expr} {scope : Scope} {own : List (Str × Nat)} {pos : Pos} {fi : Fn (List D)} {g : Tgt D} {is : List Nat} {t : Fn Bool} {e : Fn D}
theorem dts_nil : PTs X [] (denT F fYes) := ⟨fun pins s σ H Q I h => pts_nil.run pins s σ H Q I (by
  obtain ⟨ρ, W, J, q⟩ := h
  exact q.val J.ok rfl)⟩
theorem dts_one (h : PT X c (denT F t)) : PTs X [c] (denT F t) := pts_one h
theorem dx_lc (hc : X.calm = true) (hN : X.N.Nodup) (hi : PI X tg iter (denI F fi)) (ok : BlkOk X.N X.env.scope scope own)
    (hg : ∀ (s : Shared) (H : Hp) (C : Addr) (cl : List (Str × Addr)) (fp : List Addr), PG (X.blk s H scope (compEnvC scope cl C X.env) fp) tg (denG F F.rep g is))
    (ht : ∀ (s : Shared) (H : Hp) (C : Addr) (cl : List (Str × Addr)) (fp : List Addr), PTs (X.blk s H scope (compEnvC scope cl C X.env) fp) ifs (denT F.nw t))
    (he : ∀ (s : Shared) (H : Hp) (C : Addr) (cl : List (Str × Addr)) (fp : List Addr), PE (X.blk s H scope (compEnvC scope cl C X.env) fp) elt (denE F.nw e)) (hv : ∀ i ∈ is, i ∈ own.map (·.2) := by decide) (hs : ∀ x, foldedSetIterable iter X.env x = pure x := by intro _; rfl) :
    PE X (.ListComp elt [⟨tg, iter, ifs, 0⟩] scope pos) (denX F (fLc fi g t e (own.map (·.2)))) := (pe_lc hc hN hi ok hg ht he hs).imp fun _ _ _ h => den_lc hv h
end

/-! ### statements -/
inductive Fl where
  | nx (ρ : Rho) | rt (d : D) | bk (ρ : Rho) | ct (ρ : Rho) | xr (x : Exc) (ρ : Rho)
inductive SR where
  | mk (f : Fl) (S : Store)
  | no
abbrev Stm := Rho → Store → SR
def PostS (F : Fm) (En : Ends) (W : Wd) (H : Hp) : SR → Prop
  | .mk (.nx ρ) S => ∀ σ' H' W', W'.S = S → IF F W' H' σ' ρ → GrS W H W' H' → En.nx σ' H'
  | .mk (.bk ρ) S => ∀ σ' H' W', W'.S = S → IF F W' H' σ' ρ → GrS W H W' H' → En.bk σ' H'
  | .mk (.ct ρ) S => ∀ σ' H' W', W'.S = S → IF F W' H' σ' ρ → GrS W H W' H' → En.ct σ' H'
  | .mk (.rt d) S => ∀ v H' W', W'.S = S → WOk W' H' → Gr F.W0 F.H0 W' H' → F.rep W' H' d v → En.rt v H'
  | .mk (.xr x ρ) S => ∀ cls dd σ' H' W', W'.S = S → IF F W' H' σ' ρ → GrS W H W' H' → ERep F W' H' x cls dd → F.wish cls dd σ' H'
  | .no => False
def denS (F : Fm) (g : Stm) : TS := fun En σ H => ∃ ρ W, IF F W H σ ρ ∧ PostS F En W H (g ρ W.S)
section
variable {F : Fm} {En : Ends} {W W1 : Wd} {H H1 : Hp} {σ : L2.St} {ρ : Rho} {α β : Type} {rel : Wd → Hp → α → β → Prop}
theorem PostS.weaken {r : SR} (g : GrS W H W1 H1) (h : PostS F En W H r) : PostS F En W1 H1 r := by
  match r, h with
  | .mk (.nx ρ) S, h => exact fun σ' H' W' e I g' => h σ' H' W' e I (g.trans g')
  | .mk (.bk ρ) S, h => exact fun σ' H' W' e I g' => h σ' H' W' e I (g.trans g')
  | .mk (.ct ρ) S, h => exact fun σ' H' W' e I g' => h σ' H' W' e I (g.trans g')
  | .mk (.rt d) S, h => exact h
  | .mk (.xr x ρ) S, h => exact fun cls dd σ' H' W' e I g' hr => h cls dd σ' H' W' e I (g.trans g') hr
@[simp] def liftE (f : Fn α) (k : α → Rho → Store → SR) : Stm := fun ρ S => match f ρ S with
  | .ok a S1 => k a ρ S1
  | .er x S1 => .mk (.xr x ρ) S1
  | .no => .no
theorem PostS.bind {f : Fn α} {k : α → Rho → Store → SR} {Q : β → Hp → Prop} (I : IF F W H σ ρ) (h : PostS F En W H (liftE f k ρ W.S))
    (hk : ∀ c b H1 W1, Gr W H W1 H1 → WOk W1 H1 → rel W1 H1 c b → PostS F En W1 H1 (k c ρ W1.S) → Q b H1) : Post F rel W H σ (f ρ W.S) Q := by
  unfold liftE at h
  cases hf : f ρ W.S with
  | no => rw [hf] at h; exact h
  | er x S =>
    rw [hf] at h
    exact fun cls dd H' W' e g ok hr => h cls dd σ H' W' e (I.go g ok) g.s hr
  | ok a S =>
    rw [hf] at h
    intro b H' W' e g ok hr
    have h' : PostS F En W H (k a ρ S) := h
    rw [← e] at h'
    exact hk a b H' W' g ok hr (h'.weaken g.s)
@[simp] def sNil : Stm := fun ρ S => .mk (.nx ρ) S
@[simp] def sSeq (g1 g2 : Stm) : Stm := fun ρ S => match g1 ρ S with
  | .mk (.nx ρ1) S1 => g2 ρ1 S1
  | r => r
@[simp] def sSet (i : Nat) (f : Fn Sl) : Stm := liftE f fun sl ρ S => if i < ρ.length then .mk (.nx (ρ.set i sl)) S else .no
@[simp] def sExp (f : Fn D) : Stm := liftE f fun _ ρ S => .mk (.nx ρ) S
@[simp] def sRet (f : Fn D) : Stm := liftE f fun d _ S => .mk (.rt d) S
@[simp] def sRetN : Stm := fun _ S => .mk (.rt .non) S
@[simp] def sIf (t : Fn Bool) (g1 g2 : Stm) : Stm := liftE t fun b ρ S => if b = true then g1 ρ S else g2 ρ S
@[simp] def sTgt (f : Fn D) (g : Tgt D) : Stm := liftE f fun d ρ S => match g d ρ with
  | some ρ1 => .mk (.nx ρ1) S
  | none => .no
@[simp] def sPar (i j : Nat) (f1 f2 : Fn Sl) : Stm := liftE f1 fun a ρ S => liftE f2 (fun b ρ S => if i < ρ.length ∧ j < ρ.length then .mk (.nx ((ρ.set i a).set j b)) S else .no) ρ S
@[simp] def sFrz (i : Nat) (g : Stm) : Stm := fun ρ S => match ρ[i]? with
  | some (.ow ds) => g (ρ.set i (.fz (.lst ds))) S
  | _ => g ρ S
@[simp] def sApp (i : Nat) (f : Fn D) : Stm := fun ρ S => match ρ[i]? with
  | some (.ow ds) => liftE f (fun d ρ S => if ds.length < LIM then .mk (.nx (ρ.set i (.ow (ds ++ [d])))) S else .no) ρ S
  | _ => .no
/-- x[j] = e -/
@[simp] def sSetIx (i : Nat) (fe fj : Fn D) : Stm := fun ρ S => match ρ[i]? with
  | some (.ow ds) => liftE fe (fun d ρ S => liftE fj (fun k ρ S => match k with
    | .int z => (match ixN ds.length z with
      | some j => .mk (.nx (ρ.set i (.ow (ds.set j d)))) S
      | none => .no)
    | _ => .no) ρ S) ρ S
  | _ => .no
/-- x[j] op= e, ints -/
@[simp] def sAugIx (op : Int → Int → Int) (i : Nat) (fj fe : Fn D) : Stm := fun ρ S => match ρ[i]? with
  | some (.ow ds) => liftE fj (fun k ρ S => match k with
    | .int z => (match ixN ds.length z with
      | some j => (match ds[j]? with
        | some (.int u) => liftE fe (fun d ρ S => match d with
          | .int w => .mk (.nx (ρ.set i (.ow (ds.set j (.int (op u w)))))) S
          | _ => .no) ρ S
        | _ => .no)
      | none => .no)
    | _ => .no) ρ S
  | _ => .no
/-- x op= e, ints -/
@[simp] def sAug (op : Int → Int → Int) (i : Nat) (f : Fn D) : Stm := fun ρ S => match ρ[i]? with
  | some (.fz (.int u)) => liftE f (fun d ρ S => match d with
    | .int w => .mk (.nx (ρ.set i (.fz (.int (op u w))))) S
    | _ => .no) ρ S
  | _ => .no
def sFor (fi : Fn (List D)) (g : Tgt D) (body : Stm) : Stm := liftE fi fun ds ρ S => go g body ds ρ S
where go (g : Tgt D) (body : Stm) : List D → Rho → Store → SR
  | [], ρ, S => .mk (.nx ρ) S
  | d :: ds, ρ, S => match g d ρ with
    | none => .no
    | some ρ1 => match body ρ1 S with
      | .mk (.nx ρ2) S2 => go g body ds ρ2 S2
      | .mk (.ct ρ2) S2 => go g body ds ρ2 S2
      | .mk (.bk ρ2) S2 => .mk (.nx ρ2) S2
      | r => r
def sWhile (n : Nat) (t : Fn Bool) (body : Stm) : Stm := match n with
  | 0 => fun _ _ => .no
  | n + 1 => liftE t fun b ρ S => if b = true then (match body ρ S with
      | .mk (.nx ρ2) S2 => sWhile n t body ρ2 S2
      | .mk (.ct ρ2) S2 => sWhile n t body ρ2 S2
      | .mk (.bk ρ2) S2 => .mk (.nx ρ2) S2
      | r => r) else .mk (.nx ρ) S
end
section
variable {X : Cx} {F : Fm} {st : Stmt} {rest body : List Stmt} {e c tg iter : Expr} {g g1 g2 : Stm} {f : Fn D} {fx : Fn Sl} {t : Fn Bool} {pos pos' : Pos} {W W' : Wd} {H H' : Hp} {σ : L2.St} {ρ : Rho} {En : Ends}
theorem PostS.nil (I : IF F W H σ ρ) (h : PostS F En W H (.mk (.nx ρ) W.S)) : En.nx σ H := h σ H W rfl I (GrS.refl _ _)
theorem dss_nil : PSs X [] (denS F sNil) := pss_nil.imp fun En σ H ⟨ρ, W, I, q⟩ => PostS.nil I q
theorem PostS.seq (h : PostS F En W H (sSeq g1 g2 ρ W.S)) : PostS F { En with nx := denS F g2 En } W H (g1 ρ W.S) := by
  unfold sSeq at h
  match hg : g1 ρ W.S, h with
  | .mk (.nx ρ1) S1, h => exact fun σ' H' W' e I g' => ⟨ρ1, W', I, by rw [e]; exact PostS.weaken g' h⟩
  | .mk (.bk ρ1) S1, h => exact h
  | .mk (.ct ρ1) S1, h => exact h
  | .mk (.rt d) S1, h => exact h
  | .mk (.xr x ρ1) S1, h => exact h
  | .no, h => exact h
theorem dss_cons (h1 : PS X st (denS F g1)) (h2 : PSs X rest (denS F g2)) : PSs X (st :: rest) (denS F (sSeq g1 g2)) := (pss_cons h1 h2).imp fun En σ H ⟨ρ, W, I, q⟩ => ⟨ρ, W, I, q.seq⟩
theorem dss_one (h1 : PS X st (denS F g1)) : PSs X [st] (denS F g1) := pss_one h1
theorem ds_expr (he : PE X e (denE F f)) (hs : swapsWith e none pos.line X.env = pure false := by rfl) : PS X (.Expr e pos) (denS F (sExp f)) := (ps_expr he hs).imp fun En σ H ⟨ρ, W, I, q⟩ => ⟨ρ, W, I, q.bind I fun d v H1 W1 g ok r q1 => PostS.nil (I.go g ok) q1⟩
theorem ds_ret (he : PE X e (denE F f)) : PS X (.Return (some e) pos) (denS F (sRet f)) := (ps_ret he).imp fun En σ H ⟨ρ, W, I, q⟩ => ⟨ρ, W, I, q.bind I fun d v H1 W1 g ok r q1 => q1 v H1 W1 rfl ok (I.gr.trans g) r⟩
theorem ds_retN : PS X (.Return none pos) (denS F sRetN) := ps_retN.imp fun En σ H ⟨ρ, W, I, q⟩ => q .non H W rfl I.ok I.gr .non
theorem ds_pass : PS X (.Pass pos) (denS F sNil) := ps_pass.imp fun En σ H ⟨ρ, W, I, q⟩ => PostS.nil I q
theorem ds_break : PS X (.Break pos) (denS F fun ρ S => .mk (.bk ρ) S) := ps_break.imp fun En σ H ⟨ρ, W, I, q⟩ => q σ H W rfl I (GrS.refl _ _)
theorem ds_continue : PS X (.Continue pos) (denS F fun ρ S => .mk (.ct ρ) S) := ps_continue.imp fun En σ H ⟨ρ, W, I, q⟩ => q σ H W rfl I (GrS.refl _ _)
theorem ds_never : PS X st (denS F fun _ _ => .no) := ps_never.imp fun En σ H ⟨ρ, W, I, q⟩ => q
theorem ds_if {a b : List Stmt} (hc : PT X c (denT F t)) (ha : PSs X a (denS F g1)) (hb : PSs X b (denS F g2)) : PS X (.If c a b pos) (denS F (sIf t g1 g2)) := (ps_if hc ha hb).imp fun En σ H ⟨ρ, W, I, q⟩ =>
  ⟨ρ, W, I, q.bind I fun d v H1 W1 g ok r q1 => by
    cases (show d = v from r)
    cases d with
    | true =>
      rw [if_pos rfl]
      exact ⟨ρ, W1, I.go g ok, q1⟩
    | false =>
      rw [if_neg Bool.false_ne_true]
      exact ⟨ρ, W1, I.go g ok, q1⟩⟩
/-- a slot's own list is apart from a new one -/
theorem EnvOk.setX {H0 : Hp} {W0 : Wd} {i : Nat} {sl : Sl} {v : V} (e : EnvOk F W H σ ρ) (e0 : EnvOk F W0 H0 σ ρ) (g0 : Gr F.W0 F.H0 W0 H0) (r : relX F H0 W H sl v) (hi : i < ρ.length) : EnvOk F W H (σ.set i (some v)) (ρ.set i sl) := by
  cases sl with
  | fz d => exact e.set r hi
  | ow ds =>
    obtain ⟨p, vs, rfl, hn, hm, hp, hr⟩ := r
    refine e.setOw hm ?_ hp hr hi fun j es hj hρ hσ => ?_
    · cases z : F.H0 p with
      | none => rfl
      | some u => exact absurd hn (g0.ds p (by simp [z]))
    · obtain ⟨q, ws, a, b, c, d, _⟩ := e0.ow j es hρ
      rw [hσ] at a
      cases a
      rw [hn] at d; cases d
  | un => exact r.elim
  | nw _ _ _ => exact r.elim
  | ex _ => exact r.elim
theorem ds_set {i : Nat} (h : PG X tg (gName i)) (he : PE X e (denX F fx)) (hs : swapsWithSole [tg] e pos.line X.env = pure false := by rfl) (hw : swappedStores [tg] e X.env = pure none := by rfl) (h1 : (assignEach [tg] X.env).map (·.2) = [assign tg X.env] := by rfl) :
    PS X (.Assign [tg] e pos) (denS F (sSet i fx)) := (ps_asg he h hs hw h1).imp fun En σ H ⟨ρ, W, I, q⟩ =>
  ⟨ρ, W, I, q.bind I fun sl v H1 W1 g ok r q1 => by
    split at q1
    · rename_i hi
      exact PostS.nil (σ := σ.set i (some v)) ⟨ok, I.gr.trans g, (I.env.gr g).setX I.env I.gr r hi⟩ q1
    · exact q1.elim⟩
/-- y = [.. for ..] -/
theorem ds_setLc {i : Nat} {y : Str} {py : Pos} {elt tg iter : Expr} {ifs : List Expr} {scope : Scope} {own : List (Str × Nat)} {spos : Pos} {fi : Fn (List D)} {gt : Tgt D} {is : List Nat} {t : Fn Bool} {fe : Fn D} (hc : X.calm = true) (hN : X.N.Nodup) (hy : X.N[i]? = some y) (hyl : X.env.scope.names.lookup y = some .local)
    (hsw : swapsWith (.ListComp elt [⟨tg, iter, ifs, 0⟩] scope pos) (some (.Name y py)) spos.line X.env = pure true) (hi : PI X tg iter (denI F fi)) (ok : BlkOk X.N X.env.scope scope own)
    (hg : ∀ (s : Shared) (H : Hp) (C : Addr) (cl : List (Str × Addr)) (fp : List Addr), PG (X.blk s H scope (compEnvC scope cl C X.env) fp) tg (denG F F.rep gt is))
    (ht : ∀ (s : Shared) (H : Hp) (C : Addr) (cl : List (Str × Addr)) (fp : List Addr), PTs (X.blk s H scope (compEnvC scope cl C X.env) fp) ifs (denT F.nw t))
    (he : ∀ (s : Shared) (H : Hp) (C : Addr) (cl : List (Str × Addr)) (fp : List Addr), PE (X.blk s H scope (compEnvC scope cl C X.env) fp) elt (denE F.nw fe)) (hv : ∀ i ∈ is, i ∈ own.map (·.2) := by decide) (hs : ∀ x, foldedSetIterable iter X.env x = pure x := by intro _; rfl) :
    PS X (.Assign [.Name y py] (.ListComp elt [⟨tg, iter, ifs, 0⟩] scope pos) spos) (denS F (sSet i (fLc fi gt t fe (own.map (·.2))))) :=
  (ps_setLc hc hN hy hyl hsw hi ok hg ht he hs).imp fun En σ H ⟨ρ, W, I, q⟩ => den_lc (Q := fun x H1 => gName i x σ H1 En.nx) hv ⟨ρ, W, I, q.bind I fun sl v H1 W1 g ok r q1 => by
    split at q1
    · rename_i hi
      exact PostS.nil (σ := σ.set i (some v)) ⟨ok, I.gr.trans g, (I.env.gr g).setX I.env I.gr r hi⟩ q1
    · exact q1.elim⟩
theorem ds_tgt {gt : Tgt D} {is : List Nat} (h : PG X tg (denG F F.rep gt is)) (he : PE X e (denE F f)) (hs : swapsWithSole [tg] e pos.line X.env = pure false := by rfl) (hw : swappedStores [tg] e X.env = pure none := by rfl) (h1 : (assignEach [tg] X.env).map (·.2) = [assign tg X.env] := by rfl) :
    PS X (.Assign [tg] e pos) (denS F (sTgt f gt)) := (ps_asg he h hs hw h1).imp fun En σ H ⟨ρ, W, I, q⟩ =>
  ⟨ρ, W, I, q.bind I fun d v H1 W1 g ok r q1 => by
    split at q1
    · rename_i ρ1 h1
      exact ⟨ρ, W1, d, ρ1, I.go g ok, r, h1, fun σ' I' _ => PostS.nil I' q1⟩
    · exact q1.elim⟩
theorem relX.gr {H0 : Hp} {W1 W2 : Wd} {H1 H2 : Hp} {sl : Sl} {v : V} (g : Gr W1 H1 W2 H2) (r : relX F H0 W1 H1 sl v) : relX F H0 W2 H2 sl v := by
  cases sl with
  | fz d => exact rep_gr g.s r
  | ow ds =>
    obtain ⟨p, vs, rfl, hn, hm, hp, hr⟩ := r
    exact ⟨p, vs, rfl, hn, (g.ms p (by simp [hp])).trans hm, g.ex p _ hp fun l => by rw [hm]; simp, reps_gr g.s hr⟩
  | un => exact r
  | nw _ _ _ => exact r
  | ex _ => exact r
/-- a, b = x, y -/
theorem ds_par {i j : Nat} {x y : Str} {a b : Expr} {f1 f2 : Fn Sl} {px py pt : Pos} {kt k2 pt2} (hc : X.calm = true) (hN : X.N.Nodup) (hi : X.N[i]? = some x) (hj : X.N[j]? = some y) (hij : i ≠ j)
    (hx : X.env.scope.names.lookup x = some .local) (hy : X.env.scope.names.lookup y = some .local) (ha : PE X a (denX F f1)) (hb : PE X b (denX F f2))
    (hw : swappedStores [.Tuple [.Name x px, .Name y py] kt pt] (.Tuple [a, b] k2 pt2) X.env = pure (some [x, y])) (h1 : starEach [a, b] X.env = (false, eval a X.env) :: starEach [b] X.env := by rfl) (h2 : starEach [b] X.env = (false, eval b X.env) :: starEach [] X.env := by rfl)
    (hs : swapsWithSole [.Tuple [.Name x px, .Name y py] kt pt] (.Tuple [a, b] k2 pt2) pos.line X.env = pure false := by rfl) :
    PS X (.Assign [.Tuple [.Name x px, .Name y py] kt pt] (.Tuple [a, b] k2 pt2) pos) (denS F (sPar i j f1 f2)) :=
  (ps_par hc hN hi hj hij hx hy (pa_cons ha (pa_cons hb pa_nil h2) h1) hw hs).imp fun En σ H ⟨ρ, W, I, q⟩ => ⟨ρ, W, I, q.bind I fun sl v H1 W1 g ok r q1 => by
    have I1 := I.go g ok
    refine ⟨ρ, W1, I1, q1.bind I1 fun sl2 v2 H2 W2 g2 ok2 r2 q2 => ?_⟩
    split at q2
    · rename_i hz
      refine ⟨v, v2, rfl, PostS.nil (σ := (σ.set i (some v)).set j (some v2)) ⟨ok2, I1.gr.trans g2, ?_⟩ q2⟩
      have e1 : EnvOk F W2 H2 (σ.set i (some v)) (ρ.set i sl) := (I1.env.gr g2).setX I.env I.gr (relX.gr g2 r) hz.1
      have e0 : EnvOk F W1 H1 (σ.set i (some v)) (ρ.set i sl) := I1.env.setX I.env I.gr r hz.1
      exact e1.setX e0 I1.gr r2 (by rw [List.length_set]; exact hz.2)
    · exact q2.elim⟩
/-- a slot's own list is let be seen by all -/
theorem IF.frz {i : Nat} {ds : List D} {p : Addr} (I : IF F W H σ ρ) (hρ : ρ[i]? = some (.ow ds)) (hσ : σ[i]? = some (some (.ref p))) (hm : W.M p = some 0) : IF F (unmask p W) H σ (ρ.set i (.fz (.lst ds))) := by
  have hi : i < ρ.length := (List.getElem?_eq_some_iff.mp hρ).1
  obtain ⟨p', vs, a, b, c, d, r⟩ := I.env.ow i ds hρ
  rw [hσ] at a
  cases a
  have rm : ∀ d v, F.rep W H d v → F.rep (unmask p W) H d v := fun d v h => rep_gr (unmask_grS hm) h
  refine ⟨unmask_ok I.ok hm, ⟨fun q hq => (unmask_ne fun z => hq (by rw [z]; exact c)).trans (I.gr.ms q hq), I.gr.ex, I.gr.ds, I.gr.mu, I.gr.tt⟩, ?_⟩
  refine ⟨by rw [List.length_set]; exact I.env.len, fun j d' h => ?_, fun j d' h => ?_, fun j k ds es q h1 h2 h3 h4 => ?_, fun j c ns xs h => ?_, fun j x h => ?_, I.env.tk⟩
  · by_cases z : i = j
    · subst z
      rw [List.getElem?_set_self hi] at h
      cases h
      exact ⟨.ref p, hσ, .lst (hid_some.mpr ⟨unmask_self, d⟩) (reps_gr (unmask_grS hm) r)⟩
    · rw [List.getElem?_set_ne z] at h
      obtain ⟨v, h1, h2⟩ := I.env.fz j d' h
      exact ⟨v, h1, rm _ _ h2⟩
  · by_cases z : i = j
    · subst z
      rw [List.getElem?_set_self hi] at h
      cases h
    · rw [List.getElem?_set_ne z] at h
      obtain ⟨q, ws, h1, h2, h3, h4, h5⟩ := I.env.ow j d' h
      have hne : q ≠ p := fun e => z (I.env.dj i j ds d' p hρ h hσ (e ▸ h1))
      exact ⟨q, ws, h1, (unmask_ne hne).trans h2, h3, h4, reps_gr (unmask_grS hm) h5⟩
  · by_cases z : i = j
    · subst z
      rw [List.getElem?_set_self hi] at h1
      cases h1
    · by_cases z2 : i = k
      · subst z2
        rw [List.getElem?_set_self hi] at h2
        cases h2
      · rw [List.getElem?_set_ne z] at h1
        rw [List.getElem?_set_ne z2] at h2
        exact I.env.dj j k ds es q h1 h2 h3 h4
  · by_cases z : i = j
    · subst z
      rw [List.getElem?_set_self hi] at h
      cases h
    · rw [List.getElem?_set_ne z] at h
      obtain ⟨q, C, dx, ws, h1, h2, h3, h4, h5, h6, h7⟩ := I.env.nw j c ns xs h
      have hne : q ≠ p := ne_of h5 d (by intro z; cases z)
      exact ⟨q, C, dx, ws, h1, h2, (unmask_ne hne).trans h3, h4, h5, h6, reps_gr (unmask_grS hm) h7.1, h7.2⟩
  · by_cases z : i = j
    · subst z
      rw [List.getElem?_set_self hi] at h
      cases h
    · rw [List.getElem?_set_ne z] at h
      obtain ⟨q, cls, dd, a, b, c⟩ := I.env.ex j x h
      exact ⟨q, cls, dd, a, b, erep_gr (unmask_grS hm) c⟩
theorem frz_in {i : Nat} {t : TS} (ht : ∀ En σ H, denS F g En σ H → t En σ H) : ∀ En σ H, denS F (sFrz i g) En σ H → t En σ H := fun En σ H ⟨ρ, W, I, q⟩ => by
  unfold sFrz at q
  split at q
  · rename_i ds hρ
    obtain ⟨p, vs, a, b, c, d, r⟩ := I.env.ow i ds hρ
    exact ht En σ H ⟨_, unmask p W, I.frz hρ a b, q.weaken (unmask_grS b)⟩
  · exact ht En σ H ⟨ρ, W, I, q⟩
theorem dss_frz (i : Nat) {sts : List Stmt} (h : PSs X sts (denS F g)) : PSs X sts (denS F (sFrz i g)) := h.imp (frz_in fun _ _ _ h => h)
theorem ds_frz (i : Nat) (h : PS X st (denS F g)) : PS X st (denS F (sFrz i g)) := h.imp (frz_in fun _ _ _ h => h)
end
end Bx

namespace Bx
open PySem L2

section
variable {X : Cx} {F : Fm} {st : Stmt} {rest body : List Stmt} {a b e c tg iter : Expr} {es : List Expr} {g g1 g2 : Stm} {f f1 f2 : Fn D} {fs : Fn (List D)} {fx : Fn Sl} {t : Fn Bool} {pos pos' p : Pos} {W W' : Wd} {H H' : Hp} {σ : L2.St} {ρ : Rho} {En : Ends}
/-- a frame's own list at slot i changes -/
theorem IF.own {i : Nat} {ds es : List D} {p : Addr} {vs ws : List V} (I : IF F W H σ ρ) (hρ : ρ[i]? = some (.ow ds)) (hσ : σ[i]? = some (some (.ref p))) (hr : F.reps W H es ws) : IF F W (upd H p (.lst ws)) σ (ρ.set i (.ow es)) ∧ GrS W H W (upd H p (.lst ws)) := by
  have hi : i < ρ.length := (List.getElem?_eq_some_iff.mp hρ).1
  obtain ⟨p', vs', a, hm, c, d, r⟩ := I.env.ow i ds hρ
  rw [hσ] at a
  cases a
  have hh : ∀ o, hid W.M (upd H p o) = hid W.M H := fun o => hid_own (by rw [hm]; simp)
  have rk : ∀ d v o, F.rep W H d v → F.rep W (upd H p o) d v := fun d v o h => by
    show Rep _ _ _ (hid W.M _) _ _
    rw [hh]; exact h
  have rks : ∀ d v o, F.reps W H d v → F.reps W (upd H p o) d v := fun d v o h => by
    show Reps _ _ _ (hid W.M _) _ _
    rw [hh]; exact h
  refine ⟨⟨I.ok.own hm (lst_code d), ⟨I.gr.ms, fun q o hq hl => by rw [upd_ne fun z => by rw [z, c] at hq; cases hq]; exact I.gr.ex q o hq hl, fun q hq => by
    by_cases z : q = p
    · rw [z, upd_same]; simp
    · rw [upd_ne z]; exact I.gr.ds q hq, I.gr.mu, I.gr.tt⟩, ?_⟩, ⟨fun q o n hq => ⟨n, by rw [upd_ne fun z => by rw [z, hm] at n; cases n]; exact hq⟩, fun _ _ h => h, rfl⟩⟩
  refine ⟨by rw [List.length_set]; exact I.env.len, fun j d' h => ?_, fun j d' h => ?_, fun j k ds' es' q h1 h2 h3 h4 => ?_, fun j c ns xs h => ?_, fun j x h => ?_, I.env.tk⟩
  · by_cases z : i = j
    · subst z
      rw [List.getElem?_set_self hi] at h
      cases h
    · rw [List.getElem?_set_ne z] at h
      obtain ⟨v, h1, h2⟩ := I.env.fz j d' h
      exact ⟨v, h1, rk _ _ _ h2⟩
  · by_cases z : i = j
    · subst z
      rw [List.getElem?_set_self hi] at h
      cases h
      exact ⟨p, ws, hσ, hm, c, upd_same, rks _ _ _ hr⟩
    · rw [List.getElem?_set_ne z] at h
      obtain ⟨q, ws', h1, h2, h3, h4, h5⟩ := I.env.ow j d' h
      have hne : q ≠ p := fun e => z (I.env.dj i j ds d' p hρ h hσ (e ▸ h1))
      exact ⟨q, ws', h1, h2, h3, (upd_ne hne).trans h4, rks _ _ _ h5⟩
  · have one : ∀ (k : Nat) (es' : List D), (ρ.set i (Sl.ow es))[k]? = some (Sl.ow es') → ∃ z, ρ[k]? = some (Sl.ow z) := fun k es' h => by
      by_cases z : i = k
      · subst z; exact ⟨ds, hρ⟩
      · rw [List.getElem?_set_ne z] at h; exact ⟨es', h⟩
    obtain ⟨z1, e1⟩ := one j ds' h1
    obtain ⟨z2, e2⟩ := one k es' h2
    exact I.env.dj j k z1 z2 q e1 e2 h3 h4
  · by_cases z : i = j
    · subst z
      rw [List.getElem?_set_self hi] at h
      cases h
    · rw [List.getElem?_set_ne z] at h
      obtain ⟨q, C, dx, ws', h1, h2, h3, h4, h5, h6, h7⟩ := I.env.nw j c ns xs h
      have hne : q ≠ p := ne_of h5 d (by intro z; cases z)
      exact ⟨q, C, dx, ws', h1, h2, h3, h4, (upd_ne hne).trans h5, h6, rks _ _ _ h7.1, h7.2⟩
  · by_cases z : i = j
    · subst z
      rw [List.getElem?_set_self hi] at h
      cases h
    · rw [List.getElem?_set_ne z] at h
      obtain ⟨q, cls, dd, a, b, c2⟩ := I.env.ex j x h
      refine ⟨q, cls, dd, a, b, erep_gr ⟨fun q o n hq => ⟨n, by rw [upd_ne fun z => by rw [z, hm] at n; cases n]; exact hq⟩, fun _ _ h => h, rfl⟩ c2⟩
/-- x.append(e) -/
theorem ds_app {i : Nat} {call : Expr} (pe : PE X call (tBM X.K "list" rAppend (tVar i) (tCons (denE F f) tNil))) (hs : swapsWith call none pos.line X.env = pure false := by rfl) : PS X (.Expr call pos) (denS F (sApp i f)) := (ps_expr pe hs).imp fun En σ H ⟨ρ, W, I, q⟩ => by
  unfold sApp at q
  split at q
  · rename_i ds h
    obtain ⟨q0, vs, hσ, hm, h0, hp, hr⟩ := I.env.ow i ds h
    refine ⟨.ref q0, hσ, .inl ⟨rfl, _, SqL.of hp⟩, ρ, W, I, q.bind I fun d v H1 W1 g1 ok r q1 => ?_⟩
    have I1 := I.go g1 ok
    split at q1
    · rename_i hz
      have hp1 : H1 q0 = some (.lst vs) := g1.ex q0 _ hp fun l => by rw [hm]; simp
      have hr1 : F.reps W1 H1 ds vs := reps_gr g1.s hr
      obtain ⟨I2, g2⟩ := I1.own (vs := vs) (es := ds ++ [d]) (ws := vs ++ [v]) h hσ (hr1.append (.cons r .nil))
      exact ⟨q0, vs, v, rfl, rfl, hp1, by rw [← hr.len]; exact lim_lt hz, PostS.nil I2 (q1.weaken g2)⟩
    · exact q1.elim
  · exact q.elim
/-- x[j] = e -/
theorem ds_setix {i : Nat} {o j : Expr} {fj : Fn D} {sp : Pos} (hx : PE X o (tVar i)) (hj : PE X j (denE F fj)) (he : PE X e (denE F f))
    (ha : ∀ v, assign (.Subscript o j sp) X.env v = (do
      let ov ← holding [v] (eval o X.env)
      let iv ← holding [v, ov] (eval j X.env)
      standAt sp
      holding [v, ov, iv] (setItem ov iv v)
      release [v, ov, iv] []) := by intro _; rfl) (hs : swapsWithSole [.Subscript o j sp] e pos.line X.env = pure false := by rfl) (hw : swappedStores [.Subscript o j sp] e X.env = pure none := by rfl)
    (h1 : (assignEach [.Subscript o j sp] X.env).map (·.2) = [assign (.Subscript o j sp) X.env] := by rfl) :
    PS X (.Assign [.Subscript o j sp] e pos) (denS F (sSetIx i f fj)) := (ps_asg he (pg_sub hx hj set_list ha) hs hw h1).imp fun En σ H ⟨ρ, W, I, q⟩ => by
  unfold sSetIx at q
  split at q
  · rename_i ds h
    obtain ⟨q0, vs, hσ, hm, h0, hp, hr⟩ := I.env.ow i ds h
    refine ⟨ρ, W, I, q.bind I fun d v H1 W1 g1 ok r q1 => ⟨.ref q0, hσ, ρ, W1, I.go g1 ok, q1.bind (I.go g1 ok) fun k kv H2 W2 g2 ok2 r2 q2 => ?_⟩⟩
    split at q2
    · split at q2
      · rename_i hk
        cases r2
        have I2 := (I.go g1 ok).go g2 ok2
        have hp2 : H2 q0 = some (.lst vs) := (g1.trans g2).ex q0 _ hp fun l => by rw [hm]; simp
        obtain ⟨I3, g3⟩ := I2.own (vs := vs) (es := ds.set _ d) (ws := vs.set _ v) h hσ ((reps_gr (g1.trans g2).s hr).set _ (rep_gr g2.s r))
        exact ⟨q0, vs, _, _, rfl, rfl, hp2, by rw [← hr.len]; exact hk, PostS.nil I3 (q2.weaken g3)⟩
      · exact q2.elim
    · exact q2.elim
  · exact q.elim
/-- x op= e -/
theorem ds_aug {i : Nat} {op : Operator} {o : Int → Int → Int} {x : Str} {xp : Pos} (hN : X.N.Nodup) (hi : X.N[i]? = some x) (hx : Loc X.env.scope x) (he : PE X e (denE F f)) (ho : PIp X op (ipI o)) (hf : X.fn x = true ∨ X.env.scope.names.lookup x = some .local := by first | exact .inl rfl | exact .inr rfl | assumption) :
    PS X (.AugAssign (.Name x xp) op e pos) (denS F (sAug o i f)) := (ps_aug hN hi hx he ho hf).imp fun En σ H ⟨ρ, W, I, q⟩ => by
  unfold sAug at q
  split at q
  · rename_i u h
    obtain ⟨v, hσ, r⟩ := I.env.fz i _ h
    cases r
    refine ⟨_, hσ, ρ, W, I, q.bind I fun d v H1 W1 g1 ok r q1 => ?_⟩
    split at q1
    · cases r
      exact ⟨_, _, rfl, rfl, PostS.nil (σ := σ.set i _) ⟨ok, I.gr.trans g1, (I.env.gr g1).set (.int _) (List.getElem?_eq_some_iff.mp h).1⟩ q1⟩
    · exact q1.elim
  · exact q.elim

/-! ### loops -/
theorem ds_for {fi : Fn (List D)} {gt : Tgt D} {is : List Nat} (hp : PassesOwn (model X.prog X.w) X.A X.env X.xe) (hc : X.calm = true) (hi : PI X tg iter (denI F fi)) (hg : PG X tg (denG F F.rep gt is)) (hb : PSs X body (denS F g))
    (hs : ∀ x, foldedSetIterable iter X.env x = pure x := by intro _; rfl) : PS X (.For tg iter body [] pos) (denS F (sFor fi gt g)) := (ps_for hp hc hi hg hb hs).imp fun En σ H ⟨ρ, W, I, q⟩ => by
  refine ⟨ρ, W, I, ?_⟩
  unfold sFor liftE at q
  cases hf : fi ρ W.S with
  | no => rw [hf] at q; exact q
  | er x S =>
    rw [hf] at q
    exact fun cls dd H' W' e g ok hr => q cls dd σ H' W' e (I.go g ok) g.s hr
  | ok ds S =>
    rw [hf] at q
    intro J Y G H1 W1 e1 g1 ok1 wk st yl
    have q1 : PostS F En W1 H1 (sFor.go gt g ds ρ W1.S) := by
      rw [e1]
      exact PostS.weaken g1.s q
    refine for_it wk (fun i σ' H' => ∃ ρ' W', IF F W' H' σ' ρ' ∧ GrS W1 H1 W' H' ∧ PostS F En W' H' (sFor.go gt g (ds.drop i) ρ' W'.S)) ⟨ρ, W1, I.go g1 ok1, GrS.refl _ _, q1⟩ ?_ ?_ ?_
    · rintro i σ' H' hi ⟨ρ', W', I', g', _⟩
      exact st W' H' g'
    · rintro i x σ' H2 H3 hi ⟨ρ', W', I', g', q'⟩ y
      have hdi : ds[i]? = some ds[i] := by simp [hi]
      obtain ⟨sm, rx⟩ := yl i ds[i] W' H2 x H3 g' I'.ok hdi y
      rw [List.drop_eq_getElem_cons hi] at q'
      unfold sFor.go at q'
      have I3 := I'.go (Gr.same sm) (I'.ok.same sm)
      have g3 : GrS W1 H1 W' H3 := g'.trans (Gr.same sm).s
      cases hg' : gt ds[i] ρ' with
      | none => rw [hg'] at q'; exact q'.elim
      | some ρ1 =>
        rw [hg'] at q'
        refine ⟨ρ', W', ds[i], ρ1, I3, rx, hg', fun σ2 I2 _ => ⟨ρ1, W', I2, ?_⟩⟩
        have q2 : PostS F En W' H3 (match g ρ1 W'.S with
          | .mk (.nx ρ2) S2 => sFor.go gt g (ds.drop (i + 1)) ρ2 S2
          | .mk (.ct ρ2) S2 => sFor.go gt g (ds.drop (i + 1)) ρ2 S2
          | .mk (.bk ρ2) S2 => .mk (.nx ρ2) S2
          | r => r) := PostS.weaken (Gr.same sm).s q'
        clear q'
        revert q2
        match g ρ1 W'.S with
        | .mk (.nx ρ2) S2 => exact fun q2 σ4 H4 W4 e4 I4 g4 => ⟨ρ2, W4, I4, g3.trans g4, by rw [e4]; exact PostS.weaken g4 q2⟩
        | .mk (.ct ρ2) S2 => exact fun q2 σ4 H4 W4 e4 I4 g4 => ⟨ρ2, W4, I4, g3.trans g4, by rw [e4]; exact PostS.weaken g4 q2⟩
        | .mk (.bk ρ2) S2 => exact fun q2 => q2
        | .mk (.rt d) S2 => exact fun q2 => q2
        | .mk (.xr x ρ2) S2 => exact fun q2 => q2
        | .no => exact fun q2 => q2
    · rintro σ' H' ⟨ρ', W', I', g', q'⟩
      rw [List.drop_length] at q'
      exact PostS.nil I' q'
theorem while_post {gb : Stm} {t : Fn Bool} : ∀ (n : Nat) (W : Wd) (H : Hp) (ρ : Rho), PostS F En W H (sWhile n t gb ρ W.S) → ∃ m, n = m + 1 := fun n W H ρ h => by
  cases n with
  | zero => exact h.elim
  | succ m => exact ⟨m, rfl⟩
theorem ds_while (n : Nat) (hp : PassesOwn (model X.prog X.w) X.A X.env X.xe) (hc : PT X c (denT F t)) (hb : PSs X body (denS F g)) : PS X (.While c body [] pos) (denS F (sWhile n t g)) := (ps_while hp hc hb).imp fun En σ H ⟨ρ, W, I, q⟩ => by
  refine ⟨fun m σ' H' => ∃ ρ' W', IF F W' H' σ' ρ' ∧ PostS F En W' H' (sWhile m t g ρ' W'.S), ⟨n, ρ, W, I, q⟩, ?_⟩
  rintro m σ' H' ⟨ρ', W', I', q'⟩
  obtain ⟨k, rfl⟩ := while_post m W' H' ρ' q'
  unfold sWhile at q'
  refine ⟨ρ', W', I', q'.bind I' fun b b' H1 W1 g1 ok1 r1 q1 => ?_⟩
  cases (show b = b' from r1)
  have I1 := I'.go g1 ok1
  cases b with
  | false =>
    rw [if_neg Bool.false_ne_true]
    exact PostS.nil I1 q1
  | true =>
    rw [if_pos rfl]
    refine ⟨fun σ2 H2 => ∃ ρ2 W2, IF F W2 H2 σ2 ρ2 ∧ PostS F En W2 H2 (sWhile k t g ρ2 W2.S), fun σ2 H2 h => ⟨k, Nat.lt_succ_self k, h⟩, ρ', W1, I1, ?_⟩
    have q1 : PostS F En W1 H1 (match g ρ' W1.S with
      | .mk (.nx ρ2) S2 => sWhile k t g ρ2 S2
      | .mk (.ct ρ2) S2 => sWhile k t g ρ2 S2
      | .mk (.bk ρ2) S2 => .mk (.nx ρ2) S2
      | r => r) := q1
    revert q1
    match g ρ' W1.S with
    | .mk (.nx ρ2) S2 => exact fun q2 σ4 H4 W4 e4 I4 g4 => ⟨ρ2, W4, I4, by rw [e4]; exact PostS.weaken g4 q2⟩
    | .mk (.ct ρ2) S2 => exact fun q2 σ4 H4 W4 e4 I4 g4 => ⟨ρ2, W4, I4, by rw [e4]; exact PostS.weaken g4 q2⟩
    | .mk (.bk ρ2) S2 => exact fun q2 => q2
    | .mk (.rt d) S2 => exact fun q2 => q2
    | .mk (.xr x ρ2) S2 => exact fun q2 => q2
    | .no => exact fun q2 => q2
end

/-! ### defs -/
abbrev Sem := List D → Store → R D
def startR (n : Nat) (ds : List D) : Rho := ds.map .fz ++ List.replicate (n - ds.length) .un
def fnSem (n : Nat) (g : Stm) : Sem := fun ds S => match g (startR n ds) S with
  | .mk (.nx _) S' => .ok .non S'
  | .mk (.rt d) S' => .ok d S'
  | .mk (.xr x _) S' => .er x S'
  | _ => .no
def fmOf (K : PySem.W.Frag) (mg : Str → Option Value) (T : Addr → Option Str) (W : Wd) (H : Hp) (E : XK) (self : Addr := (0 : Nat)) : Fm := ⟨K, mg, W, H, fun cls dd _ H' => E cls dd H', self, T, none⟩
def spD (K : PySem.W.Frag) (mg : Str → Option Value) (T : Addr → Option Str) (np : Nat) (f : Sem) : Sp := fun vs H Q E => ∃ ds W, vs.length = np ∧ (WOk W H ∧ W.T = T) ∧ Reps K mg W.μ (hid W.M H) ds vs ∧ Post (fmOf K mg T W H E) (fmOf K mg T W H E).rep W H [] (f ds W.S) Q
theorem startR_env {K : PySem.W.Frag} {mg : Str → Option Value} {T : Addr → Option Str} {W : Wd} {H : Hp} {E : XK} {N : List Str} {ds : List D} {vs : List V} (hT : W.T = T) (h : Reps K mg W.μ (hid W.M H) ds vs) : EnvOk (fmOf K mg T W H E) W H (L2.start N vs) (startR N.length ds) := by
  have no : ∀ (i : Nat) (s : Sl), (startR N.length ds)[i]? = some s → s = .un ∨ ∃ d, s = .fz d := fun i s h => by
    unfold startR at h
    rw [List.getElem?_append] at h
    split at h
    · rw [List.getElem?_map] at h
      obtain ⟨d, _, rfl⟩ := Option.map_eq_some_iff.mp h
      exact .inr ⟨d, rfl⟩
    · rw [List.getElem?_replicate] at h
      split at h
      · cases h; exact .inl rfl
      · cases h
  refine ⟨by simp [startR, L2.start, h.len], fun i d e => ?_, fun i d e => ?_, fun i j d es p e => ?_, fun i c ns xs e => ?_, fun i x e => ?_, hT⟩
  · unfold startR at e
    rw [List.getElem?_append] at e
    split at e
    · rename_i hi
      rw [List.getElem?_map] at e
      obtain ⟨d', e1, e2⟩ := Option.map_eq_some_iff.mp e
      cases e2
      obtain ⟨v, a, b⟩ := h.get (i := i) e1
      refine ⟨v, ?_, b⟩
      unfold L2.start
      rw [List.getElem?_append_left (by rw [List.length_map, ← h.len]; simpa using hi), List.getElem?_map, a]
      rfl
    · rw [List.getElem?_replicate] at e
      split at e <;> cases e
  · rcases no i _ e with z | ⟨_, z⟩ <;> cases z
  · rcases no i _ e with z | ⟨_, z⟩ <;> cases z
  · rcases no i _ e with z | ⟨_, z⟩ <;> cases z
  · rcases no i _ e with z | ⟨_, z⟩ <;> cases z
section
variable {P : Program} {w : World} {K : PySem.W.Frag} {mg : Str → Option Value} {base : Heap} {T : Addr → Option Str}
/-- a def by its body's reading -/
theorem okD {x qual : Str} {st : Stmt} {f : Addr} {fd : FuncData} {N ps : List Str} {k : Nat} {g : Stm} (Fn : Fun K x qual st f fd) (S : FnScope N ps (defScope st))
    (hbody : ∀ (cdv : Value) (A : Around) (outer : List Env) (s : Shared) (H : Hp) (E : XK) (W : Wd), Room k (A.deeper (PyProof.Rows.envOfC qual (defScope st) s.heap.objs.size f cdv)) →
      PSs (cxOf (L2.CX P w) P w K mg base N qual (defScope st) f cdv A outer s H E) (defBody st) (denS (fmOf K mg T W H E) g)) : FnOk P w K mg base (L2.CX P w) (k + 1) f fd ps (spD K mg T ps.length (fnSem N.length g)) := by
  refine Fn.okX S (fun vs H Q E h => ?_) (fun cdv A outer s H vs Q E hr h => ?_)
  · obtain ⟨ds, W, h1, _⟩ := h
    exact h1
  · obtain ⟨ds, W, h1, ⟨ok, hT⟩, hr2, q⟩ := h
    refine ⟨_, hbody cdv A outer s H E W hr, startR N.length ds, W, ⟨ok, Gr.refl _ _, startR_env hT hr2⟩, ?_⟩
    unfold fnSem at q
    revert q
    match g (startR N.length ds) W.S with
    | .mk (.nx ρ) S => exact fun q σ' H' W' e I g => q .non H' W' e I.gr I.ok .non
    | .mk (.rt d) S => exact fun q v H' W' e ok g r => q v H' W' e g ok r
    | .mk (.xr x ρ) S => exact fun q cls dd σ' H' W' e I g r => q cls dd H' W' e I.gr I.ok r
    | .mk (.bk ρ) S => exact fun q => q.elim
    | .mk (.ct ρ) S => exact fun q => q.elim
    | .no => exact fun q => q.elim
/-- a def as a callee -/
def Callee (P : Program) (w : World) (K : PySem.W.Frag) (mg : Str → Option Value) (base : Heap) (T : Addr → Option Str) (k : Nat) (x : Str) (np : Nat) (f : Sem) : Prop :=
  ∃ fa fd ps, mg x = some (.ref fa) ∧ FnOk P w K mg base (L2.CX P w) k fa fd ps (spD K mg T np f) ∧ PySem.W.keepIn K (.ref fa) = true ∧ Binds K fd ps []
end
section
variable {X : Cx} {F : Fm} {e : Expr} {es : List Expr} {fs : Fn (List D)} {pos p : Pos} {x : Str} {k : Nat}
theorem Post.wish {α β : Type} {F1 F2 : Fm} {rel1 rel2 : Wd → Hp → α → β → Prop} {W : Wd} {H : Hp} {σ1 σ2 : L2.St} {r : R α} {Q : β → Hp → Prop} (hmg : F2.mg = F1.mg) (hK : F2.K = F1.K) (hrel : ∀ W H a b, rel2 W H a b → rel1 W H a b) (hw : ∀ cls dd H', F1.wish cls dd σ1 H' → F2.wish cls dd σ2 H') (h : Post F1 rel1 W H σ1 r Q) : Post F2 rel2 W H σ2 r Q := by
  cases r with
  | ok a S => exact fun b H' W' e g ok r => h b H' W' e g ok (hrel _ _ _ _ r)
  | er x S =>
    refine fun cls dd H' W' e g ok r => hw cls dd H' (h cls dd H' W' e g ok ?_)
    obtain ⟨C, h1, h2, h3⟩ := r
    refine ⟨C, by rw [← hmg]; exact h1, h2, ?_⟩
    cases hx : x.fld with
    | none => rw [hx] at h3; exact h3
    | some fs =>
      rw [hx] at h3
      obtain ⟨d, vs, a, b, c⟩ := h3
      refine ⟨d, vs, a, b, ?_⟩
      show Reps F1.K F1.mg _ _ _ _
      rw [← hK, ← hmg]
      exact c
  | no => exact h
theorem de_call {np : Nat} {f : Sem} (c : Callee X.prog X.w X.K X.mg X.base F.T k x np f) (hr : Room k X.A) (hg : Gl X x) (tk : Takes X F.wish) (ha : PA X (e :: es) (denA F fs)) (hnp : (e :: es).length = np)
    (hlen : ∀ ρ S ds S', fs ρ S = .ok ds S' → ds.length = np) (hK : F.K = X.K := by rfl) (hmg : F.mg = X.mg := by rfl)
    (hdb : (x == ("__debug__" : Str)) = false := by decide) (he : starEach (e :: es) X.env = (false, eval e X.env) :: starEach es X.env := by rfl) (hpl : (backTo pos (starEach es X.env)).any (·.1) = false := by rfl) :
    PE X (.Call (.Name x p) (e :: es) [] pos) (denE F (fUn f fs)) := by
  obtain ⟨fa, fd, ps, hm, G, hk, hb⟩ := c
  refine (pe_callS G hr hg hm hk hb (E := WE F.wish) (fun σ => passAt tk σ) ha hdb he hpl).imp fun σ H Q ⟨ρ, W, I, q⟩ => ⟨ρ, W, I, ?_⟩
  unfold fUn at q
  cases hf : fs ρ W.S with
  | no => rw [hf] at q; exact q
  | er x S => rw [hf] at q; exact q
  | ok ds S =>
    rw [hf] at q
    have q : Post F F.rep W H σ (f ds S) Q := q
    intro vs H1 W1 e1 g1 ok1 r1
    refine ⟨ds, W1, ?_, ⟨ok1, (I.go g1 ok1).env.tk⟩, by rw [← hK, ← hmg]; exact r1, ?_⟩
    · rw [← r1.len]; exact hlen _ _ _ _ hf
    · rw [e1]
      refine Post.wish (F1 := F) (rel1 := F.rep) hmg.symm hK.symm (fun W H a b h => ?_) (fun cls dd H' h => h) (q.weaken g1)
      show Rep F.K F.mg _ _ _ _
      rw [hK, hmg]; exact h
end
end Bx

namespace Bx
open PySem L2

/-! ### instances -/
theorem zip_look {K : PySem.W.Frag} {mg : Str → Option Value} {μ : Nat → Option Addr} {H : Hp} (nm : Str) : ∀ {ns : List Str} {xs : List D} {vs : List V} {d : D}, Reps K mg μ H xs vs → (ns.zip xs).lookup nm = some d → ∃ v, (ns.zip vs).lookup nm = some v ∧ Rep K mg μ H d v
  | [], _, _, _, _, h => by cases h
  | n :: ns, _, _, _, .nil, h => by cases h
  | n :: ns, _, _, d', .cons (d := d) (v := v) (ds := ds) (vs := vs) r1 r2, h => by
    rw [List.zip_cons_cons, List.lookup_cons] at h ⊢
    cases e : nm == n with
    | true =>
      rw [e] at h
      cases h
      exact ⟨_, rfl, r1⟩
    | false =>
      rw [e] at h
      exact zip_look nm r2 h
def gFld (cn nm : Str) : D → Store → R D
  | .ins c ns xs, S => if c = cn then (match (ns.zip xs).lookup nm with
    | some d => .ok d S
    | none => .no) else .no
  | _, _ => .no
section
variable {X : Cx} {F : Fm} {a b e : Expr} {es : List Expr} {f f1 f2 : Fn D} {fs : Fn (List D)} {pos pos' p : Pos} {cn nm : Str} {C : Addr} {W : Wd} {H : Hp} {σ : L2.St} {ρ : Rho}
theorem de_fld (he : PE X e (denE F f)) (hC : F.mg cn = some (.ref C)) (cl : Cls F.K C) (na : NoAttr F.K C nm) (hb : attributeBase e nm X.env (eval e X.env) = eval e X.env := by rfl) (hK : F.K = X.K := by rfl) : PE X (.Attribute e nm pos) (denE F (fUn (gFld cn nm) f)) :=
  (pe_fld he hb).imp fun σ H Q ⟨ρ, W, I, q⟩ => ⟨ρ, W, I, q.bind fun d v H1 W1 g ok r q1 => by
    cases r with
    | @ins a C' dx c ns vs ds h1 h2 h3 h4 =>
      by_cases e1 : c = cn
      · subst e1
        rw [hC] at h1
        cases h1
        have q1 : Post F F.rep W1 H1 σ (if c = c then (match (ns.zip ds).lookup nm with
          | some d => .ok d W1.S
          | none => .no) else .no) Q := q1
        rw [if_pos rfl] at q1
        cases hd : (ns.zip ds).lookup nm with
        | none => rw [hd] at q1; exact q1.elim
        | some d' =>
          rw [hd] at q1
          obtain ⟨v, hv, r'⟩ := zip_look nm h4 hd
          exact ⟨a, C, dx, _, v, rfl, hid_le _ _ h2, by rw [← hK]; exact cl, by rw [← hK]; exact na, hv, Post.val (rel := F.rep) ok q1 r'⟩
      · have q1 : Post F F.rep W1 H1 σ (if c = cn then (match (ns.zip ds).lookup nm with
          | some d => .ok d W1.S
          | none => .no) else .no) Q := q1
        rw [if_neg e1] at q1
        exact q1.elim
    | _ => exact q1.elim⟩
def isIns (cn : Str) : D → Bool
  | .ins c _ _ => decide (c = cn)
  | _ => false
/-- a property of an own class -/
def gProp (cn : Str) (f : Sem) : D → Store → R D := fun d S => if isIns cn d = true then noer (fun x S1 => .ok x S1) (f [d] S) else .no
theorem ins_rep {d : D} {v : V} (h : F.rep W H d v) (hi : isIns cn d = true) (hC : F.mg cn = some (.ref C)) : ∃ a dx fs, v = .ref a ∧ H a = some (.ins C dx fs) := by
  cases h with
  | @ins a C' dx c ns vs ds h1 h2 h3 h4 =>
    have : c = cn := by simpa [isIns] using hi
    subst this
    rw [hC] at h1
    cases h1
    exact ⟨a, dx, _, rfl, hid_le _ _ h2⟩
  | _ => cases hi
theorem de_prop {sem : Sem} {k : Nat} {pr ga : Addr} {fd : FuncData} {ps : List Str} (he : PE X e (denE F f)) (hC : F.mg cn = some (.ref C)) (cl : Cls X.K C) (hp : PropOf X.K C nm pr ga) (G : FnOk X.prog X.w X.K X.mg X.base (L2.CX X.prog X.w) k ga fd ps (spD X.K X.mg F.T 1 sem))
    (hr : Room (k + 1) X.A) (hb : Binds X.K fd ps []) (hab : attributeBase e nm X.env (eval e X.env) = eval e X.env := by rfl) (hK : F.K = X.K := by rfl) (hmg : F.mg = X.mg := by rfl) : PE X (.Attribute e nm pos) (denE F (fUn (gProp cn sem) f)) :=
  (pe_prop he cl hp G hr hb .nil passL hab).imp fun σ H Q ⟨ρ, W, I, q⟩ => ⟨ρ, W, I, q.bind fun d v H1 W1 g ok r q1 => by
    unfold gProp at q1
    split at q1
    · rename_i hi
      obtain ⟨a, dx, fs, rfl, ha⟩ := ins_rep r hi hC
      refine ⟨a, dx, fs, rfl, ha, [d], W1, rfl, ⟨ok, (I.go g ok).env.tk⟩, by rw [← hK, ← hmg]; exact .cons r .nil, ?_⟩
      revert q1
      cases sem [d] W1.S with
      | ok x S =>
        intro q1 b H' W' e g ok r
        exact q1 b H' W' e g ok (by
          show Rep F.K F.mg _ _ _ _
          rw [hK, hmg]; exact r)
      | er x S => exact fun q => q.elim
      | no => exact fun q => q.elim
    · exact q1.elim⟩

/-! ### making one -/
abbrev SemI := List D → Store → R (List Str × List D)
@[simp] def fMake (cn : Str) (f : SemI) (fs : Fn (List D)) : Fn D := fun ρ S => (fs ρ S).bind fun ds S1 => (f ds S1).bind fun p S2 => .ok (.ins cn p.1 p.2) S2
def spI (K : PySem.W.Frag) (mg : Str → Option Value) (T : Addr → Option Str) (C : Addr) (np : Nat) (f : SemI) : Sp := fun vs H Q E => ∃ x dx vs' ds W H1, vs = .ref x :: vs' ∧ vs'.length = np ∧ H = upd (upd H1 dx (.own x)) x (.ins C dx []) ∧ H1 x = none ∧ H1 dx = none ∧ dx ≠ x ∧ (WOk W H1 ∧ W.T = T) ∧ Reps K mg W.μ (hid W.M H1) ds vs' ∧
  match f ds W.S with
  | .ok (ns, xs) S' => ∀ H' W' ws dx', W'.S = S' → Gr W H1 W' H' → WOk W' H' → W'.M x = some 0 → H' x = some (.ins C dx' (ns.zip ws)) → ns.length = ws.length → Reps K mg W'.μ (hid W'.M H') xs ws → Q .non H'
  | .er x S' => ∀ cls dd H' W', W'.S = S' → Gr W H1 W' H' → WOk W' H' → ERep (fmOf K mg T W H1 E) W' H' x cls dd → E cls dd H'
  | .no => False
theorem de_make {f : SemI} {k np : Nat} {fa : Addr} {fd : FuncData} {ps : List Str} {E : XK} (M : Mk X.K C fa) (G : FnOk X.prog X.w X.K X.mg X.base (L2.CX X.prog X.w) k fa fd ps (spI X.K X.mg F.T C np f)) (hr : Room (k + 1) X.A) (hg : Gl X cn) (hm : X.mg cn = some (.ref C)) (hb : Binds X.K fd ps [])
    (hw : ∀ cls dd σ H, F.wish cls dd σ H = E cls dd H) (tk : Takes X F.wish) (ha : PA X (e :: es) (denA F fs)) (hlen : ∀ ρ S ds S', fs ρ S = .ok ds S' → ds.length = np) (hK : F.K = X.K := by rfl) (hmg : F.mg = X.mg := by rfl)
    (hdb : (cn == ("__debug__" : Str)) = false := by decide) (he : starEach (e :: es) X.env = (false, eval e X.env) :: starEach es X.env := by rfl) (hpl : (backTo pos (starEach es X.env)).any (·.1) = false := by rfl) :
    PE X (.Call (.Name cn p) (e :: es) [] pos) (denE F (fMake cn f fs)) :=
  (pe_make M G hr hg hm hb .nil (E := E) (passes_call tk fun cls d σ H h => by rw [hw]; exact h) ha hdb he hpl).imp fun σ H Q ⟨ρ, W, I, q⟩ => ⟨ρ, W, I, by
    unfold fMake at q
    cases hf : fs ρ W.S with
    | no => rw [hf] at q; exact q
    | er x S => rw [hf] at q; exact q
    | ok ds S =>
      rw [hf] at q
      have q : Post F F.rep W H σ ((f ds S).bind fun p S2 => .ok (.ins cn p.1 p.2) S2) Q := q
      intro vs H1 W1 e1 g1 ok1 r1 x dx hx hdx hne
      refine ⟨x, dx, vs, ds, W1, H1, by rw [List.append_nil], ?_, rfl, hx, hdx, hne, ⟨ok1, (I.go g1 ok1).env.tk⟩, by rw [← hK, ← hmg]; exact r1, ?_⟩
      · rw [← r1.len]; exact hlen _ _ _ _ hf
      · rw [e1]
        cases hs : f ds S with
        | no => rw [hs] at q; exact q.elim
        | er y S2 =>
          rw [hs] at q
          intro cls dd H' W' e g ok r
          rw [← hw cls dd σ]
          refine q cls dd H' W' e (g1.trans g) ok ?_
          obtain ⟨C', h1, h2, h3⟩ := r
          refine ⟨C', by rw [hmg]; exact h1, h2, ?_⟩
          cases hx : y.fld with
          | none => rw [hx] at h3; exact h3
          | some fs =>
            rw [hx] at h3
            obtain ⟨d, ws, a, b, c⟩ := h3
            refine ⟨d, ws, a, b, ?_⟩
            show Reps F.K F.mg _ _ _ _
            rw [hK, hmg]
            exact c
        | ok nx S2 =>
          rw [hs] at q
          obtain ⟨ns, xs⟩ := nx
          intro H' W' ws dx' e g ok hM hH hl r
          refine ⟨rfl, ?_⟩
          have q : Post F F.rep W H σ (.ok (.ins cn ns xs) S2) Q := q
          have hx0 : H x = none := by
            cases z : H x with
            | none => rfl
            | some u => exact absurd hx (g1.ds x (by simp [z]))
          refine q (.ref x) H' (unmask x W') e (unmask_gr hM hx0 (g1.trans g)) (unmask_ok ok hM) (.ins (by rw [hmg]; exact hm) (hid_some.mpr ⟨unmask_self, hH⟩) hl ?_)
          rw [hK, hmg]
          exact Reps.mono (fun _ _ h => h) (unmask_same hM) _ _ r⟩
def isNw : Sl → Bool
  | .nw _ _ _ => true
  | _ => false
/-- self.nm = e, of the instance that is being made -/
@[simp] def sFld (cn : Str) (i : Nat) (nm : Str) (f : Fn D) : Stm := fun ρ S => match ρ[i]? with
  | some (.nw c ns xs) => liftE f (fun d ρ S => if c = cn ∧ ns.length < 100 ∧ nm ∉ ns ∧ ρ.countP isNw ≤ 1 then .mk (.nx (ρ.set i (.nw c (ns ++ [nm]) (xs ++ [d])))) S else .no) ρ S
  | _ => .no
theorem putF_new {nm : Str} {v : V} : ∀ {fs : List (Str × V)}, nm ∉ fs.map (·.1) → putF nm v fs = fs ++ [(nm, v)]
  | [], _ => rfl
  | (g, u) :: fs, h => by
    have h1 : ¬ g = nm := fun e => h (by simp [e])
    have h2 : nm ∉ fs.map (·.1) := fun e => h (by simp only [List.map_cons, List.mem_cons]; exact .inr e)
    show (if g = nm then (g, v) :: fs else (g, u) :: putF nm v fs) = _
    rw [if_neg h1, putF_new h2]
    rfl
theorem zip_snoc {α β : Type} : ∀ {xs : List α} {ys : List β} {x : α} {y : β}, xs.length = ys.length → (xs ++ [x]).zip (ys ++ [y]) = xs.zip ys ++ [(x, y)]
  | [], [], _, _, _ => rfl
  | a :: xs, b :: ys, x, y, h => by
    have h' : xs.length = ys.length := by simpa using h
    show (a, b) :: (xs ++ [x]).zip (ys ++ [y]) = _
    rw [zip_snoc h']
    rfl
theorem fst_zip {α β : Type} : ∀ {xs : List α} {ys : List β}, xs.length = ys.length → (xs.zip ys).map (·.1) = xs
  | [], [], _ => rfl
  | a :: xs, b :: ys, h => by
    have h' : xs.length = ys.length := by simpa using h
    show a :: (xs.zip ys).map (·.1) = _
    rw [fst_zip h']
theorem one_nw : ∀ {ρ : Rho} {i j : Nat} {c c' : Str} {ns ns' : List Str} {xs xs' : List D}, ρ.countP isNw ≤ 1 → ρ[i]? = some (.nw c ns xs) → ρ[j]? = some (.nw c' ns' xs') → i = j
  | [], _, _, _, _, _, _, _, _, _, h, _ => by simp at h
  | s :: ρ, 0, 0, _, _, _, _, _, _, _, _, _ => rfl
  | s :: ρ, 0, j + 1, c, c', ns, ns', xs, xs', hc, h1, h2 => by
    exfalso
    simp at h1
    subst h1
    have h3 : 0 < ρ.countP isNw := List.countP_pos_iff.mpr ⟨_, List.mem_of_getElem? (by simpa using h2), rfl⟩
    rw [List.countP_cons] at hc
    have h4 : ρ.countP isNw + 1 ≤ 1 := hc
    omega
  | s :: ρ, i + 1, 0, c, c', ns, ns', xs, xs', hc, h1, h2 => by
    exfalso
    simp at h2
    subst h2
    have h3 : 0 < ρ.countP isNw := List.countP_pos_iff.mpr ⟨_, List.mem_of_getElem? (by simpa using h1), rfl⟩
    rw [List.countP_cons] at hc
    have h4 : ρ.countP isNw + 1 ≤ 1 := hc
    omega
  | s :: ρ, i + 1, j + 1, c, c', ns, ns', xs, xs', hc, h1, h2 => by
    have : ρ.countP isNw ≤ 1 := by
      rw [List.countP_cons] at hc
      omega
    exact congrArg (· + 1) (one_nw (i := i) (j := j) this (by simpa using h1) (by simpa using h2))
theorem ds_fld {i : Nat} {o : Expr} (ho : PE X o (tVar i)) (hC : F.mg cn = some (.ref C)) (cl : Cls F.K C) (na : NoAttr F.K C nm) (he : PE X e (denE F f)) (hs : swapsWith e (some (.Attribute o nm pos')) pos.line X.env = pure false := by rfl) (hK : F.K = X.K := by rfl) :
    PS X (.Assign [.Attribute o nm pos'] e pos) (denS F (sFld cn i nm f)) := (ps_fld ho he hs).imp fun En σ H ⟨ρ, W, I, q⟩ => by
  unfold sFld at q
  split at q
  · rename_i c ns xs h
    have q := q
    · have dummy : True := trivial
      refine ⟨ρ, W, I, q.bind I fun d v H1 W1 g ok r q1 => ?_⟩
      have I1 := I.go g ok
      split at q1
      · rename_i hz
        obtain ⟨hz0, hz1, hz2, hz3⟩ := hz
        subst hz0
        obtain ⟨p, C', dx, vs, hσ, hm, hM, h0, hH, hl, hr, hself⟩ := I1.env.nw i c ns xs h
        rw [hC] at hm
        cases hm
        have hi : i < ρ.length := (List.getElem?_eq_some_iff.mp h).1
        refine ⟨.ref p, hσ, p, C, dx, ns.zip vs, rfl, hH, by rw [← hK]; exact cl, by rw [← hK]; exact na, ?_, ?_⟩
        · rw [List.length_zip]; omega
        · rw [putF_new (by rw [fst_zip hl]; exact hz2), ← zip_snoc hl]
          have hh : ∀ o, hid W1.M (upd H1 p o) = hid W1.M H1 := fun o => hid_own (by rw [hM]; simp)
          have rk : ∀ d v o, F.rep W1 H1 d v → F.rep W1 (upd H1 p o) d v := fun d v o h => by
            show Rep _ _ _ (hid W1.M _) _ _
            rw [hh]; exact h
          have rks : ∀ d v o, F.reps W1 H1 d v → F.reps W1 (upd H1 p o) d v := fun d v o h => by
            show Reps _ _ _ (hid W1.M _) _ _
            rw [hh]; exact h
          have nq : ∀ q u, H1 q = some u → (∀ C dx fs, u ≠ .ins C dx fs) → q ≠ p := fun q u hq hn z => by
            rw [z, hH] at hq
            cases hq
            exact hn _ _ _ rfl
          refine PostS.nil (W := W1) (H := upd H1 p (.ins C dx ((ns ++ [nm]).zip (vs ++ [v])))) ⟨I1.ok.own hM (ins_code hH), ⟨I1.gr.ms, fun q o hq hl => by rw [upd_ne fun z => by rw [z, h0] at hq; cases hq]; exact I1.gr.ex q o hq hl, fun q hq => by
            by_cases z : q = p
            · rw [z, upd_same]; simp
            · rw [upd_ne z]; exact I1.gr.ds q hq, I1.gr.mu, I1.gr.tt⟩, ?_⟩ (q1.weaken ⟨fun q o n hq => ⟨n, by rw [upd_ne fun z => by rw [z, hM] at n; cases n]; exact hq⟩, fun _ _ h => h, rfl⟩)
          refine ⟨by rw [List.length_set]; exact I1.env.len, fun j d' h => ?_, fun j d' h => ?_, fun j k ds es q h1 h2 h3 h4 => ?_, fun j c' ns' xs' h' => ?_, fun j x h' => ?_, I1.env.tk⟩
          · by_cases z : i = j
            · subst z
              rw [List.getElem?_set_self hi] at h
              cases h
            · rw [List.getElem?_set_ne z] at h
              obtain ⟨v, a, b⟩ := I1.env.fz j d' h
              exact ⟨v, a, rk _ _ _ b⟩
          · by_cases z : i = j
            · subst z
              rw [List.getElem?_set_self hi] at h
              cases h
            · rw [List.getElem?_set_ne z] at h
              obtain ⟨q, ws, a, b, c, d, e⟩ := I1.env.ow j d' h
              exact ⟨q, ws, a, b, c, (upd_ne (nq q _ d (fun _ _ _ z => by cases z))).trans d, rks _ _ _ e⟩
          · by_cases z : i = j
            · subst z
              rw [List.getElem?_set_self hi] at h1
              cases h1
            · by_cases z2 : i = k
              · subst z2
                rw [List.getElem?_set_self hi] at h2
                cases h2
              · rw [List.getElem?_set_ne z] at h1
                rw [List.getElem?_set_ne z2] at h2
                exact I1.env.dj j k ds es q h1 h2 h3 h4
          · by_cases z : i = j
            · subst z
              rw [List.getElem?_set_self hi] at h'
              cases h'
              exact ⟨p, C, dx, vs ++ [v], hσ, hC, hM, h0, upd_same, by simp [hl], (rks _ _ _ hr).append (.cons (rk _ _ _ r) .nil), hself⟩
            · rw [List.getElem?_set_ne z] at h'
              exact absurd (one_nw hz3 h h') z
          · by_cases z : i = j
            · subst z
              rw [List.getElem?_set_self hi] at h'
              cases h'
            · rw [List.getElem?_set_ne z] at h'
              obtain ⟨q, cls, dd, a, b, c2⟩ := I1.env.ex j x h'
              exact ⟨q, cls, dd, a, b, erep_gr ⟨fun q o n hq => ⟨n, by rw [upd_ne fun z => by rw [z, hM] at n; cases n]; exact hq⟩, fun _ _ h => h, rfl⟩ c2⟩
      · exact q1.elim
  · exact q.elim
end
def startI (cn : Str) (n : Nat) (ds : List D) : Rho := .nw cn [] [] :: (ds.map .fz ++ List.replicate (n - (ds.length + 1)) .un)
def fnI (cn : Str) (n : Nat) (g : Stm) : SemI := fun ds S => match g (startI cn n ds) S with
  | .mk (.nx ρ) S' => (match ρ with
    | .nw c ns xs :: _ => if c = cn then .ok (ns, xs) S' else .no
    | _ => .no)
  | .mk (.xr x _) S' => .er x S'
  | _ => .no
section
variable {P : Program} {w : World} {K : PySem.W.Frag} {mg : Str → Option Value} {base : Heap} {T : Addr → Option Str}
theorem okI {x qual cn : Str} {st : Stmt} {f C : Addr} {fd : FuncData} {N ps : List Str} {k np : Nat} {g : Stm} (Fn : Fun K x qual st f fd) (S : FnScope N ps (defScope st)) (hps : ps.length = np + 1) (hN : 0 < N.length) (hC : mg cn = some (.ref C))
    (hbody : ∀ (cdv : Value) (A : Around) (outer : List Env) (s : Shared) (H H1 : Hp) (E : XK) (W : Wd) (self : Addr), Room k (A.deeper (PyProof.Rows.envOfC qual (defScope st) s.heap.objs.size f cdv)) →
      PSs (cxOf (L2.CX P w) P w K mg base N qual (defScope st) f cdv A outer s H E) (defBody st) (denS (fmOf K mg T W H1 E self) g)) : FnOk P w K mg base (L2.CX P w) (k + 1) f fd ps (spI K mg T C np (fnI cn N.length g)) := by
  refine Fn.okX S (fun vs H Q E h => ?_) (fun cdv A outer s H vs Q E hr h => ?_)
  · obtain ⟨x, dx, vs', ds, W, H1, rfl, h1, _⟩ := h
    rw [hps, ← h1]; rfl
  · obtain ⟨x, dx, vs', ds, W, H1, rfl, h1, rfl, hx, hdx, hne, ⟨ok, hT⟩, hr2, q⟩ := h
    have hx' : upd H1 dx (.own x) x = none := by rw [upd_ne (Ne.symm hne)]; exact hx
    have sm := same_new (o := .own x) hdx
    obtain ⟨ok2, g2⟩ := mask_new (o := .ins C dx []) (ok.same sm) hx'
    have g3 : Gr W H1 (mask x W) (upd (upd H1 dx (.own x)) x (.ins C dx [])) := (Gr.same sm).trans g2
    refine ⟨_, hbody cdv A outer s _ H1 E W x hr, startI cn N.length ds, mask x W, ⟨ok2, g3, ?_⟩, ?_⟩
    · have rr : Reps K mg (mask x W).μ (hid (mask x W).M (upd (upd H1 dx (.own x)) x (.ins C dx []))) ds vs' := Reps.mono g3.s.mu g3.s.same _ _ hr2
      have e0 := startR_env (K := K) (mg := mg) (W := mask x W) (E := E) (N := List.replicate (N.length - 1) ("" : Str)) (T := T) hT rr
      have no : ∀ (i : Nat) (s : Sl), (startI cn N.length ds)[i + 1]? = some s → s = .un ∨ ∃ d, s = .fz d := fun i s h => by
        unfold startI at h
        rw [List.getElem?_cons_succ, List.getElem?_append] at h
        split at h
        · rw [List.getElem?_map] at h
          obtain ⟨d, _, rfl⟩ := Option.map_eq_some_iff.mp h
          exact .inr ⟨d, rfl⟩
        · rw [List.getElem?_replicate] at h
          split at h
          · cases h; exact .inl rfl
          · cases h
      refine ⟨?_, fun i d e => ?_, fun i d e => ?_, fun i j d es p e => ?_, fun i c ns xs e => ?_, fun i c e => ?_, hT⟩
      · simp [startI, L2.start, hr2.len]
        all_goals omega
      · cases i with
        | zero => cases e
        | succ i =>
          unfold startI at e
          rw [List.getElem?_cons_succ, List.getElem?_append] at e
          split at e
          · rename_i hi
            rw [List.getElem?_map] at e
            obtain ⟨d', e1, e2⟩ := Option.map_eq_some_iff.mp e
            cases e2
            obtain ⟨v, a, b⟩ := rr.get (i := i) e1
            refine ⟨v, ?_, b⟩
            unfold L2.start
            rw [List.map_cons, List.cons_append, List.getElem?_cons_succ, List.getElem?_append_left (by rw [List.length_map, ← hr2.len]; simpa using hi), List.getElem?_map, a]
            rfl
          · rw [List.getElem?_replicate] at e
            split at e <;> cases e
      · cases i with
        | zero => cases e
        | succ i => rcases no i _ e with z | ⟨_, z⟩ <;> cases z
      · cases i with
        | zero => cases e
        | succ i => rcases no i _ e with z | ⟨_, z⟩ <;> cases z
      · cases i with
        | zero =>
          cases e
          exact ⟨x, C, dx, [], rfl, hC, mask_self, hx, upd_same, rfl, .nil, rfl⟩
        | succ i => rcases no i _ e with z | ⟨_, z⟩ <;> cases z
      · cases i with
        | zero => cases e
        | succ i => rcases no i _ e with z | ⟨_, z⟩ <;> cases z
    · show PostS (fmOf K mg T W H1 E x) _ (mask x W) _ (g (startI cn N.length ds) W.S)
      unfold fnI at q
      revert q
      match g (startI cn N.length ds) W.S with
      | .mk (.nx ρ) S =>
        intro q σ' H' W' e I g
        cases ρ with
        | nil => exact q.elim
        | cons sl tl =>
          cases sl with
          | nw c ns xs =>
            by_cases hc : c = cn
            · subst hc
              have q : (match (if c = c then R.ok (ns, xs) S else .no : R (List Str × List D)) with
                | .ok (ns, xs) S' => ∀ H' W' ws dx', W'.S = S' → Gr W H1 W' H' → WOk W' H' → W'.M x = some 0 → H' x = some (.ins C dx' (ns.zip ws)) → ns.length = ws.length → Reps K mg W'.μ (hid W'.M H') xs ws → Q .non H'
                | .er y S' => ∀ cls dd H' W', W'.S = S' → Gr W H1 W' H' → WOk W' H' → ERep (fmOf K mg T W H1 E) W' H' y cls dd → E cls dd H'
                | .no => False) := q
              rw [if_pos rfl] at q
              obtain ⟨p, C', dx', ws, hσ, hm, hM, hn, hH, hl, hr', hself⟩ := I.env.nw 0 c ns xs rfl
              have hm : mg c = some (.ref C') := hm
              rw [hC] at hm
              cases hm
              have hself : p = x := hself
              subst hself
              exact q H' W' ws dx' e I.gr I.ok hM hH hl hr'
            · have q : (match (if c = cn then R.ok (ns, xs) S else .no : R (List Str × List D)) with
                | .ok (ns, xs) S' => ∀ H' W' ws dx', W'.S = S' → Gr W H1 W' H' → WOk W' H' → W'.M x = some 0 → H' x = some (.ins C dx' (ns.zip ws)) → ns.length = ws.length → Reps K mg W'.μ (hid W'.M H') xs ws → Q .non H'
                | .er y S' => ∀ cls dd H' W', W'.S = S' → Gr W H1 W' H' → WOk W' H' → ERep (fmOf K mg T W H1 E) W' H' y cls dd → E cls dd H'
                | .no => False) := q
              rw [if_neg hc] at q
              exact q.elim
          | un => exact q.elim
          | fz _ => exact q.elim
          | ow _ => exact q.elim
          | ex _ => exact q.elim
      | .mk (.xr y ρ) S => exact fun q cls dd σ' H' W' e I g r => q cls dd H' W' e I.gr I.ok r
      | .mk (.rt d) S => exact fun q => q.elim
      | .mk (.bk ρ) S => exact fun q => q.elim
      | .mk (.ct ρ) S => exact fun q => q.elim
      | .no => exact fun q => q.elim
end
end Bx

namespace Bx
open PySem L2

/-! ### raise X() -/
section
variable {X : Cx} {F : Fm} {pos pos' p : Pos} {x : Str} {C : Addr}
theorem pmk_own0 {bmB : List Value} {B newId initId : String} (Fb : ExcBaseFacts B newId initId bmB) (q : PySem.W.excIn X.K C bmB newId = true) (gC : X.mg x = some (.ref C)) (kC : PySem.W.keepIn X.K (.ref C) = true) (r : Raises X (.ref C)) (hg : Gl X x)
    (hdb : (x == ("__debug__" : Str)) = false := by decide) : PMk X (.Call (.Name x p) [] [] pos) (fun _ H Q => Q (.ref C) none H) := by
  intro pins s σ H Q I h
  refine wpAny_Call_Name_kw (ld_glob I hg gC ?_ hdb)
  refine PySem.W.callWith_K0 I.kIn kC ?_
  show wpAny _ _ (call (.ref C) []) _ _ _
  obtain ⟨bm, N, nm, qn, bs, hdct, sn, sub, ab, col, dd, k0, k1, k2, k3, k5, mN, hC, hN, hni, T⟩ := exc_obj I.kIn q
  refine wpAny_call_exc_subT Fb T hC hN hni (fun h' e hm => ?_) (by show 0 ≤ sizeLine; omega)
  exact mk_of I hm r h (I.hok.gone hm.new)
/-- what the written part says of an exception class without own __init__ -/
structure ExcTxt (K : PySem.W.Frag) (mg : Str → Option Value) (x : Str) (C : Addr) : Prop where
  g : mg x = some (.ref C)
  e : PySem.W.excIn K C [.type "ValueError", .type "Exception", .type "BaseException", .type "object"] "ValueError.__new__" = true
  k : PySem.W.keepIn K (.ref C) = true
  b : PySem.W.subIn K (.ref C) (.type "BaseException") = some true
  t : PySem.W.typeIn K (.ref C) = some (.type "type")
@[simp] def sRaise (x : Str) : Stm := fun ρ S => .mk (.xr ⟨x, none⟩ ρ) S
theorem ds_raise (T : ExcTxt X.K X.mg x C) (hc : X.calm = true) (tk : Takes X F.wish) (hg : Gl X x) (hmg : F.mg = X.mg := by rfl) (hdb : (x == ("__debug__" : Str)) = false := by decide) : PS X (.Raise (some (.Call (.Name x p) [] [] pos)) none pos') (denS F (sRaise x)) :=
  (ps_raise hc tk (pmk_own0 PySem.F.excBase_ValueError T.e T.g T.k (raises_own T.b T.t) hg hdb)).imp fun En σ H ⟨ρ, W, I, q⟩ => q _ _ σ H W rfl I (GrS.refl _ _) ⟨C, by rw [hmg]; exact T.g, rfl, rfl⟩
end

/-! ### isinstance -/
inductive Ty6 where
  | n | b | i | s | t | l
  deriving DecidableEq
def Ty6.nm : Ty6 → String
  | .n => "NoneType" | .b => "bool" | .i => "int" | .s => "str" | .t => "tuple" | .l => "list"
def Ty6.is : Ty6 → Ty6 → Bool
  | .b, .i => true
  | .n, .n => true | .b, .b => true | .i, .i => true | .s, .s => true | .t, .t => true | .l, .l => true
  | _, _ => false
theorem kit6 : ∀ a T : Ty6, kitB a.nm T.nm = some (a.is T) := by
  intro a T
  cases a <;> cases T <;> decide +kernel
def ty6 : D → Option Ty6
  | .non => some .n
  | .bl _ => some .b
  | .int _ => some .i
  | .str _ => some .s
  | .tup _ => some .t
  | .lst _ => some .l
  | _ => none
theorem ty6_rep {F : Fm} {W : Wd} {H : Hp} {d : D} {v : V} {a : Ty6} (h : F.rep W H d v) (e : ty6 d = some a) : TyX F.K H v (.type a.nm) := by
  cases h with
  | non => cases e; exact .base .non
  | bl b => cases e; exact .base (.bl _)
  | int b => cases e; exact .base (.int _)
  | str b => cases e; exact .base (.str _)
  | tup h1 h2 => cases e; exact .base (.tup (hid_le _ _ h1))
  | lst h1 h2 => cases e; exact .base (.lst (hid_le _ _ h1))
  | ins _ _ _ _ => cases e
  | ref _ => cases e
  | fn _ => cases e
  | scr _ => cases e
def gIsi (T : Ty6) : D → Store → R D := fun d S => match ty6 d with
  | some a => .ok (.bl (a.is T)) S
  | none => .no
/-- what the written part says of an own class, for isinstance -/
structure InsTxt (K : PySem.W.Frag) (C : Addr) : Prop where
  cl : Cls K C
  ha : PySem.W.findIn K (.ref C) "__class__" = some (some (.builtin "object.__class__"))
  hn : PySem.W.specialIn K (.builtin "object.__class__") "__get__" = some (some (.builtin "getset_descriptor.__get__"))
  htk : PySem.W.takesIn K (.builtin "object.__class__") = some true
  hm : PySem.W.mroIn K C (.type "object") = some true
  no6 : ∀ a : Ty6, PySem.W.kitOne K (.type a.nm) (.ref C) = some false
def gIsC (cn : Str) : D → Store → R D := fun d S => match ty6 d with
  | some a => .ok (.bl false) S
  | none => if isIns cn d = true then .ok (.bl true) S else .no
section
variable {X : Cx} {F : Fm} {e nm : Expr} {f : Fn D} {pos p : Pos} {cn : Str} {C : Addr}
theorem de_isi (T : Ty6) (hg : Gl X "isinstance") (hm : X.mg "isinstance" = none) (he : PE X e (denE F f)) (hN : PE X nm (tC (.ty T.nm))) (h1 : starEach [e, nm] X.env = (false, eval e X.env) :: starEach [nm] X.env := by rfl) (h2 : starEach [nm] X.env = (false, eval nm X.env) :: starEach [] X.env := by rfl)
    (hpl : (backTo pos (starEach [nm] X.env)).any (·.1) = false := by rfl) (hK : F.K = X.K := by rfl) : PE X (.Call (.Name "isinstance" p) [e, nm] [] pos) (denE F (fUn (gIsi T) f)) :=
  (pe_callB call_isi hg hm (by decide +kernel) (pa_cons he (pa_cons hN pa_nil h2) h1) (he := h1) (hpl := hpl)).imp fun σ H Q ⟨ρ, W, I, q⟩ => ⟨ρ, W, I, q.bind fun d v H1 W1 g ok r q1 => by
    unfold gIsi at q1
    split at q1
    · rename_i a ha
      exact ⟨v, _, _, _, _, rfl, .ty _, by rw [← hK]; exact ty6_rep r ha, kit_ty (kit6 a T), q1.val ok (.bl _)⟩
    · exact q1.elim⟩
theorem de_isC (T : InsTxt X.K C) (hC : X.mg cn = some (.ref C)) (hg : Gl X "isinstance") (hm : X.mg "isinstance" = none) (he : PE X e (denE F f)) (hN : PE X nm (tC (.ref C))) (h1 : starEach [e, nm] X.env = (false, eval e X.env) :: starEach [nm] X.env := by rfl) (h2 : starEach [nm] X.env = (false, eval nm X.env) :: starEach [] X.env := by rfl)
    (hpl : (backTo pos (starEach [nm] X.env)).any (·.1) = false := by rfl) (hK : F.K = X.K := by rfl) (hmg : F.mg = X.mg := by rfl) : PE X (.Call (.Name "isinstance" p) [e, nm] [] pos) (denE F (fUn (gIsC cn) f)) :=
  (pe_callB call_isi hg hm (by decide +kernel) (pa_cons he (pa_cons hN pa_nil h2) h1) (he := h1) (hpl := hpl)).imp fun σ H Q ⟨ρ, W, I, q⟩ => ⟨ρ, W, I, q.bind fun d v H1 W1 g ok r q1 => by
    unfold gIsC at q1
    split at q1
    · rename_i a ha
      exact ⟨v, _, _, _, _, rfl, .own _, by rw [← hK]; exact ty6_rep r ha, T.no6 a, q1.val ok (.bl _)⟩
    · split at q1
      · rename_i hi
        obtain ⟨a, dx, fs, rfl, ha⟩ := ins_rep r hi (by rw [hmg]; exact hC)
        refine ⟨.ref a, _, .ref C, _, true, rfl, .own _, .base (.ins ha T.cl T.ha T.hn T.htk T.hm), ?_, q1.val ok (.bl _)⟩
        unfold PySem.W.kitOne
        rw [if_pos (by simp)]
      · exact q1.elim⟩
end

/-! ### == by an own __eq__ -/
theorem compare_rich {M : Model} {A : Around} {E : Value → Shared → Prop} {s : Shared} {a b : Value} {Q : Value → Shared → Prop} (h : wpAny M A (richCompare .Eq a b) Q E s) : wpAny M A (compareOp .Eq a b) Q E s := h
def rEqOwn (K : PySem.W.Frag) (C : Addr) (sp : Sp) : R2 := fun x y H Q => ∃ a b dx fs, x = .ref a ∧ y = .ref b ∧ H a = some (.ins C dx fs) ∧ ((∃ dy gs, H b = some (.ins C dy gs)) ∨ ∃ ys, H b = some (.tup ys)) ∧ sp [x, y] H (fun v H' => ∃ k, v = .bl k ∧ Q (.bl k) H') E0
theorem op_eqOwn {X : Cx} {k : Nat} {C f : Addr} {fd : FuncData} {ps : List Str} {sp : Sp} (hr : Room k X.A) (G : FnOk X.prog X.w X.K X.mg X.base (L2.CX X.prog X.w) k f fd ps sp) (hs : PySem.W.findIn X.K (.ref C) "__eq__" = some (some (.ref f))) (hf : PySem.W.isFn X.K (.ref f) = true) (hb : Binds X.K fd ps [])
    (hnt : PySem.W.notFirst X.K C (.type "tuple") = true) : OpR X (compareOp .Eq) (rEqOwn X.K C sp) := by
  intro pins s σ H x y v u Q I rx ry h
  obtain ⟨a, b, dx, fs, rfl, rfl, ha, hB, hsp⟩ := h
  cases rx
  cases ry
  obtain ⟨mA, J, _⟩ := ins_get I.hok ha
  obtain ⟨od, J, _⟩ := J.look
  obtain ⟨m, hF⟩ := I.fr
  have go : wpAny (model X.prog X.w) X.A (call (.ref f) [.ref a, .ref b]) (PySem.W.CmpBack (EP X pins σ Q)) X.xe s := by
    have hl := G.len _ _ _ _ hsp
    have r2 : Vals [V.ref a, V.ref b] [Value.ref a, Value.ref b] := .cons rfl (.cons rfl .nil)
    refine wpAny_call (codeAny_mono (G.run X.A X.stack s H ⟨[.ref a, .ref b], []⟩ [.ref a, .ref b] [.ref a, .ref b] _ E0 hr I.env0 (by
      have := hb s [.ref a, .ref b] I.kIn (by simpa using hl)
      simpa using this) r2 hsp) fun r s' hq => ?_)
    cases r with
    | error e => exact (passL pins σ H s e s' (I.wish (X := X) (fun _ _ => False)) hq).elim
    | ok fl =>
      cases fl with
      | ret w =>
        obtain ⟨z, H', I', rz, k, ez, q⟩ := I.after hq
        subst ez
        cases rz
        exact ⟨.bl k, H', I', rfl, q⟩
      | next => exact False.elim hq
      | brk => exact False.elim hq
      | cont => exact False.elim hq
  rcases hB with ⟨dy, gs, hb'⟩ | ⟨ys, hb'⟩
  · obtain ⟨mB, J', _⟩ := ins_get I.hok hb'
    obtain ⟨od', J', _⟩ := J'.look
    exact compare_rich (PySem.W.cmp_K (op := .Eq) (tb := .ref C) hr.units0 hF I.ok.mod.kin J J'.type (by simp [PySem.W.notFirst]) hs hf go)
  · obtain ⟨_, its, rv, o, h1, h2, n, h3⟩ := (show ObjOk X.prog X.w H s.heap b (.tup ys) from I.hok b _ hb')
    exact compare_rich (PySem.W.cmp_K (op := .Eq) (tb := .type "tuple") hr.units0 hF I.ok.mod.kin J (h2 ▸ (PySem.W.Looks.ld h1).andThen .now) hnt hs hf go)
end Bx

namespace Bx
open PySem L2

/-! ### == where the left one may be an instance -/
def isTup : D → Bool
  | .tup _ => true
  | _ => false
def gEqI (cn : Str) (sem : Sem) : D → D → Store → R D := fun d e S => if isIns cn d = true then (if (isIns cn e || isTup e) = true then (match sem [d, e] S with
  | .ok (.bl k) S' => .ok (.bl k) S'
  | _ => .no) else .no) else gEq d e S
section
variable {X : Cx} {F : Fm} {a b e : Expr} {f f1 f2 : Fn D} {pos : Pos} {cn : Str} {C : Addr}
theorem opd_eqI {sem : Sem} (hC : F.mg cn = some (.ref C)) : OpD F (fun x y H Q => rEqOwn F.K C (spD F.K F.mg F.T 2 sem) x y H Q ∨ rEqD F.K x y H Q) (gEqI cn sem) := by
  intro W H σ d e x y Q ok hT rx ry h
  unfold gEqI at h
  split at h
  · rename_i hi
    obtain ⟨a, dx, fs, rfl, ha⟩ := ins_rep rx hi hC
    split at h
    · rename_i hj
      have hb : ∃ b, y = .ref b ∧ ((∃ dy gs, H b = some (.ins C dy gs)) ∨ ∃ ys, H b = some (.tup ys)) := by
        rw [Bool.or_eq_true] at hj
        rcases hj with hj | hj
        · obtain ⟨b, dy, gs, rfl, hb⟩ := ins_rep ry hj hC
          exact ⟨b, rfl, .inl ⟨dy, gs, hb⟩⟩
        · cases ry with
          | tup h1 h2 => exact ⟨_, rfl, .inr ⟨_, hid_le _ _ h1⟩⟩
          | _ => cases hj
      obtain ⟨b, rfl, hb⟩ := hb
      refine .inl ⟨a, b, dx, fs, rfl, rfl, ha, hb, [d, e], W, rfl, ⟨ok, hT⟩, .cons rx (.cons ry .nil), ?_⟩
      revert h
      cases hs : sem [d, e] W.S with
      | ok z S =>
        cases z with
        | bl k =>
          intro h v H' W' e g ok r
          cases r
          exact ⟨k, rfl, h (.bl k) H' W' e g ok (.bl k)⟩
        | _ => exact fun h => h.elim
      | er x S => exact fun h => h.elim
      | no => exact fun h => h.elim
    · exact h.elim
  · exact .inr (opd_eq W H σ d e x y Q ok hT rx ry h)
theorem de_eqI {sem : Sem} {k : Nat} {fa : Addr} {fd : FuncData} {ps : List Str} (hr : Room k X.A) (G : FnOk X.prog X.w X.K X.mg X.base (L2.CX X.prog X.w) k fa fd ps (spD X.K X.mg F.T 2 sem)) (hs : PySem.W.findIn X.K (.ref C) "__eq__" = some (some (.ref fa))) (hf : PySem.W.isFn X.K (.ref fa) = true) (hb : Binds X.K fd ps [])
    (hnt : PySem.W.notFirst X.K C (.type "tuple") = true) (hC : X.mg cn = some (.ref C)) (ha : PE X a (denE F f1)) (hb' : PE X b (denE F f2)) (hK : F.K = X.K := by rfl) (hmg : F.mg = X.mg := by rfl) : PE X (.Compare a [.Eq] [b] pos) (denE F (fBin (gEqI cn sem) f1 f2)) :=
  de_cmp ((op_eqOwn hr G hs hf hb hnt).or (op_eqD hr.units)) (by
    have := @opd_eqI F cn C sem (by rw [hmg]; exact hC)
    rw [hK, hmg] at this
    exact this) ha hb' (nomark _)

theorem dt_eqI {sem : Sem} {k : Nat} {fa : Addr} {fd : FuncData} {ps : List Str} (hr : Room k X.A) (G : FnOk X.prog X.w X.K X.mg X.base (L2.CX X.prog X.w) k fa fd ps (spD X.K X.mg F.T 2 sem)) (hs : PySem.W.findIn X.K (.ref C) "__eq__" = some (some (.ref fa))) (hf : PySem.W.isFn X.K (.ref fa) = true) (hb : Binds X.K fd ps [])
    (hnt : PySem.W.notFirst X.K C (.type "tuple") = true) (hC : X.mg cn = some (.ref C)) (ha : PE X a (denE F f1)) (hb' : PE X b (denE F f2)) (hK : F.K = X.K := by rfl) (hmg : F.mg = X.mg := by rfl) : PT X (.Compare a [.Eq] [b] pos) (denT F (fUn gBl (fBin (gEqI cn sem) f1 f2))) :=
  dt_cmp ((op_eqOwn hr G hs hf hb hnt).or (op_eqD hr.units)) (by
    have := @opd_eqI F cn C sem (by rw [hmg]; exact hC)
    rw [hK, hmg] at this
    exact this) ha hb' (nomark _)

/-! ### a look at a frame's own lists: the value is flat -/
def frzS : Sl → Sl
  | .ow ds => .fz (.lst ds)
  | .nw _ _ _ => .un
  | .ex _ => .un
  | s => s
@[simp] def fPeek (f : Fn D) : Fn D := fun ρ S => match f (ρ.map frzS) S with
  | .ok d S1 => if flatD d = true then .ok d S1 else .no
  | .er x S1 => if x.fld.isNone = true then .er x S1 else .no
  | .no => .no
theorem flat_any {F : Fm} {W W' : Wd} {H H' : Hp} {d : D} {v : V} (hf : flatD d = true) (h : F.rep W H d v) : F.rep W' H' d v := by
  cases h with
  | non => exact .non
  | bl b => exact .bl b
  | int b => exact .int b
  | str b => exact .str b
  | fn h => exact .fn h
  | _ => cases hf
def unmaskAll (W : Wd) : Wd := { W with M := fun p => if W.M p = some 0 then none else W.M p }
theorem de_peek (h : ∀ W0 H0, PE X e (denE { F with W0 := W0, H0 := H0 } f)) : PE X e (denE F (fPeek f)) := by
  refine ⟨fun pins s σ H Q I q => ?_⟩
  obtain ⟨ρ, W, J, q⟩ := q
  refine (h (unmaskAll W) H).run pins s σ H Q I ⟨ρ.map frzS, unmaskAll W, ⟨?_, Gr.refl _ _, ?_⟩, ?_⟩
  · refine ⟨fun p hp => ?_, fun l x hx => ?_, J.ok.bd, fun P q hT => (J.ok.tab P q hT).world (fun a h1 => ⟨(if_neg (by rw [h1]; simp)).trans h1, rfl⟩) (fun a q h1 h2 => ⟨fun l => by
      show (if W.M a = some 0 then none else W.M a) ≠ some (l + 1)
      split
      · simp
      · exact h1 l, rfl⟩)⟩
    · refine J.ok.dom p fun z => hp ?_
      show (if W.M p = some 0 then none else W.M p) = none
      split
      · rfl
      · exact z
    · obtain ⟨a, h1, h2⟩ := J.ok.obj l x hx
      refine ⟨a, h1, h2.world fun q hq => ⟨?_, rfl⟩⟩
      show (if W.M q = some 0 then none else W.M q) = some (l + 2)
      rw [if_neg (by rw [hq]; simp)]
      exact hq
  · have sm : Same (hid W.M H) (hid (unmaskAll W).M H) := fun a o h => by
      obtain ⟨h1, h2⟩ := hid_some.mp h
      refine hid_some.mpr ⟨?_, h2⟩
      show (if W.M a = some 0 then none else W.M a) = none
      rw [if_neg (by rw [h1]; simp)]
      exact h1
    have no : ∀ (i : Nat) (s : Sl), (ρ.map frzS)[i]? = some s → s = .un ∨ ∃ d, s = .fz d := fun i s h => by
      rw [List.getElem?_map] at h
      obtain ⟨s', _, rfl⟩ := Option.map_eq_some_iff.mp h
      cases s' with
      | un => exact .inl rfl
      | fz d => exact .inr ⟨d, rfl⟩
      | ow ds => exact .inr ⟨.lst ds, rfl⟩
      | nw _ _ _ => exact .inl rfl
      | ex _ => exact .inl rfl
    refine ⟨by rw [List.length_map]; exact J.env.len, fun i d e => ?_, fun i d e => ?_, fun i j d es p e => ?_, fun i c ns xs e => ?_, fun i c e => ?_, J.env.tk⟩
    · rw [List.getElem?_map] at e
      obtain ⟨s', e1, e2⟩ := Option.map_eq_some_iff.mp e
      cases s' with
      | un => cases e2
      | nw _ _ _ => cases e2
      | ex _ => cases e2
      | fz d' =>
        cases e2
        obtain ⟨v, a, b⟩ := J.env.fz i d e1
        exact ⟨v, a, Rep.mono (fun _ _ h => h) sm _ _ b⟩
      | ow ds =>
        cases e2
        obtain ⟨p, vs, a, b, c, d, r⟩ := J.env.ow i ds e1
        refine ⟨.ref p, a, .lst (hid_some.mpr ⟨?_, d⟩) (Reps.mono (fun _ _ h => h) sm _ _ r)⟩
        show (if W.M p = some 0 then none else W.M p) = none
        rw [if_pos b]
    · rcases no i _ e with z | ⟨_, z⟩ <;> cases z
    · rcases no i _ e with z | ⟨_, z⟩ <;> cases z
    · rcases no i _ e with z | ⟨_, z⟩ <;> cases z
    · rcases no i _ e with z | ⟨_, z⟩ <;> cases z
  · unfold fPeek at q
    show Post _ _ _ _ _ (f (ρ.map frzS) W.S) Q
    have back : ∀ (H' : Hp) (W' : Wd), Gr (unmaskAll W) H W' H' → WOk W' H' → ∃ W3 : Wd, W3.S = W'.S ∧ W3.μ = W'.μ ∧ Gr W H W3 H' ∧ WOk W3 H' ∧ (∀ p, W.M p ≠ some 0 → W3.M p = W'.M p) := fun H' W' g ok => by
      have m0 : ∀ p, W.M p = some 0 → W'.M p = none := fun p hp => by
        rw [g.ms p (J.ok.dom p (by simp [hp]))]
        show (if W.M p = some 0 then none else W.M p) = none
        rw [if_pos hp]
      refine ⟨{ W' with M := fun p => if W.M p = some 0 then some 0 else W'.M p }, rfl, rfl, ⟨fun p hp => ?_, fun p o hp hl => g.ex p o hp fun l => ?_, g.ds, g.mu, g.tt⟩, ⟨fun p hp => ?_, fun l x hx => ?_, ok.bd, fun P q hT => (ok.tab P q hT).world (fun a h1 => ⟨(if_neg fun z => by rw [m0 a z] at h1; cases h1).trans h1, rfl⟩) (fun a q h1 h2 => ⟨fun l => by
        show (if W.M a = some 0 then some 0 else W'.M a) ≠ some (l + 1)
        split
        · simp
        · exact h1 l, rfl⟩)⟩, fun p hp => if_neg hp⟩
      · show (if W.M p = some 0 then some 0 else W'.M p) = W.M p
        split
        · rename_i z; exact z.symm
        · rename_i z
          rw [g.ms p hp]
          show (if W.M p = some 0 then none else W.M p) = W.M p
          rw [if_neg z]
      · show (if W.M p = some 0 then none else W.M p) ≠ some (l + 1)
        split
        · simp
        · exact hl l
      · have hp : (if W.M p = some 0 then some 0 else W'.M p) ≠ none := hp
        split at hp
        · rename_i z
          exact g.ds p (J.ok.dom p (by simp [z]))
        · exact ok.dom p hp
      · obtain ⟨a, h1, h2⟩ := ok.obj l x hx
        refine ⟨a, h1, h2.world fun q hq => ⟨?_, rfl⟩⟩
        show (if W.M q = some 0 then some 0 else W'.M q) = some (l + 2)
        rw [if_neg fun z => by rw [m0 q z] at hq; cases hq]
        exact hq
    revert q
    cases f (ρ.map frzS) W.S with
    | no => exact fun q => q
    | er x S =>
      intro q cls dd H' W' e g ok r
      obtain ⟨W3, e3, eμ, g3, ok3, hM⟩ := back H' W' g ok
      have q : Post F F.rep W H σ (if x.fld.isNone = true then .er x S else .no) Q := q
      split at q
      · rename_i hx
        obtain ⟨C, h1, h2, h3⟩ := r
        refine q cls dd H' W3 (e3.trans e) g3 ok3 ⟨C, h1, h2, ?_⟩
        cases hf : x.fld with
        | none => rw [hf] at h3; exact h3
        | some fs => rw [hf] at hx; cases hx
      · exact q.elim
    | ok d S =>
      intro q v H' W' e g ok r
      have q : Post F F.rep W H σ (if flatD d = true then .ok d S else .no) Q := q
      split at q
      · rename_i hf
        obtain ⟨W3, e3, eμ, g3, ok3, hM⟩ := back H' W' g ok
        exact q v H' W3 (e3.trans e) g3 ok3 (flat_any hf r)
      · exact q.elim
end
end Bx
namespace Bx
open PySem L2
/-! ### small things that the printed texts name -/
theorem len_nil : ∀ (ρ : Rho) (S : Store) (ds : List D) (S' : Store), fNil ρ S = .ok ds S' → ds.length = 0 := by
  intro ρ S ds S' h
  cases h
  rfl
theorem len_cons {f : Fn D} {fs : Fn (List D)} {n : Nat} (h : ∀ (ρ : Rho) (S : Store) (ds : List D) (S' : Store), fs ρ S = .ok ds S' → ds.length = n) : ∀ (ρ : Rho) (S : Store) (ds : List D) (S' : Store), fCons f fs ρ S = .ok ds S' → ds.length = n + 1 := by
  intro ρ S ds S' e
  unfold fCons at e
  cases h1 : f ρ S with
  | no => rw [h1] at e; cases e
  | er x S => rw [h1] at e; cases e
  | ok d S1 =>
    rw [h1] at e
    have e : (fs ρ S1).bind (fun ds S2 => R.ok (d :: ds) S2) = .ok ds S' := e
    cases h2 : fs ρ S1 with
    | no => rw [h2] at e; cases e
    | er x S => rw [h2] at e; cases e
    | ok es S2 =>
      rw [h2] at e
      cases e
      simp [h _ _ _ _ h2]
section
variable {X : Cx} {F : Fm} {x : Str} {n : Int} {pos : Pos}
theorem de_gint (h : ∃ t, X.mg x = some (.int n t)) (hg : Gl X x) (hd : (x == ("__debug__" : Str)) = false := by decide) : PE X (.Name x pos) (denE F (fC (.int n))) := by
  obtain ⟨t, h⟩ := h
  exact de_C (v := .int n) (pe_glob hg h ⟨t, rfl⟩ hd) fun _ _ => .int _
/-- a def of the module -/
def DefAt (K : PySem.W.Frag) (mg : Str → Option Value) (x : Str) (st : Stmt) (ps : List Str) : Prop := ∃ fa fd, mg x = some (.ref fa) ∧ Fun K x x st fa fd ∧ Binds K fd ps []
theorem DefAt.cal {P : Program} {w : World} {K : PySem.W.Frag} {mg : Str → Option Value} {base : Heap} {T : Addr → Option Str} {st : Stmt} {N ps : List Str} {k np : Nat} {g : Stm} (d : DefAt K mg x st ps) (S : FnScope N ps (defScope st)) (hn : ps.length = np)
    (hbody : ∀ (f : Addr) (cdv : Value) (A : Around) (outer : List Env) (s : Shared) (H : Hp) (E : XK) (W : Wd), Room k (A.deeper (PyProof.Rows.envOfC x (defScope st) s.heap.objs.size f cdv)) →
      PSs (cxOf (L2.CX P w) P w K mg base N x (defScope st) f cdv A outer s H E) (defBody st) (denS (fmOf K mg T W H E) g)) : Callee P w K mg base T (k + 1) x np (fnSem N.length g) := by
  obtain ⟨fa, fd, h1, h2, h3⟩ := d
  subst hn
  exact ⟨fa, fd, ps, h1, okD h2 S (hbody fa), h2.kp, h3⟩
/-- a method of a class -/
def MethAt (K : PySem.W.Frag) (C : Addr) (x qual : Str) (st : Stmt) (ps : List Str) : Prop := ∃ fa fd, PySem.W.findIn K (.ref C) x = some (some (.ref fa)) ∧ PySem.W.isFn K (.ref fa) = true ∧ Fun K x qual st fa fd ∧ Binds K fd ps []
/-- a property's getter -/
def PropAt (K : PySem.W.Frag) (C : Addr) (x qual : Str) (st : Stmt) : Prop := ∃ pr ga fd, PropOf K C x pr ga ∧ Fun K x qual st ga fd ∧ Binds K fd ["self"] []
end
end Bx

namespace Bx
open PySem L2

/-! ### xs[::-1] -/
def gRev : D → Store → R (List D)
  | .lst xs, S => .ok xs.reverse S
  | _, _ => .no
@[simp] def fRev (f : Fn D) : Fn Sl := fun ρ S => (f ρ S).bind fun d S1 => match gRev d S1 with
  | .ok es _ => .ok (.ow es) S1
  | _ => .no
section
variable {X : Cx} {F : Fm} {e : Expr} {f f1 f3 : Fn D} {f2 : Fn Sl} {pos p1 p2 p3 : Pos} {k : Nat}
theorem dx_rev (he : PE X e (denE F f)) : PE X (.Subscript e (.Slice none none (some (.UnaryOp .USub (.Constant (.int 1) k p1) p2)) p3) pos) (denX F (fRev f)) := (pe_revL he).imp fun σ H Q ⟨ρ, W, I, q⟩ => ⟨ρ, W, I, q.bind fun d v H1 W1 g ok r q1 => by
  cases r with
  | lst a b => exact ⟨_, _, rfl, SqL.of (hid_le _ _ a), fun p hp => Post.newX g ok hp q1 b.reverse⟩
  | _ => exact q1.elim⟩
/-! ### the source of draws: [s, list(cells), i] -/
def srcOf (S : Store) (d1 : D) (s2 : Sl) (d3 : D) : R D := match d1, s2, d3 with
  | .int s, .ow ds, .int i => (match ints? ds with
    | some ns => .ok (.ref S.length) (S ++ [.src s ns i])
    | none => .no)
  | _, _, _ => .no
@[simp] def fSrc (f1 : Fn D) (f2 : Fn Sl) (f3 : Fn D) : Fn D := fun ρ S => (f1 ρ S).bind fun d1 S1 => (f2 ρ S1).bind fun d2 S2 => (f3 ρ S2).bind fun d3 S3 => srcOf S3 d1 d2 d3
variable {a b c : Expr}
theorem src_new {W : Wd} {H : Hp} {l c : Addr} {s i : Int} {ns : List Int} (ok : WOk W H) (hl : H l = none) (hc : W.M c = some 0) (hcH : H c = some (.lst (ns.map V.int))) :
    ∃ W' : Wd, W'.S = W.S ++ [.src s ns i] ∧ W'.μ W.S.length = some l ∧ WOk W' (upd H l (.lst [.int s, .ref c, .int i])) ∧ (∀ p, p ≠ l → p ≠ c → W'.M p = W.M p) ∧ (∀ m a, W.μ m = some a → W'.μ m = some a) ∧ W'.T = W.T := by
  have hlc : c ≠ l := ne_of_none hcH hl
  refine ⟨⟨fun p => if p = l ∨ p = c then some (W.S.length + 2) else W.M p, fun m => if m = W.S.length then some l else W.μ m, W.S ++ [.src s ns i], W.T⟩, rfl, if_pos rfl, ⟨fun p hp => ?_, fun m x hx => ?_, fun m a hm => ?_, fun P q hT => (ok.tab P q hT).world (fun p h1 => ?_) (fun p q h1 h2 => ?_)⟩, fun p h1 h2 => if_neg (by simp [h1, h2]), fun m a hm => ?_, rfl⟩
  · by_cases e : p = l
    · subst e; rw [upd_same]; simp
    · rw [upd_ne e]
      by_cases e2 : p = c
      · subst e2; rw [hcH]; simp
      · exact ok.dom p (by have : (if p = l ∨ p = c then some (W.S.length + 2) else W.M p) ≠ none := hp
                           rwa [if_neg (by simp [e, e2])] at this)
  · by_cases e : m = W.S.length
    · subst e
      have hx : (W.S ++ [O.src s ns i])[W.S.length]? = some x := hx
      rw [List.getElem?_concat_length] at hx
      cases hx
      exact ⟨l, if_pos rfl, if_pos (.inl rfl), c, if_pos (.inr rfl), Ne.symm hlc, upd_same, by rw [upd_ne hlc]; exact hcH⟩
    · have hx : (W.S ++ [O.src s ns i])[m]? = some x := hx
      have hm : m < W.S.length := by
        have := (List.getElem?_eq_some_iff.mp hx).1
        simp at this
        omega
      rw [List.getElem?_append_left hm] at hx
      obtain ⟨a, h1, h2⟩ := ok.obj m x hx
      refine ⟨a, (if_neg e).trans h1, h2.world fun q hq => ?_⟩
      have n1 : q ≠ l := fun z => by rw [z] at hq; rw [ok.clear hl] at hq; cases hq
      have n2 : q ≠ c := fun z => by rw [z, hc] at hq; cases hq
      exact ⟨(if_neg (by simp [n1, n2])).trans hq, upd_ne n1⟩
  · have hm : (if m = W.S.length then some l else W.μ m) = some a := hm
    show m < (W.S ++ [O.src s ns i]).length
    rw [List.length_append]
    split at hm
    · rename_i e; rw [e]; simp
    · have := ok.bd m a hm
      simp; omega
  · have n1 : p ≠ l := fun z => by rw [z] at h1; rw [ok.clear hl] at h1; cases h1
    have n2 : p ≠ c := fun z => by rw [z, hc] at h1; simp at h1
    exact ⟨(if_neg (by simp [n1, n2])).trans h1, upd_ne n1⟩
  · have n1 : p ≠ l := fun z => by rw [z, hl] at h2; cases h2
    have n2 : p ≠ c := fun z => lst_code hcH p q (by rw [← z]; exact h2)
    exact ⟨fun m => by
      show (if p = l ∨ p = c then some (W.S.length + 2) else W.M p) ≠ some (m + 1)
      rw [if_neg (by simp [n1, n2])]
      exact h1 m, upd_ne n1⟩
  · show (if m = W.S.length then some l else W.μ m) = some a
    rw [if_neg]
    · exact hm
    · exact Nat.ne_of_lt (ok.bd m a hm)
theorem de_src (ha : PE X a (denE F f1)) (hb : PE X b (denX F f2)) (hc : PE X c (denE F f3)) (h1 : starEach [a, b, c] X.env = (false, eval a X.env) :: starEach [b, c] X.env := by rfl) (h2 : starEach [b, c] X.env = (false, eval b X.env) :: starEach [c] X.env := by rfl) (h3 : starEach [c] X.env = (false, eval c X.env) :: starEach [] X.env := by rfl) :
    PE X (.List [a, b, c] pos) (denE F (fSrc f1 f2 f3)) := (pe_lst (pa_cons ha (pa_cons hb (pa_cons hc pa_nil h3) h2) h1)).imp fun σ H Q ⟨ρ, W, I, q⟩ => by
  refine ⟨ρ, W, I, ?_⟩
  unfold fSrc at q
  cases e1 : f1 ρ W.S with
  | no => rw [e1] at q; exact q
  | er x S => rw [e1] at q; exact q
  | ok d1 S1 =>
    rw [e1] at q
    replace q : Post F F.rep W H σ ((f2 ρ S1).bind fun d2 S2 => (f3 ρ S2).bind fun d3 S3 => srcOf S3 d1 d2 d3) Q := q
    intro v1 H1 W1 E1 g1 ok1 r1
    have I1 := I.go g1 ok1
    refine ⟨ρ, W1, I1, ?_⟩
    rw [E1]
    cases e2 : f2 ρ S1 with
    | no => rw [e2] at q; exact q
    | er x S => rw [e2] at q; exact fun cls dd H' W' e g ok r => q cls dd H' W' e (g1.trans g) ok r
    | ok d2 S2 =>
      rw [e2] at q
      replace q : Post F F.rep W H σ ((f3 ρ S2).bind fun d3 S3 => srcOf S3 d1 d2 d3) Q := q
      intro v2 H2 W2 E2 g2 ok2 r2
      refine ⟨ρ, W2, I1.go g2 ok2, ?_⟩
      rw [E2]
      cases e3 : f3 ρ S2 with
      | no => rw [e3] at q; exact q
      | er x S => rw [e3] at q; exact fun cls dd H' W' e g ok r => q cls dd H' W' e ((g1.trans g2).trans g) ok r
      | ok d3 S3 =>
        rw [e3] at q
        replace q : Post F F.rep W H σ (srcOf S3 d1 d2 d3) Q := q
        intro v3 H3 W3 E3 g3 ok3 r3
        refine ⟨by show 3 ≤ sizeLine; decide, fun l hl => ?_⟩
        unfold srcOf at q
        split at q
        · rename_i s ds i
          split at q
          · rename_i ns hi
            have e1 := rep_int r1
            have e3 := rep_int r3
            subst e1 e3
            obtain ⟨c, ws, rfl, hn, hM, hH, hr⟩ := relX.gr g3 r2
            rw [ints_eq hi] at hr
            obtain rfl := hr.ints
            obtain ⟨W', hS, hμ, ok', hMk, hmu, htt⟩ := src_new (s := s) (i := i) ok3 hl hM hH
            have g := (g1.trans g2).trans g3
            have nl : ∀ p, H p ≠ none → p ≠ l := fun p hp z => g.ds p hp (z ▸ hl)
            have nc : ∀ p, H p ≠ none → p ≠ c := fun p hp z => g1.ds p hp (z ▸ hn)
            rw [← E3] at q
            exact q (.ref l) _ W' hS ⟨fun p hp => (hMk p (nl p hp) (nc p hp)).trans (g.ms p hp), fun p o hp hq => by rw [upd_ne (nl p (by simp [hp]))]; exact g.ex p o hp hq, fun p hp => by rw [upd_ne (nl p hp)]; exact g.ds p hp, fun m a h => hmu m a (g.mu m a h), htt.trans g.tt⟩ ok' (.ref hμ)
          · exact q.elim
        · exact q.elim
end

/-! ### the source changes -/
structure SrcNext where
  v : Int
  s : Int
  cs : List Int
  i : Int
def cellAt (cs : List Int) (i : Int) : Int := (cs ++ [0]).getD (i % (if (cs.length : Int) > 1 then (cs.length : Int) else 1)).toNat 0
def nextV (s : Int) (cs : List Int) (i b : Int) : SrcNext :=
  if 10 ^ 18 ≤ cellAt cs i then ⟨cellAt cs i % b, s, cs.set (i % (cs.length : Int)).toNat (cellAt cs i / b), i⟩
  else ⟨((s * 48271 + cellAt cs i * 69621 + 11) % 2147483647 / 7) % b, (s * 48271 + cellAt cs i * 69621 + 11) % 2147483647, cs, i + 1⟩
def F_next : Sem := fun ds S => match ds with
  | [.ref l, .int b] => (match S[l]? with
    | some (.src s cs i) => if 0 < b ∧ b < 2 ^ 256 ∧ cs.length ≤ 1000 then .ok (.int (nextV s cs i b).v) (S.set l (.src (nextV s cs i b).s (nextV s cs i b).cs (nextV s cs i b).i)) else .no
    | _ => .no)
  | _ => .no
theorem src_set {W : Wd} {H H' : Hp} {l : Nat} {a c : Addr} {s i s' i' : Int} {cs cs' : List Int} (ok : WOk W H) (hl : W.S[l]? = some (.src s cs i)) (hμ : W.μ l = some a) (hMa : W.M a = some (l + 2)) (hMc : W.M c = some (l + 2)) (hac : a ≠ c)
    (hk : ∀ q, q ≠ a → q ≠ c → ∀ o, H q = some o → H' q = some o) (ha : H' a = some (.lst [.int s', .ref c, .int i'])) (hc : H' c = some (.lst (cs'.map V.int))) :
    WOk { W with S := W.S.set l (.src s' cs' i') } H' ∧ Gr W H { W with S := W.S.set l (.src s' cs' i') } H' := by
  have dom : ∀ p, H p ≠ none → H' p ≠ none := fun p hp => by
    by_cases e1 : p = a
    · subst e1; rw [ha]; simp
    · by_cases e2 : p = c
      · subst e2; rw [hc]; simp
      · cases z : H p with
        | none => exact absurd z hp
        | some o => rw [hk p e1 e2 o z]; simp
  have hlt : l < W.S.length := (List.getElem?_eq_some_iff.mp hl).1
  refine ⟨⟨fun p hp => dom p (ok.dom p hp), fun m x hx => ?_, fun m b hb => ?_, fun P q hT => (ok.tab P q hT).world (fun p h1 => ⟨h1, ?_⟩) (fun p q h1 h2 => ⟨h1, ?_⟩)⟩, ⟨fun p _ => rfl, fun p o hp hq => ?_, dom, fun _ _ h => h, rfl⟩⟩
  · by_cases e : m = l
    · subst e
      have hx : (W.S.set m (.src s' cs' i'))[m]? = some x := hx
      rw [List.getElem?_set_self hlt] at hx
      cases hx
      exact ⟨a, hμ, hMa, c, hMc, hac, ha, hc⟩
    · have hx : (W.S.set l (.src s' cs' i'))[m]? = some x := hx
      rw [List.getElem?_set_ne (Ne.symm e)] at hx
      obtain ⟨b, h1, h2⟩ := ok.obj m x hx
      refine ⟨b, h1, h2.world fun q hq => ⟨hq, ?_⟩⟩
      have n1 : q ≠ a := fun z => by rw [z, hMa] at hq; simp at hq; omega
      have n2 : q ≠ c := fun z => by rw [z, hMc] at hq; simp at hq; omega
      cases z : H q with
      | none => exact absurd z (ok.dom q (by simp [hq]))
      | some o => exact hk q n1 n2 o z
  · show m < (W.S.set l (.src s' cs' i')).length
    rw [List.length_set]
    exact ok.bd m b hb
  · have n1 : p ≠ a := fun z => by rw [z, hMa] at h1; simp at h1
    have n2 : p ≠ c := fun z => by rw [z, hMc] at h1; simp at h1
    cases z : H p with
    | none => exact absurd z (ok.dom p (by simp [h1]))
    | some o => exact hk p n1 n2 o z
  · have n1 : p ≠ a := fun z => h1 (l + 1) (by rw [z]; exact hMa)
    have n2 : p ≠ c := fun z => h1 (l + 1) (by rw [z]; exact hMc)
    rw [h2]
    exact hk p n1 n2 _ h2
  · exact hk p (fun z => hq (l + 1) (by rw [z]; exact hMa)) (fun z => hq (l + 1) (by rw [z]; exact hMc)) o hp

theorem ix_mod {n : Nat} {i : Int} (h : 0 < n) : ixN n (i % (n : Int)) = some (i % (n : Int)).toNat := by
  have h1 : 0 ≤ i % (n : Int) := Int.emod_nonneg _ (by omega)
  have h2 : i % (n : Int) < n := Int.emod_lt_of_pos _ (by omega)
  unfold ixN
  rw [if_pos h1, if_pos h2]
theorem cell_at {cs : List Int} {i : Int} : atI (cs.map V.int ++ [V.int 0]) (i % (if (cs.length : Int) > 1 then (cs.length : Int) else 1)) = some (V.int (cellAt cs i)) := by
  unfold cellAt
  generalize hm : (if (cs.length : Int) > 1 then (cs.length : Int) else 1) = m
  have m1 : 0 < m ∧ m ≤ cs.length + 1 := by
    rw [← hm]
    split <;> omega
  have h1 : 0 ≤ i % m := Int.emod_nonneg _ (by omega)
  have h2 : i % m < m := Int.emod_lt_of_pos _ m1.1
  have e : (i % m) = (((i % m).toNat : Nat) : Int) := by omega
  have hlt : (i % m).toNat < (cs ++ [0]).length := by simp; omega
  rw [e]
  rw [Int.toNat_natCast]
  refine atI_nat ?_
  have : (cs.map V.int ++ [V.int 0]) = (cs ++ [0]).map V.int := by simp
  rw [this, List.getElem?_map, List.getElem?_eq_getElem hlt]
  simp [List.getD, List.getElem?_eq_getElem hlt]
theorem cell_pos {cs : List Int} {i : Int} (h : 10 ^ 18 ≤ cellAt cs i) : 0 < cs.length := by
  cases cs with
  | nil =>
    exfalso
    unfold cellAt at h
    have e : (i % (if ((([] : List Int).length : Nat) : Int) > 1 then ((([] : List Int).length : Nat) : Int) else 1)) = 0 := by
      simp
    rw [e] at h
    exact absurd h (by decide)
  | cons c cs => simp
theorem next_pre {K : PySem.W.Frag} {mg : Str → Option Value} {T : Addr → Option Str} {W : Wd} {H : Hp} {E : XK} {Q : VK} {ds : List D} {vs : List V} (ok : WOk W H) (hr : Reps K mg W.μ (hid W.M H) ds vs) (q : Post (fmOf K mg T W H E) (fmOf K mg T W H E).rep W H [] (F_next ds W.S) Q) :
    ∃ l b a c s i, ∃ cs : List Int, ∃ i' : Int, ds = [.ref l, .int b] ∧ vs = [.ref a, .int b] ∧ W.S[l]? = some (.src s cs i) ∧ W.μ l = some a ∧ W.M a = some (l + 2) ∧ W.M c = some (l + 2) ∧ a ≠ c ∧ H a = some (.lst [.int s, .ref c, .int i]) ∧ H c = some (.lst (cs.map V.int)) ∧ 0 < b ∧ b < 2 ^ 256 ∧ cs.length ≤ 1000 ∧
      Post (fmOf K mg T W H E) (fmOf K mg T W H E).rep W H [] (.ok (.int (nextV s cs i b).v) (W.S.set l (.src (nextV s cs i b).s (nextV s cs i b).cs (nextV s cs i b).i))) Q := by
  unfold F_next at q
  split at q
  · split at q
    · rename_i hS
      split at q
      · rename_i hz
        cases hr with
        | cons r1 r2 =>
          cases r2 with
          | cons r3 r4 =>
            cases r4; cases r3
            cases r1 with
            | ref hμ =>
              obtain ⟨a, h1, h2, c, h3, h4, h5, h6⟩ := ok.obj _ _ hS
              rw [hμ] at h1
              cases h1
              exact ⟨_, _, _, c, _, _, _, 0, rfl, rfl, hS, hμ, h2, h3, h4, h5, h6, hz.1, hz.2.1, hz.2.2, q⟩
      · exact q.elim
    · exact q.elim
  · exact q.elim
end Bx

namespace Bx
open PySem L2
/-! ### what the head hands in -/
section
variable {K : PySem.W.Frag} {h : Heap} {mg : Str → Option Value} {x qual nm : Str} {st : Stmt} {ps : List Str} {fa C : Addr} {oc : Value} {od an : Option Addr} {sl : Array (Option Value)} {kV doc pm cdv ct : Value}
theorem def_mk (X : K.In h) (G : h.Ns mainGlobals mg) (a : PySem.W.nsIn K mainGlobals x = some (some (.ref fa)))
    (l : K.lookup fa = some ⟨oc, od, .func (PySem.W.fnOf x x (defArgs st) (defBody st) (defScope st) .none kV doc pm an cdv ct), sl⟩) (c : PySem.W.codeIn K cdv x = true) (k : PySem.W.keepIn K (.ref fa) = true)
    (hb : ∀ (kV doc pm : Value) (an : Option Addr) (cdv ct : Value) (us : List Value), us.length = ps.length → bindArgs (PySem.W.fnOf x x (defArgs st) (defBody st) (defScope st) .none kV doc pm an cdv ct) ⟨us, []⟩ = pure (ps.zip us)) : DefAt K mg x st ps :=
  ⟨fa, _, PySem.W.mg_of X G a, fun_mk l c k, (fun_mk l c k).binds hb⟩
theorem meth_mk (a : PySem.W.findIn K (.ref C) x = some (some (.ref fa))) (i : PySem.W.isFn K (.ref fa) = true)
    (l : K.lookup fa = some ⟨oc, od, .func (PySem.W.fnOf x qual (defArgs st) (defBody st) (defScope st) .none kV doc pm an cdv ct), sl⟩) (c : PySem.W.codeIn K cdv qual = true) (k : PySem.W.keepIn K (.ref fa) = true)
    (hb : ∀ (kV doc pm : Value) (an : Option Addr) (cdv ct : Value) (us : List Value), us.length = ps.length → bindArgs (PySem.W.fnOf x qual (defArgs st) (defBody st) (defScope st) .none kV doc pm an cdv ct) ⟨us, []⟩ = pure (ps.zip us)) : MethAt K C x qual st ps :=
  ⟨fa, _, a, i, fun_mk l c k, (fun_mk l c k).binds hb⟩
theorem prop_mk {pr : Addr} {rest : List Value} (a : PySem.W.findIn K (.ref C) x = some (some (.ref pr))) (g : PySem.W.specialIn K (.ref pr) "__get__" = some (some (.builtin "property.__get__"))) (t : PySem.W.takesIn K (.ref pr) = some true)
    (r : PySem.W.recIn K pr "property" = some (.ref fa :: rest))
    (l : K.lookup fa = some ⟨oc, od, .func (PySem.W.fnOf x qual (defArgs st) (defBody st) (defScope st) .none kV doc pm an cdv ct), sl⟩) (c : PySem.W.codeIn K cdv qual = true) (k : PySem.W.keepIn K (.ref fa) = true)
    (hb : ∀ (kV doc pm : Value) (an : Option Addr) (cdv ct : Value) (us : List Value), us.length = 1 → bindArgs (PySem.W.fnOf x qual (defArgs st) (defBody st) (defScope st) .none kV doc pm an cdv ct) ⟨us, []⟩ = pure ((["self"] : List Str).zip us)) : PropAt K C x qual st :=
  ⟨pr, fa, _, ⟨a, g, t, rest, r⟩, fun_mk l c k, (fun_mk l c k).binds hb⟩
theorem exc_mk (X : K.In h) (G : h.Ns mainGlobals mg) (a : PySem.W.nsIn K mainGlobals x = some (some (.ref C)))
    (e : PySem.W.excIn K C [.type "ValueError", .type "Exception", .type "BaseException", .type "object"] "ValueError.__new__" = true) (k : PySem.W.keepIn K (.ref C) = true) (b : PySem.W.subIn K (.ref C) (.type "BaseException") = some true) (t : PySem.W.typeIn K (.ref C) = some (.type "type")) : ∃ A, ExcTxt K mg x A :=
  ⟨C, PySem.W.mg_of X G a, e, k, b, t⟩
theorem ins_mk (cl : Cls K C) (ha : PySem.W.findIn K (.ref C) "__class__" = some (some (.builtin "object.__class__"))) (hn : PySem.W.specialIn K (.builtin "object.__class__") "__get__" = some (some (.builtin "getset_descriptor.__get__")))
    (htk : PySem.W.takesIn K (.builtin "object.__class__") = some true) (hm : PySem.W.mroIn K C (.type "object") = some true) (ic : PySem.W.isClsIn K C = true) (t : PySem.W.typeIn K (.ref C) = some (.type "type")) : InsTxt K C := by
  refine ⟨cl, ha, hn, htk, hm, fun a => ?_⟩
  have ic : (PySem.W.clsIn K C).isSome = true := ic
  unfold PySem.W.kitOne
  rw [if_neg (by simp)]
  show (if ((PySem.W.clsIn K C).isSome && PySem.W.typeIn K (.ref C) == some (.type "type")) = true then PySem.W.subIn K (.type a.nm) (.ref C) else none) = some false
  rw [if_pos (by rw [ic, t]; rfl)]
  cases a <;> rfl
theorem int_mk {n : Int} {tk : _} (X : K.In h) (G : h.Ns mainGlobals mg) (a : PySem.W.nsIn K mainGlobals x = some (some (.int n tk))) : ∃ t, mg x = some (.int n t) := ⟨tk, PySem.W.mg_of X G a⟩
end
/-! ### the law's own promise -/
def spLaw (K : PySem.W.Frag) : Sp := fun vs H Q E => ∃ (a : Addr) (ns : List Int), vs = [.ref a] ∧ SqL K H a (ns.map V.int) ∧ ns.length ≤ 63 ∧ ∀ H', Q (.bl true) H'
theorem law_fn {P : Program} {w : World} {K : PySem.W.Frag} {mg : Str → Option Value} {base : Heap} {k : Nat} {fa : Addr} {fd : FuncData} {x : Str} {sem : Sem} (G : FnOk P w K mg base (L2.CX P w) k fa fd [x] (spD K mg (fun _ => none) 1 sem))
    (hsem : ∀ ns : List Int, ns.length ≤ 63 → ∃ S', sem [.scr ns] [] = .ok (.bl true) S') : FnOk P w K mg base (L2.CX P w) k fa fd [x] (spLaw K) := by
  refine G.imp fun vs H Q E ⟨a, ns, e, hS, hl, q⟩ => ?_
  subst e
  obtain ⟨S', hs⟩ := hsem ns hl
  refine ⟨[.scr ns], ⟨fun _ => none, fun _ => none, [], fun _ => none⟩, rfl, ⟨⟨fun p h => absurd rfl h, fun l o h => by simp at h, fun l a h => (by cases h), fun P q h => (by cases h)⟩, rfl⟩, .cons (.scr ?_) .nil, ?_⟩
  · have : hid (fun _ => none) H = H := by funext p; rfl
    rw [this]
    exact hS
  · rw [hs]
    intro b H' W' _ _ _ r
    cases r
    exact q H'
theorem law_walk {l : PySem.W.OpenLaw} {q : Program} {loose : List Str} {XP : (Str → Option Value) → Heap → Prop} {YP : World → Heap → Prop} {d : DefRec} {K : Params → PySem.W.Frag} {k : Nat} {x : Str} {sem : Sem} (hn : l.most = some 63) (hdf : d.params.defaults = [])
    (hr : Room k callerA) (hY : ∀ (w : World) (h : Heap), YP w h → (K w.params).In h)
    (hsem : ∀ ns : List Int, ns.length ≤ 63 → ∃ S', sem [.scr ns] [] = .ok (.bl true) S')
    (F : ∀ (w : World) (mg : Str → Option Value) (fa : Addr) (h : Heap), (K w.params).In h → h.Ns mainGlobals mg → mg d.name = some (.ref fa) →
      ∃ fd : FuncData, (∀ (s : Shared) (u : Value), BindsTo s fd ⟨[u], []⟩ [(x, u)]) ∧ ∀ base : Heap, (K w.params).In base → base.Ns mainGlobals mg → FnOk l.prog w (K w.params) mg base (L2.CX l.prog w) k fa fd [x] (spD (K w.params) mg (fun _ => none) 1 sem)) :
    PySem.W.WalkO q loose XP YP l.row.toRowW d [] (fun f vs => PySem.call f vs) :=
  L2.walk_of (n := 63) (k := k) (x := x) (CX := fun w => L2.CX l.prog w) (sp := fun w => spLaw (K w.params)) hn (by decide) hdf hr hY
    (fun w mg fa h X G hm => by
      obtain ⟨fd, hb, hF⟩ := F w mg fa h X G hm
      exact ⟨fd, hb, fun base hK hG => law_fn (hF base hK hG) hsem⟩)
    (fun _ _ a ns hl _ hS => ⟨a, ns, rfl, hS, hl, fun _ => rfl⟩) fun w H s e s' c => by
      obtain ⟨_, _, _, _, _, _, _, _, _, _, _, _, z⟩ := c
      exact z
end Bx

namespace Bx
open PySem PyProof.Rows L2

/-! ### enumerate(tuple) -/
def ItET (K : PySem.W.Frag) (a : Addr) : It :=
  ⟨fun i H => ∃ (xs : List V) (x : V), SqT K H a xs ∧ xs[i]? = some x, fun i H v H' => ∃ T x, v = .ref T ∧ H T = none ∧ H' = upd H T (.tup [.int (i : Nat), x]) ∧ ∀ xs, SqT K H a xs → xs[i]? = some x, fun i H => ∃ xs : List V, SqT K H a xs ∧ xs.length ≤ i⟩
theorem turn_enumT {P : Program} {w : World} {K : PySem.W.Frag} {elts : List Expr} {kk : Nat} {tpos : Pos} (a e it : Addr) :
    Turn P w K (.Tuple elts kk tpos) (ItET K a) [e, it] e (fun i h => (∃ old, IsEnum h e it ((i : Nat) : Int) old) ∧ h.IsTupleIter it a i ∧ e ≠ it ∧ a ≠ it ∧ e ≠ a) where
  mem := by simp
  obj := fun i h st b hb => by
    obtain ⟨⟨old, he⟩, ⟨o, ho, hc, hd⟩, _⟩ := st
    have e' : b = e ∨ b = it := by simpa using hb
    rcases e' with z | z
    · rw [z]; exact ⟨_, he, fun v q => nomatch q⟩
    · rw [z]; exact ⟨o, ho, fun v q => by rw [hd] at q; cases q⟩
  keep := fun i h h' st k => let ⟨⟨old, he⟩, hi, hne⟩ := st; ⟨⟨old, k e (by simp) _ he⟩, hi.at fun o q => k it (by simp) o q, hne⟩
  item := by
    intro X hP hw hK hc i pins s σ H E I hf st hg
    subst hP hw hK
    obtain ⟨⟨old, he⟩, hit, hne, hai, hea⟩ := st
    obtain ⟨xs, x, hq, hx⟩ := hg
    obtain ⟨its, rv, p, hz⟩ := I.tuple hq
    obtain ⟨u, hu, ru⟩ := rv.get hx
    have hel : e < s.heap.objs.size := Heap.lt_size he
    have hil : it < s.heap.objs.size := by obtain ⟨_, q, _⟩ := hit; exact Heap.lt_size q
    have hlt : i < its.toArray.size := by
      have := (List.getElem?_eq_some_iff.mp hu).1
      simpa using this
    refine wpAny_pyNext_enum_itemD (Draws.tuple (A := X.A.in1) (I.ok.hd hc) it a hai its.toArray) he ⟨hit, p⟩ hlt hne (by simp [hne, hea]) fun x' h' tk hx' ho hst hT hsz hk => ?_
    have ex : x' = u := by
      have hx' : its.toArray[i]? = some x' := hx'
      rw [show its.toArray[i]? = some u by simpa using hu] at hx'
      exact (Option.some.inj hx').symm
    subst ex
    obtain ⟨hit', _⟩ := hst
    refine ⟨_, rfl, wpAny_letOwnedTupleGo_enum (s := { s with heap := h', toks := tk + 1 }) ho fun h'' he' sb => ?_⟩
    have hT2 : h''.get? s.heap.objs.size = some { cls := .type "tuple", data := .seq #[.int i tk, x'] } := (sb.2 _ (Nat.ne_of_gt hel)).trans hT
    have new : ObjOk X.prog X.w (upd H s.heap.objs.size (.tup [.int (i : Nat), x])) h'' s.heap.objs.size (.tup [.int (i : Nat), x]) :=
      ⟨by show 2 ≤ sizeLine; decide, [.int i tk, x'], .cons ⟨_, rfl⟩ (.cons ru .nil), ⟨_, hT2, rfl, _, rfl⟩⟩
    have I1 : Inv X pins σ (upd H s.heap.objs.size (.tup [.int (i : Nat), x])) { s with heap := h'', toks := tk + 1 } :=
      I.turnedNew (ch := [e, it]) (fun b ob hb q => (sb.2 b (fun z => hb (by simp [z]))).trans (hk b ob (fun z => hb (by simp [z])) (fun z => hb (by simp [z])) q)) hf (Nat.le_refl _) new
    refine ⟨.ref s.heap.objs.size, _, I1, rfl, ⟨_, x, rfl, I.hok.fresh (Nat.le_refl _), rfl, fun ys hy => by rw [I.tuple_inj hy hq]; exact hx⟩, ⟨⟨x', ?_⟩, hit'.at fun o q => (sb.2 it (Ne.symm hne)).trans q, hne, hai, hea⟩, fun b hb => ?_⟩
    · have e1 : ((i + 1 : Nat) : Int) = (i : Int) + 1 := by omega
      rw [e1]; exact he'
    · have hb' : b < s.heap.objs.size := by
        have e' : b = e ∨ b = it := by simpa using hb
        rcases e' with z | z
        · rw [z]; exact hel
        · rw [z]; exact hil
      rw [upd_ne (Nat.ne_of_lt hb')]
      exact (hf b hb).1
  done := by
    intro X hP hw hK hc i pins s σ H E I hf st hg
    subst hP hw hK
    obtain ⟨⟨old, he⟩, hit, hne, hai, hea⟩ := st
    obtain ⟨xs, hq, hx⟩ := hg
    obtain ⟨its, rv, p, hz⟩ := I.tuple hq
    obtain ⟨f0, f1, f2, f3, f4, f5⟩ := hf it (by simp)
    have hl := rv.length
    have hT : s.TypeIs (.ref e) "enumerate" := ⟨_, he, rfl⟩
    unfold pyNext
    refine wpAny_bind (wpAny_attempt (wpAny_callSpecial?_slot (name := Str.ofString "__next__") hT F.slot_enumerate_next
      (wpAny_call_entry F.slot_enumerate_next hT F.entry_enumerate_next ?_ (F.args_enumerate_next_1 _))))
    show wpAny _ _ (field (.ref e) 2 >>= _) _ _ _
    refine wpAny_bind (wpAny_field he rfl (x := .ref it) rfl ?_)
    refine wpAny_bind (wpAny_nextOf_tuple_end (I.ok.hd hc) hit p (by simp; omega) fun h' x he' hx' => ?_)
    obtain ⟨o, ho, hc2⟩ := hx'
    refine wpAny_bind (wpAny_isInstance (T := "StopIteration") (b := true) ⟨o, ho, hc2⟩ isSubtype_stop ?_)
    exact wpAny_pure ⟨rfl, I.turned (t' := s.toks) (fun b o hb q => he' b o hb q) f0 f1 f3 f4 f5⟩
  self := fun A i s Q E st h => let ⟨⟨_, he⟩, _⟩ := st; wpAny_pyIter_enum he h
section
variable {K : PySem.W.Frag} {a : Addr} {xs : List V}
theorem walk_enumT : Walk (ItET K a) xs.length (fun H => SqT K H a xs) (YPair (fun i => some (.int (i : Nat))) (fun i => xs[i]?)) := by
  refine ⟨fun i _ hi q => ⟨xs, xs[i], q, by simp [hi]⟩, fun _ q => ⟨xs, q, Nat.le_refl _⟩, fun i H v H' _ q y => ?_⟩
  obtain ⟨T, x, h1, h2, h3, h4⟩ := y
  exact ⟨T, .int (i : Nat), x, h1, h2, h3, rfl, h4 xs q⟩
end
set_option maxHeartbeats 4000000 in
theorem meets_enumT (l : Addr) (items : Array Value) (o : Obj) :
    Meets (Builtin.«enumerate.__new__» ⟨[.type "enumerate", .ref l], []⟩) (fun _ R s => (s.heap.get? l = some o ∧ s.heap.IsTuple l items) ∧
      R (.ok (.ret (.ref (s.heap.push { cls := .type "tuple_iterator", data := .fields #[.ref l, .int 0 0] }).objs.size)))
        { s with heap := (s.heap.push { cls := .type "tuple_iterator", data := .fields #[.ref l, .int 0 0] }).push { cls := .type "enumerate", data := .fields #[.none, .bool false, .ref s.heap.objs.size, rawInt 0, .none, .none] } }) :=
  .of_wp fun prog w A R s h => by
    obtain ⟨hp, g, d, tk, os⟩ := s; obtain ⟨⟨hl, hT⟩, h⟩ := h
    have hsub := sub_enumerate
    have hT : Heap.IsTuple (Shared.heap ⟨hp, g, d, tk, os⟩) l items := hT
    wp_walk using AutoSeq1.wpAny_loadPart' hl
    refine wpAny_stack_any fun st => wpAny_pure ?_
    split
    · rename_i c _ _ _ _ _
      cases (c == Value.type "enumerate")
      · wp_walk using AutoSeq1.wpAny_loadPart' hl, wpAny_pyIter_tuple hT
        exact ⟨_, rfl, h⟩
      · wp_walk using AutoSeq1.wpAny_loadPart' hl, wpAny_pyIter_tuple hT
        exact ⟨_, rfl, h⟩
    · wp_walk using AutoSeq1.wpAny_loadPart' hl, wpAny_pyIter_tuple hT
      exact ⟨_, rfl, h⟩
theorem call_enumT {prog : Program} {w : World} {A : Around} {E : Value → Shared → Prop} {s : Shared} {l : Addr} {items : Array Value} {Q : Value → Shared → Prop} (hL : s.heap.IsTuple l items)
    (h : ∀ h', IsEnum h' (s.heap.objs.size + 1) s.heap.objs.size 0 .none → h'.IsTupleIter s.heap.objs.size l 0 → h'.objs.size = s.heap.objs.size + 2 →
      (∀ b o, s.heap.get? b = some o → h'.get? b = some o) → Q (.ref (s.heap.objs.size + 1)) { s with heap := h' }) :
    wpAny (model prog w) A (call (.type "enumerate") [.ref l]) Q E s := by
  have hL0 := hL
  obtain ⟨o, hl, hrest⟩ := hL
  refine callType_new F.called_enumerate (by decide) (F.typeCall_enumerate_1 _) (F.newCall_enumerate_1 _) (fun obj => F.args_object_init_2 obj _) F.entry_enumerate_new
    (meets_enumT l items o) ⟨⟨hl, hL0⟩, ?_⟩
  have hz : (s.heap.push { cls := .type "tuple_iterator", data := .fields #[.ref l, .int 0 0] }).objs.size = s.heap.objs.size + 1 := Heap.size_push ..
  show _ ∧ _
  rw [hz]
  have he : IsEnum ((s.heap.push { cls := .type "tuple_iterator", data := .fields #[.ref l, .int 0 0] }).push
      { cls := .type "enumerate", data := .fields #[.none, .bool false, .ref s.heap.objs.size, rawInt 0, .none, .none] }) (s.heap.objs.size + 1) s.heap.objs.size 0 .none := by
    have := Heap.get?_push_size (s.heap.push { cls := .type "tuple_iterator", data := .fields #[.ref l, .int 0 0] })
      (o := { cls := .type "enumerate", data := .fields #[.none, .bool false, .ref s.heap.objs.size, rawInt 0, .none, .none] }) rfl
    rw [hz] at this; exact this
  refine ⟨⟨_, he, rfl⟩, h _ he ⟨_, Heap.get?_push_of_some _ (Heap.get?_push_size _ rfl), rfl, rfl⟩ (by rw [Heap.size_push, hz]) fun b o x => Heap.get?_push_of_some _ (Heap.get?_push_of_some _ x)⟩
def iEnumA (K : PySem.W.Frag) (ta : TA) : TI := fun σ H R => ta σ H fun vs H1 => ∃ a xs, vs = [.ref a] ∧ ((SqL K H1 a xs ∧ R (Ite K a) H1) ∨ (SqT K H1 a xs ∧ R (ItET K a) H1))
theorem pi_enumA {X : Cx} {e : Expr} {ta : TA} {p pos tpos : Pos} {elts : List Expr} {kk : Nat} (hg : Gl X "enumerate") (hm : X.mg "enumerate" = none) (ha : PA X [e] ta) (hs : starEach [e] X.env = [(false, eval e X.env)] := by rfl) :
    PI X (.Tuple elts kk tpos) (.Call (.Name "enumerate" p) [e] [] pos) (iEnumA X.K ta) := by
  refine ⟨fun pins s σ H R I h => ?_⟩
  refine Call_ (ld_blt I hg hm boot_enumerate (PyProof.Rows.callWith_type1 (thn (ha.run pos pins s σ H _ I h) fun us s1 ⟨vs, H1, I1, r1, q1⟩ => ?_) hs rfl))
  obtain ⟨a, xs, ex, q1⟩ := q1
  subst ex
  cases r1 with
  | cons r rr =>
    cases rr
    cases r
    have fp : ∀ b, b ∈ [s1.heap.objs.size + 1, s1.heap.objs.size] → FpOk X pins H1 b := fun b hb => by
      have e' : b = s1.heap.objs.size + 1 ∨ b = s1.heap.objs.size := by simpa using hb
      have hle : s1.heap.objs.size ≤ b := by
        rcases e' with z | z
        · rw [z]; exact Nat.le_add_right _ _
        · rw [z]; exact Nat.le_refl _
      exact I1.fpOk hle (I1.hok.fresh hle)
    rcases q1 with ⟨hq, q⟩ | ⟨hq, q⟩
    · obtain ⟨its, rv, p', hz⟩ := I1.list hq
      refine call_enumerate_list p'.isList fun h' he hit hsz hk => wpAny_pyIter_enum he ?_
      have I2 : Inv X pins σ H1 { s1 with heap := h' } := I1.kept (t' := s1.toks) hk
      exact ⟨s1.heap.objs.size + 1, [s1.heap.objs.size + 1, s1.heap.objs.size], _, _, H1, rfl, I2, turn_enum a (s1.heap.objs.size + 1) s1.heap.objs.size, ⟨⟨.none, he⟩, hit, Nat.succ_ne_self _⟩, fp, q⟩
    · obtain ⟨its, rv, p', hz⟩ := I1.tuple hq
      have hlt : a < s1.heap.objs.size := by obtain ⟨o, ho, _⟩ := id p'; exact Heap.lt_size ho
      refine call_enumT (show s1.heap.IsTuple a its.toArray from p') fun h' he hit hsz hk => wpAny_pyIter_enum he ?_
      have I2 : Inv X pins σ H1 { s1 with heap := h' } := I1.kept (t' := s1.toks) hk
      exact ⟨s1.heap.objs.size + 1, [s1.heap.objs.size + 1, s1.heap.objs.size], _, _, H1, rfl, I2, turn_enumT a (s1.heap.objs.size + 1) s1.heap.objs.size, ⟨⟨.none, he⟩, hit, Nat.succ_ne_self _, Nat.ne_of_lt hlt, Nat.ne_of_gt (Nat.lt_succ_of_lt hlt)⟩, fp, q⟩
def gEnumA : List D → Store → R (List D)
  | [.lst xs], S => .ok (xs.zipIdx.map fun p => .tup [.int p.2, p.1]) S
  | [.tup xs], S => .ok (xs.zipIdx.map fun p => .tup [.int p.2, p.1]) S
  | _, _ => .no
section
variable {F : Fm} {X : Cx} {tg e : Expr} {elts : List Expr} {kk : Nat} {tpos p pos : Pos} {fs : Fn (List D)}
theorem enum_at {W1 W2 : Wd} {H1 H2 H3 : Hp} {vs : List V} {xs : List D} {i : Nat} {d : D} {x : V} (ok : WOk W2 H2) (b1 : F.reps W1 H1 xs vs) (g : GrS W1 H1 W2 H2) (hd : (xs.zipIdx.map fun p => D.tup [.int p.2, p.1])[i]? = some d)
    (y : YPair (fun i => some (.int (i : Nat))) (fun i => vs[i]?) i H2 x H3) : Same H2 H3 ∧ F.rep W2 H3 d x := by
  rw [List.getElem?_map] at hd
  obtain ⟨⟨d1, k⟩, hd', rfl⟩ := Option.map_eq_some_iff.mp hd
  rw [List.getElem?_zipIdx] at hd'
  obtain ⟨d2, hd2, e2⟩ := Option.map_eq_some_iff.mp hd'
  simp at e2
  obtain ⟨rfl, rfl⟩ := e2
  refine ypair ok y (fun x e => ?_) fun x e => ?_
  · cases e
    exact .int _
  · obtain ⟨v', e1, e2⟩ := b1.get (i := i) hd2
    rw [e] at e1; cases e1
    exact rep_gr g e2
theorem di_enumA (hg : Gl X "enumerate") (hm : X.mg "enumerate" = none) (ha : PA X [e] (denA F fs)) (hs : starEach [e] X.env = [(false, eval e X.env)] := by rfl) (hK : F.K = X.K := by rfl) :
    PI X (.Tuple elts kk tpos) (.Call (.Name "enumerate" p) [e] [] pos) (denI F (fUn gEnumA fs)) := (pi_enumA hg hm ha hs).imp fun σ H T ⟨ρ, W, I, q⟩ => ⟨ρ, W, I, q.bind fun ds v H1 W1 g ok r q1 => by
    unfold gEnumA at q1
    split at q1
    · cases r with
      | cons r1 r2 =>
        cases r2
        cases r1 with
        | @lst a vs _ h1 h2 =>
          refine ⟨a, vs, rfl, .inl ⟨SqL.of (hid_le _ _ h1), ?_⟩⟩
          exact q1 _ _ (fun H => SqL X.K H a vs) H1 W1 rfl (Gr.refl _ _) ok (by rw [List.length_map, List.length_zipIdx, h2.len]; exact walk_enum) (fun W2 H2 g2 => SqL.of (stands (M := W1.M) h1 g2)) fun i d W2 H2 x H3 g2 ok2 hd y => enum_at ok2 h2 g2 hd y
    · cases r with
      | cons r1 r2 =>
        cases r2
        cases r1 with
        | @tup a vs _ h1 h2 =>
          refine ⟨a, vs, rfl, .inr ⟨SqT.of (hid_le _ _ h1), ?_⟩⟩
          exact q1 _ _ (fun H => SqT X.K H a vs) H1 W1 rfl (Gr.refl _ _) ok (by rw [List.length_map, List.length_zipIdx, h2.len]; exact walk_enumT) (fun W2 H2 g2 => SqT.of (stands (M := W1.M) h1 g2)) fun i d W2 H2 x H3 g2 ok2 hd y => enum_at ok2 h2 g2 hd y
    · exact q1.elim⟩
end

/-! ### list(range(..)) -/
section
variable {F : Fm} {X : Cx} {e e2 : Expr} {p p2 pos pos2 : Pos} {f f1 f2 : Fn D}
def gRgL : D → Store → R (List D)
  | .int j, S => if -1000000 ≤ j ∧ j ≤ 1000000 then .ok (rangeD 0 j.toNat) S else .no
  | _, _ => .no
@[simp] def fRgL (f : Fn D) : Fn Sl := fun ρ S => (f ρ S).bind fun d S1 => match gRgL d S1 with
  | .ok es _ => .ok (.ow es) S1
  | _ => .no
theorem rangeD_ints (n : Nat) : rangeD 0 n = ((List.range n).map fun (k : Nat) => (0 + (k : Int))).map D.int := by simp [rangeD]
theorem dx_listRg1 (hc : X.calm = true) (hgl : Gl X "list") (hml : X.mg "list" = none) (hgr : Gl X "range") (hmr : X.mg "range" = none) (he : PE X e (denE F f)) (h1 : starEach [e] X.env = (false, eval e X.env) :: starEach [] X.env := by rfl)
    (h2 : starEach [.Call (.Name "range" p2) [e] [] pos2] X.env = (false, eval (.Call (.Name "range" p2) [e] [] pos2) X.env) :: starEach [] X.env := by rfl) :
    PE X (.Call (.Name "list" p) [.Call (.Name "range" p2) [e] [] pos2] [] pos) (denX F (fRgL f)) :=
  (pe_listRg hc hgl hml (prg_1 hgr hmr he (na := h1))).imp fun σ H Q ⟨ρ, W, I, q⟩ => ⟨ρ, W, I, q.bind fun d v H1 W1 g ok r q1 => by
    cases r with
    | int j =>
      have q1 : Post F (relX F H) W1 H1 σ (match (if -1000000 ≤ j ∧ j ≤ 1000000 then R.ok (rangeD 0 j.toNat) W1.S else .no : R (List D)) with
        | .ok es _ => .ok (.ow es) W1.S
        | _ => .no) Q := q1
      by_cases hz : -1000000 ≤ j ∧ j ≤ 1000000
      · rw [if_pos hz] at q1
        refine ⟨j, rfl, ⟨by omega, by omega, by omega, by omega, by omega⟩, fun p hp => ?_⟩
        have e1 : rgV 0 j = ((List.range j.toNat).map fun (k : Nat) => (0 + (k : Int))).map V.int := by
          unfold rgV
          simp
        rw [e1]
        refine Post.newX g ok hp q1 ?_
        rw [rangeD_ints]
        exact Reps.ofInts _
      · rw [if_neg hz] at q1
        exact q1.elim
    | _ => exact q1.elim⟩
end

/-! ### [e for .. for .. if ..] -/
def isFz : Sl → Bool
  | .un | .fz _ => true
  | _ => false
def lcL2 (g : Tgt D) (t : Fn Bool) (fi1 : Fn (List D)) (g1 : Tgt D) (t1 : Fn Bool) (e : Fn D) (vs1 : List Nat) (ρ : Rho) : List D → List D → Store → R (List D)
  | [], acc, S => .ok acc S
  | d :: ds, acc, S => match g d ρ with
    | none => .no
    | some ρ1 => (t ρ1 S).bind fun b S1 => if b = true then (fi1 ρ1 S1).bind fun ds1 S2 => (if ds1.length ≤ LIM ∧ acc.length ≤ LIM ∧ ρ1.all isFz = true then
        (lcL g1 t1 e (wipeR ρ1 vs1) ds1 acc S2).bind fun acc2 S3 => lcL2 g t fi1 g1 t1 e vs1 ρ ds acc2 S3 else .no)
      else lcL2 g t fi1 g1 t1 e vs1 ρ ds acc S1
def fLc2 (fi : Fn (List D)) (g : Tgt D) (t : Fn Bool) (fi1 : Fn (List D)) (g1 : Tgt D) (t1 : Fn Bool) (e : Fn D) (vs vs1 : List Nat) : Fn Sl := fun ρ S => (fi ρ S).bind fun ds S1 => if ds.length ≤ LIM then noer (fun ys S2 => .ok (.ow ys) S2) (lcL2 g t fi1 g1 t1 e vs1 (wipeR ρ vs) ds [] S1) else .no
theorem EnvOk.fzS {F : Fm} {W W' : Wd} {H H' : Hp} {σ : L2.St} {ρ : Rho} (e : EnvOk F W H σ ρ) (h : ρ.all isFz = true) (g : GrS W H W' H') : EnvOk F W' H' σ ρ := by
  have no : ∀ (i : Nat) (s : Sl), ρ[i]? = some s → isFz s = true := fun i s hs => List.all_eq_true.mp h s (List.mem_of_getElem? hs)
  refine ⟨e.len, fun i d hd => ?_, fun i ds hd => ?_, fun i j ds es p hd => ?_, fun i c ns xs hd => ?_, fun i x hd => ?_, g.tt.trans e.tk⟩
  · obtain ⟨v, h1, h2⟩ := e.fz i d hd
    exact ⟨v, h1, rep_gr g h2⟩
  · exact absurd (no i _ hd) (by simp [isFz])
  · exact absurd (no i _ hd) (by simp [isFz])
  · exact absurd (no i _ hd) (by simp [isFz])
  · exact absurd (no i _ hd) (by simp [isFz])
/-- the new list of a comprehension, amid its run -/
structure LcI (F : Fm) (W1 : Wd) (H1 : Hp) (Dl : Addr) (W' : Wd) (H' : Hp) (acc : List D) (ws : List V) : Prop where
  ok : WOk W' H'
  gr : Gr W1 H1 W' H'
  m : W'.M Dl = some 0
  h : H' Dl = some (.lst ws)
  r : F.reps W' H' acc ws
theorem LcI.go {F : Fm} {W1 W' W2 : Wd} {H1 H' H2 : Hp} {Dl : Addr} {acc : List D} {ws : List V} (I : LcI F W1 H1 Dl W' H' acc ws) (g : Gr W' H' W2 H2) (ok : WOk W2 H2) : LcI F W1 H1 Dl W2 H2 acc ws :=
  ⟨ok, I.gr.trans g, (g.ms Dl (by rw [I.h]; simp)).trans I.m, g.ex Dl _ I.h fun l => by rw [I.m]; simp, reps_gr g.s I.r⟩
theorem LcI.app {F : Fm} {W1 W' : Wd} {H1 H' : Hp} {Dl : Addr} {acc : List D} {ws : List V} {y : D} {v : V} (I : LcI F W1 H1 Dl W' H' acc ws) (hD : H1 Dl = none) (rv : F.rep W' H' y v) : LcI F W1 H1 Dl W' (upd H' Dl (.lst (ws ++ [v]))) (acc ++ [y]) (ws ++ [v]) ∧ GrS W' H' W' (upd H' Dl (.lst (ws ++ [v]))) := by
  have nD : ∀ q, H1 q ≠ none → q ≠ Dl := fun q hq z => hq (z ▸ hD)
  have hh : hid W'.M (upd H' Dl (.lst (ws ++ [v]))) = hid W'.M H' := hid_own (by rw [I.m]; simp)
  have z := I.gr
  refine ⟨⟨I.ok.own I.m (lst_code I.h), ⟨fun q hq => z.ms q hq, fun q o hq hl => by rw [upd_ne (nD q (by simp [hq]))]; exact z.ex q o hq hl, fun q hq => by rw [upd_ne (nD q hq)]; exact z.ds q hq, z.mu, z.tt⟩, I.m, upd_same, ?_⟩, ⟨fun q o n hq => ⟨n, by rw [upd_ne fun z => by rw [z, I.m] at n; cases n]; exact hq⟩, fun _ _ h => h, rfl⟩⟩
  have a1 : F.reps W' (upd H' Dl (.lst (ws ++ [v]))) acc ws := by
    show Reps _ _ _ (hid W'.M _) _ _
    rw [hh]; exact I.r
  have a2 : F.rep W' (upd H' Dl (.lst (ws ++ [v]))) y v := by
    show Rep _ _ _ (hid W'.M _) _ _
    rw [hh]; exact rv
  exact a1.append (.cons a2 .nil)
theorem wipe2 (σ : L2.St) (vs : List Nat) : wipe (wipe σ vs) vs = wipe σ vs := by
  apply List.ext_getElem?
  intro j
  rw [wipe_get, wipe_get]
  by_cases hj : j ∈ vs
  · simp only [hj, if_true]
    cases σ[j]? <;> rfl
  · simp only [hj, if_false]
theorem den_lc2 {F : Fm} {fi fi1 : Fn (List D)} {g g1 : Tgt D} {t t1 : Fn Bool} {e : Fn D} {vs vs1 is is1 : List Nat} (hv : ∀ i ∈ is, i ∈ vs) (hv1 : ∀ i ∈ is1, i ∈ vs1) {σ : L2.St} {H : Hp} {Q : VK} (h : denX F (fLc2 fi g t fi1 g1 t1 e vs vs1) σ H Q) :
    tLc2 (denI F fi) (denG F F.rep g is) (denT F.nw t) (denI F.nw fi1) (denG F F.rep g1 is1) (denT F.nw t1) (denE F.nw e) vs vs1 σ H Q := by
  obtain ⟨ρ, W, I, q⟩ := h
  refine ⟨ρ, W, I, ?_⟩
  unfold fLc2 at q
  cases hfi : fi ρ W.S with
  | no => rw [hfi] at q; exact q.elim
  | er x S => rw [hfi] at q; exact q
  | ok ds S1 =>
    rw [hfi] at q
    have q1 : Post F (relX F H) W H σ (if ds.length ≤ LIM then noer (fun ys S2 => .ok (.ow ys) S2) (lcL2 g t fi1 g1 t1 e vs1 (wipeR ρ vs) ds [] S1) else .no) Q := q
    split at q1
    · rename_i hlen
      cases hl : lcL2 g t fi1 g1 t1 e vs1 (wipeR ρ vs) ds [] S1 with
      | no => rw [hl] at q1; exact q1.elim
      | er x S => rw [hl] at q1; exact q1.elim
      | ok ys S2 =>
        rw [hl] at q1
        have q1 : Post F (relX F H) W H σ (.ok (.ow ys) S2) Q := q1
        intro J Y G H1 W1 e1 g0 ok1 wk st yl Dl hD
        have hD0 : H Dl = none := by
          cases z : H Dl with
          | none => rfl
          | some u => exact absurd hD (g0.ds Dl (by simp [z]))
        refine ⟨fun i m H' => m = ds.length - i ∧ i ≤ ds.length ∧ ∃ W' acc ws, LcI F W1 H1 Dl W' H' acc ws ∧ lcL2 g t fi1 g1 t1 e vs1 (wipeR ρ vs) (ds.drop i) acc W'.S = .ok ys S2, ⟨ds.length, by simp, Nat.zero_le _, ?_⟩, ?_⟩
        · obtain ⟨a, b⟩ := mask_new (o := .lst []) ok1 hD
          exact ⟨mask Dl W1, [], [], ⟨a, b, mask_self, upd_same, .nil⟩, by rw [← e1] at hl; exact hl⟩
        · rintro i m H' ⟨rfl, hi, W', acc, ws, LI, hres⟩
          have hG := st W' H' LI.gr.s
          by_cases hlt : i < ds.length
          · refine .inr ⟨wk.goes i H' hlt hG, fun H' => ∃ W' acc ws, LcI F W1 H1 Dl W' H' acc ws ∧ lcL2 g t fi1 g1 t1 e vs1 (wipeR ρ vs) (ds.drop (i + 1)) acc W'.S = .ok ys S2, fun H'' p => ⟨ds.length - (i + 1), by omega, rfl, hlt, p⟩, fun x H3 y => ?_⟩
            have y := wk.yields i H' x H3 hlt hG y
            have hdi : ds[i]? = some ds[i] := by simp [hlt]
            obtain ⟨sm, rx⟩ := yl i ds[i] W' H' x H3 LI.gr.s LI.ok hdi y
            rw [List.drop_eq_getElem_cons hlt] at hres
            unfold lcL2 at hres
            cases hg : g ds[i] (wipeR ρ vs) with
            | none => rw [hg] at hres; cases hres
            | some ρ1 =>
              rw [hg] at hres
              have L3 := LI.go (Gr.same sm) (LI.ok.same sm)
              have IE : EnvOk F W' H3 (wipe σ vs) (wipeR ρ vs) := ((I.env.gr g0).gr L3.gr).wipe vs
              refine ⟨wipeR ρ vs, W', ds[i], ρ1, ⟨L3.ok, I.gr.trans (g0.trans L3.gr), IE⟩, rx, hg, fun σ2 I2 w2 => ⟨(w2 vs hv).trans (wipe2 σ vs), ρ1, W', I2.nwF, ?_⟩⟩
              have hres : (t ρ1 W'.S).bind (fun b S1 => if b = true then (fi1 ρ1 S1).bind fun ds1 S2 => (if ds1.length ≤ LIM ∧ acc.length ≤ LIM ∧ ρ1.all isFz = true then
                (lcL g1 t1 e (wipeR ρ1 vs1) ds1 acc S2).bind fun acc2 S3 => lcL2 g t fi1 g1 t1 e vs1 (wipeR ρ vs) (ds.drop (i + 1)) acc2 S3 else .no)
                else lcL2 g t fi1 g1 t1 e vs1 (wipeR ρ vs) (ds.drop (i + 1)) acc S1) = .ok ys S2 := hres
              cases ht : t ρ1 W'.S with
              | no => rw [ht] at hres; cases hres
              | er x S => rw [ht] at hres; cases hres
              | ok b S3 =>
                rw [ht] at hres
                intro b' H4 W4 e4 g4 ok4 rb
                cases (show b = b' from rb)
                have L4 := L3.go g4 ok4
                cases b with
                | false =>
                  rw [if_neg Bool.false_ne_true]
                  exact ⟨W4, acc, ws, L4, by rw [e4]; exact hres⟩
                | true =>
                  rw [if_pos rfl]
                  have I4 := I2.nwF.go g4 ok4
                  refine ⟨ρ1, W4, I4, ?_⟩
                  rw [e4]
                  have hres : (fi1 ρ1 S3).bind (fun ds1 S2 => (if ds1.length ≤ LIM ∧ acc.length ≤ LIM ∧ ρ1.all isFz = true then
                    (lcL g1 t1 e (wipeR ρ1 vs1) ds1 acc S2).bind fun acc2 S3 => lcL2 g t fi1 g1 t1 e vs1 (wipeR ρ vs) (ds.drop (i + 1)) acc2 S3 else .no)) = .ok ys S2 := hres
                  cases hf1 : fi1 ρ1 S3 with
                  | no => rw [hf1] at hres; cases hres
                  | er x S => rw [hf1] at hres; cases hres
                  | ok ds1 S5 =>
                    rw [hf1] at hres
                    have hres : (if ds1.length ≤ LIM ∧ acc.length ≤ LIM ∧ ρ1.all isFz = true then
                      (lcL g1 t1 e (wipeR ρ1 vs1) ds1 acc S5).bind fun acc2 S3 => lcL2 g t fi1 g1 t1 e vs1 (wipeR ρ vs) (ds.drop (i + 1)) acc2 S3 else .no) = .ok ys S2 := hres
                    split at hres
                    · rename_i hz
                      obtain ⟨hz1, hz2, hz3⟩ := hz
                      intro J1 Y1 G1 H5 W5 e5 g5 ok5 wk1 st1 yl1
                      have L5 := L4.go g5 ok5
                      have I5 : IF F W5 H5 σ2 ρ1 := (I2.go g4 ok4).go g5 ok5
                      refine ⟨fun j k H' => k = ds1.length - j ∧ j ≤ ds1.length ∧ ∃ W' acc ws, LcI F W1 H1 Dl W' H' acc ws ∧ GrS W5 H5 W' H' ∧ acc.length ≤ LIM + j ∧
                        (lcL g1 t1 e (wipeR ρ1 vs1) (ds1.drop j) acc W'.S).bind (fun acc2 S3 => lcL2 g t fi1 g1 t1 e vs1 (wipeR ρ vs) (ds.drop (i + 1)) acc2 S3) = .ok ys S2, ⟨ds1.length, by simp, Nat.zero_le _, W5, acc, ws, L5, GrS.refl _ _, by omega, by rw [e5]; exact hres⟩, ?_⟩
                      rintro j k H6 ⟨rfl, hj, W6, acc6, ws6, L6, gs6, hac, hres6⟩
                      have hG1 := st1 W6 H6 gs6
                      by_cases hjt : j < ds1.length
                      · refine .inr ⟨wk1.goes j H6 hjt hG1, fun H' => ∃ W' acc ws, LcI F W1 H1 Dl W' H' acc ws ∧ GrS W5 H5 W' H' ∧ acc.length ≤ LIM + (j + 1) ∧
                          (lcL g1 t1 e (wipeR ρ1 vs1) (ds1.drop (j + 1)) acc W'.S).bind (fun acc2 S3 => lcL2 g t fi1 g1 t1 e vs1 (wipeR ρ vs) (ds.drop (i + 1)) acc2 S3) = .ok ys S2, fun H'' p => ⟨ds1.length - (j + 1), by omega, rfl, hjt, p⟩, fun x1 H7 y1 => ?_⟩
                        have y1 := wk1.yields j H6 x1 H7 hjt hG1 y1
                        have hdj : ds1[j]? = some ds1[j] := by simp [hjt]
                        obtain ⟨sm1, rx1⟩ := yl1 j ds1[j] W6 H6 x1 H7 gs6 L6.ok hdj y1
                        rw [List.drop_eq_getElem_cons hjt] at hres6
                        unfold lcL at hres6
                        cases hg1 : g1 ds1[j] (wipeR ρ1 vs1) with
                        | none => rw [hg1] at hres6; cases hres6
                        | some ρ2 =>
                          rw [hg1] at hres6
                          have L7 := L6.go (Gr.same sm1) (L6.ok.same sm1)
                          have gs7 : GrS W5 H5 W6 H7 := gs6.trans (Gr.same sm1).s
                          have IE7 : EnvOk F W6 H7 (wipe σ2 vs1) (wipeR ρ1 vs1) := (I5.env.fzS hz3 gs7).wipe vs1
                          refine ⟨wipeR ρ1 vs1, W6, ds1[j], ρ2, ⟨L7.ok, I.gr.trans (g0.trans L7.gr), IE7⟩, rx1, hg1, fun σ3 I8 w8 => ⟨(w8 vs1 hv1).trans (wipe2 σ2 vs1), ρ2, W6, I8.nwF, ?_⟩⟩
                          have hres6 : ((t1 ρ2 W6.S).bind (fun b S1 => if b = true then (e ρ2 S1).bind fun y S2 => lcL g1 t1 e (wipeR ρ1 vs1) (ds1.drop (j + 1)) (acc6 ++ [y]) S2 else lcL g1 t1 e (wipeR ρ1 vs1) (ds1.drop (j + 1)) acc6 S1)).bind (fun acc2 S3 => lcL2 g t fi1 g1 t1 e vs1 (wipeR ρ vs) (ds.drop (i + 1)) acc2 S3) = .ok ys S2 := hres6
                          cases ht1 : t1 ρ2 W6.S with
                          | no => rw [ht1] at hres6; cases hres6
                          | er x S => rw [ht1] at hres6; cases hres6
                          | ok b S8 =>
                            rw [ht1] at hres6
                            intro b' H8 W8 e8 g8 ok8 rb8
                            cases (show b = b' from rb8)
                            have L8 := L7.go g8 ok8
                            have gs8 := gs7.trans g8.s
                            cases b with
                            | false =>
                              rw [if_neg Bool.false_ne_true]
                              exact ⟨W8, acc6, ws6, L8, gs8, by omega, by rw [e8]; exact hres6⟩
                            | true =>
                              rw [if_pos rfl]
                              have hres6 : ((e ρ2 S8).bind (fun y S2 => lcL g1 t1 e (wipeR ρ1 vs1) (ds1.drop (j + 1)) (acc6 ++ [y]) S2)).bind (fun acc2 S3 => lcL2 g t fi1 g1 t1 e vs1 (wipeR ρ vs) (ds.drop (i + 1)) acc2 S3) = .ok ys S2 := hres6
                              refine ⟨ρ2, W8, (I8.nwF).go g8 ok8, ?_⟩
                              rw [e8]
                              cases he : e ρ2 S8 with
                              | no => rw [he] at hres6; cases hres6
                              | er x S => rw [he] at hres6; cases hres6
                              | ok y S9 =>
                                rw [he] at hres6
                                intro v H9 W9 e9 g9 ok9 rv
                                have L9 := L8.go g9 ok9
                                have gs9 := gs8.trans g9.s
                                obtain ⟨La, ga⟩ := L9.app hD rv
                                refine ⟨ws6, L9.h, ?_, W9, acc6 ++ [y], ws6 ++ [v], La, gs9.trans ga, by simp; omega, by rw [e9]; exact hres6⟩
                                have hn := L9.r.len
                                have : ws6.length < LIM + LIM := by omega
                                exact Nat.lt_of_lt_of_le this (by show 1000000 + 1000000 ≤ sizeLine; decide)
                      · have ej : j = ds1.length := by omega
                        subst ej
                        refine .inl ⟨wk1.stops H6 hG1, W6, acc6, ws6, L6, ?_⟩
                        rw [List.drop_length] at hres6
                        unfold lcL at hres6
                        exact hres6
                    · cases hres
          · have ei : i = ds.length := by omega
            subst ei
            refine .inl ⟨wk.stops H' hG, ?_⟩
            rw [List.drop_length] at hres
            unfold lcL2 at hres
            cases hres
            exact q1 _ H' W' rfl (g0.trans LI.gr) LI.ok ⟨Dl, ws, rfl, hD0, LI.m, LI.h, LI.r⟩
    · exact q1.elim
section
variable {X : Cx} {F : Fm} {elt tg iter tg1 iter1 : Expr} {ifs ifs1 : List Expr} {scope : Scope} {own : List (Str × Nat)} {vs1 : List Nat} {pos spos : Pos} {fi fi1 : Fn (List D)} {g g1 : Tgt D} {is is1 : List Nat} {t t1 : Fn Bool} {e : Fn D}
theorem ds_setLc2 {i : Nat} {y : Str} {py : Pos} (hc : X.calm = true) (hN : X.N.Nodup) (hy : X.N[i]? = some y) (hyl : X.env.scope.names.lookup y = some .local)
    (hsw : swapsWith (.ListComp elt [⟨tg, iter, ifs, 0⟩, ⟨tg1, iter1, ifs1, 0⟩] scope pos) (some (.Name y py)) spos.line X.env = pure true) (hi : PI X tg iter (denI F fi)) (ok : BlkOk X.N X.env.scope scope own) (hv1 : ∀ i ∈ vs1, i ∈ own.map (·.2))
    (hg : ∀ (s : Shared) (H : Hp) (C : Addr) (cl : List (Str × Addr)) (fp : List Addr), PG (X.blk s H scope (compEnvC scope cl C X.env) fp) tg (denG F F.rep g is))
    (ht : ∀ (s : Shared) (H : Hp) (C : Addr) (cl : List (Str × Addr)) (fp : List Addr), PTs (X.blk s H scope (compEnvC scope cl C X.env) fp) ifs (denT F.nw t))
    (hi1 : ∀ (s : Shared) (H : Hp) (C : Addr) (cl : List (Str × Addr)) (fp : List Addr), PI (X.blk s H scope (compEnvC scope cl C X.env) fp) tg1 iter1 (denI F.nw fi1))
    (hg1 : ∀ (s : Shared) (H : Hp) (C : Addr) (cl : List (Str × Addr)) (fp : List Addr), PG (X.blk s H scope (compEnvC scope cl C X.env) fp) tg1 (denG F F.rep g1 is1))
    (ht1 : ∀ (s : Shared) (H : Hp) (C : Addr) (cl : List (Str × Addr)) (fp : List Addr), PTs (X.blk s H scope (compEnvC scope cl C X.env) fp) ifs1 (denT F.nw t1))
    (he : ∀ (s : Shared) (H : Hp) (C : Addr) (cl : List (Str × Addr)) (fp : List Addr), PE (X.blk s H scope (compEnvC scope cl C X.env) fp) elt (denE F.nw e)) (hv : ∀ i ∈ is, i ∈ own.map (·.2) := by decide) (hw : ∀ i ∈ is1, i ∈ vs1 := by decide)
    (hs : ∀ x, foldedSetIterable iter X.env x = pure x := by intro _; rfl) (hs1 : ∀ env x, foldedSetIterable iter1 env x = pure x := by intro _ _; rfl) :
    PS X (.Assign [.Name y py] (.ListComp elt [⟨tg, iter, ifs, 0⟩, ⟨tg1, iter1, ifs1, 0⟩] scope pos) spos) (denS F (sSet i (fLc2 fi g t fi1 g1 t1 e (own.map (·.2)) vs1))) :=
  (ps_setLc2 hc hN hy hyl hsw hi ok hv1 hg ht hi1 hg1 ht1 he hs hs1).imp fun En σ H ⟨ρ, W, I, q⟩ => den_lc2 (Q := fun x H1 => gName i x σ H1 En.nx) hv hw ⟨ρ, W, I, q.bind I fun sl v H1 W1 g ok r q1 => by
    split at q1
    · rename_i hi
      exact PostS.nil (σ := σ.set i (some v)) ⟨ok, I.gr.trans g, (I.env.gr g).setX I.env I.gr r hi⟩ q1
    · exact q1.elim⟩
end
/-! ### a look at a frame's own lists: a test -/
@[simp] def fPeekT (t : Fn Bool) : Fn Bool := fun ρ S => match t (ρ.map frzS) S with
  | .ok d S1 => .ok d S1
  | .er x S1 => if x.fld.isNone = true then .er x S1 else .no
  | .no => .no
section
variable {X : Cx} {F : Fm} {e : Expr}
theorem dt_peek {t : Fn Bool} (h : ∀ W0 H0, PT X e (denT { F with W0 := W0, H0 := H0 } t)) : PT X e (denT F (fPeekT t)) := by
  refine ⟨fun pins s σ H Q I q => ?_⟩
  obtain ⟨ρ, W, J, q⟩ := q
  refine (h (unmaskAll W) H).run pins s σ H Q I ⟨ρ.map frzS, unmaskAll W, ⟨?_, Gr.refl _ _, ?_⟩, ?_⟩
  · refine ⟨fun p hp => ?_, fun l x hx => ?_, J.ok.bd, fun P q hT => (J.ok.tab P q hT).world (fun a h1 => ⟨(if_neg (by rw [h1]; simp)).trans h1, rfl⟩) (fun a q h1 h2 => ⟨fun l => by
      show (if W.M a = some 0 then none else W.M a) ≠ some (l + 1)
      split
      · simp
      · exact h1 l, rfl⟩)⟩
    · refine J.ok.dom p fun z => hp ?_
      show (if W.M p = some 0 then none else W.M p) = none
      split
      · rfl
      · exact z
    · obtain ⟨a, h1, h2⟩ := J.ok.obj l x hx
      refine ⟨a, h1, h2.world fun q hq => ⟨?_, rfl⟩⟩
      show (if W.M q = some 0 then none else W.M q) = some (l + 2)
      rw [if_neg (by rw [hq]; simp)]
      exact hq
  · have sm : Same (hid W.M H) (hid (unmaskAll W).M H) := fun a o h => by
      obtain ⟨h1, h2⟩ := hid_some.mp h
      refine hid_some.mpr ⟨?_, h2⟩
      show (if W.M a = some 0 then none else W.M a) = none
      rw [if_neg (by rw [h1]; simp)]
      exact h1
    have no : ∀ (i : Nat) (s : Sl), (ρ.map frzS)[i]? = some s → s = .un ∨ ∃ d, s = .fz d := fun i s h => by
      rw [List.getElem?_map] at h
      obtain ⟨s', _, rfl⟩ := Option.map_eq_some_iff.mp h
      cases s' with
      | un => exact .inl rfl
      | fz d => exact .inr ⟨d, rfl⟩
      | ow ds => exact .inr ⟨.lst ds, rfl⟩
      | nw _ _ _ => exact .inl rfl
      | ex _ => exact .inl rfl
    refine ⟨by rw [List.length_map]; exact J.env.len, fun i d e => ?_, fun i d e => ?_, fun i j d es p e => ?_, fun i c ns xs e => ?_, fun i c e => ?_, J.env.tk⟩
    · rw [List.getElem?_map] at e
      obtain ⟨s', e1, e2⟩ := Option.map_eq_some_iff.mp e
      cases s' with
      | un => cases e2
      | nw _ _ _ => cases e2
      | ex _ => cases e2
      | fz d' =>
        cases e2
        obtain ⟨v, a, b⟩ := J.env.fz i d e1
        exact ⟨v, a, Rep.mono (fun _ _ h => h) sm _ _ b⟩
      | ow ds =>
        cases e2
        obtain ⟨p, vs, a, b, c, d, r⟩ := J.env.ow i ds e1
        refine ⟨.ref p, a, .lst (hid_some.mpr ⟨?_, d⟩) (Reps.mono (fun _ _ h => h) sm _ _ r)⟩
        show (if W.M p = some 0 then none else W.M p) = none
        rw [if_pos b]
    · rcases no i _ e with z | ⟨_, z⟩ <;> cases z
    · rcases no i _ e with z | ⟨_, z⟩ <;> cases z
    · rcases no i _ e with z | ⟨_, z⟩ <;> cases z
    · rcases no i _ e with z | ⟨_, z⟩ <;> cases z
  · unfold fPeekT at q
    show Post _ _ _ _ _ (t (ρ.map frzS) W.S) Q
    have back : ∀ (H' : Hp) (W' : Wd), Gr (unmaskAll W) H W' H' → WOk W' H' → ∃ W3 : Wd, W3.S = W'.S ∧ W3.μ = W'.μ ∧ Gr W H W3 H' ∧ WOk W3 H' ∧ (∀ p, W.M p ≠ some 0 → W3.M p = W'.M p) := fun H' W' g ok => by
      have m0 : ∀ p, W.M p = some 0 → W'.M p = none := fun p hp => by
        rw [g.ms p (J.ok.dom p (by simp [hp]))]
        show (if W.M p = some 0 then none else W.M p) = none
        rw [if_pos hp]
      refine ⟨{ W' with M := fun p => if W.M p = some 0 then some 0 else W'.M p }, rfl, rfl, ⟨fun p hp => ?_, fun p o hp hl => g.ex p o hp fun l => ?_, g.ds, g.mu, g.tt⟩, ⟨fun p hp => ?_, fun l x hx => ?_, ok.bd, fun P q hT => (ok.tab P q hT).world (fun a h1 => ⟨(if_neg fun z => by rw [m0 a z] at h1; cases h1).trans h1, rfl⟩) (fun a q h1 h2 => ⟨fun l => by
        show (if W.M a = some 0 then some 0 else W'.M a) ≠ some (l + 1)
        split
        · simp
        · exact h1 l, rfl⟩)⟩, fun p hp => if_neg hp⟩
      · show (if W.M p = some 0 then some 0 else W'.M p) = W.M p
        split
        · rename_i z; exact z.symm
        · rename_i z
          rw [g.ms p hp]
          show (if W.M p = some 0 then none else W.M p) = W.M p
          rw [if_neg z]
      · show (if W.M p = some 0 then none else W.M p) ≠ some (l + 1)
        split
        · simp
        · exact hl l
      · have hp : (if W.M p = some 0 then some 0 else W'.M p) ≠ none := hp
        split at hp
        · rename_i z
          exact g.ds p (J.ok.dom p (by simp [z]))
        · exact ok.dom p hp
      · obtain ⟨a, h1, h2⟩ := ok.obj l x hx
        refine ⟨a, h1, h2.world fun q hq => ⟨?_, rfl⟩⟩
        show (if W.M q = some 0 then some 0 else W'.M q) = some (l + 2)
        rw [if_neg fun z => by rw [m0 q z] at hq; cases hq]
        exact hq
    revert q
    cases t (ρ.map frzS) W.S with
    | no => exact fun q => q
    | er x S =>
      intro q cls dd H' W' e g ok r
      obtain ⟨W3, e3, eμ, g3, ok3, hM⟩ := back H' W' g ok
      have q : Post F relE W H σ (if x.fld.isNone = true then .er x S else .no) Q := q
      split at q
      · rename_i hx
        obtain ⟨C, h1, h2, h3⟩ := r
        refine q cls dd H' W3 (e3.trans e) g3 ok3 ⟨C, h1, h2, ?_⟩
        cases hf : x.fld with
        | none => rw [hf] at h3; exact h3
        | some fs => rw [hf] at hx; cases hx
      · exact q.elim
    | ok d S =>
      intro q v H' W' e g ok r
      obtain ⟨W3, e3, eμ, g3, ok3, hM⟩ := back H' W' g ok
      exact q v H' W3 (e3.trans e) g3 ok3 r
end
end Bx

namespace Bx
open PySem PyProof.Rows L2

/-! ### try .. except -/
/-- what the written part says of an exception class x and the class c of a clause -/
def SubAt (K : PySem.W.Frag) (mg : Str → Option Value) (x c : Str) (b : Bool) : Prop := ∃ A B, mg x = some (.ref A) ∧ mg c = some (.ref B) ∧ PySem.W.exmOne K (.ref A) (.ref B) = some b
def Fm.wi (F : Fm) (W : WX) : Fm := { F with wish := W }
theorem IF.wi {F : Fm} {W : Wd} {H : Hp} {σ : L2.St} {ρ : Rho} (I : IF F W H σ ρ) (V : WX) : IF (F.wi V) W H σ ρ := ⟨I.ok, I.gr, ⟨I.env.len, I.env.fz, I.env.ow, I.env.dj, I.env.nw, I.env.ex, I.env.tk⟩⟩
theorem IF.iw {F : Fm} {W : Wd} {H : Hp} {σ : L2.St} {ρ : Rho} {V : WX} (I : IF (F.wi V) W H σ ρ) : IF F W H σ ρ := ⟨I.ok, I.gr, ⟨I.env.len, I.env.fz, I.env.ow, I.env.dj, I.env.nw, I.env.ex, I.env.tk⟩⟩
def pickH : List (List (Str × Bool) × Stm) → Exc → Rho → Store → SR
  | [], x, ρ, S => .mk (.xr x ρ) S
  | (tab, g) :: r, x, ρ, S => match tab.lookup x.cls with
    | some true => g ρ S
    | some false => pickH r x ρ S
    | none => .no
def sTry (body : Stm) (hs : List (List (Str × Bool) × Stm)) : Stm := fun ρ S => match body ρ S with
  | .mk (.xr x ρ1) S1 => pickH hs x ρ1 S1
  | r => r
/-- the clauses, their semantics, their readings -/
inductive HdsD (X : Cx) (F : Fm) : List ExceptHandler → List (List (Str × Bool) × Stm) → List (Value × (Addr → Value → Option Addr → TS)) → Prop
  | nil : HdsD X F [] [] []
  | cons {c : Str} {B : Addr} {tab : List (Str × Bool)} {g : Stm} {b₀ : Stmt} {suite : List Stmt} {np pos' : Pos} {hds : List ExceptHandler} {hs : List (List (Str × Bool) × Stm)} {l : List (Value × (Addr → Value → Option Addr → TS))}
      (hc : Gl X c) (hd : (c == ("__debug__" : Str)) = false) (hm : X.mg c = some (.ref B)) (ht : ∀ y b, tab.lookup y = some b → SubAt X.K X.mg y c b)
      (hsu : ∀ (a : Addr) (oe : Obj) (cls : Value) (d : Option Addr) (pn : List (Addr × Obj)), Zc cls d oe → (∃ vs, oe.data = .fields vs) → PSs (X.suite a ((a, oe) :: pn)) (b₀ :: suite) (denS F g)) (r : HdsD X F hds hs l) :
      HdsD X F (.ExceptHandler (some (.Name c np)) none (b₀ :: suite) pos' :: hds) ((tab, g) :: hs) ((.ref B, fun _ _ _ => denS F g) :: l)
section
variable {X : Cx} {F : Fm} {hds : List ExceptHandler} {hs : List (List (Str × Bool) × Stm)} {l : List (Value × (Addr → Value → Option Addr → TS))}
theorem HdsD.ok (h : HdsD X F hds hs l) : HdsOk X hds l := by
  induction h with
  | nil => exact .nil
  | cons hc hd hm ht hsu r ih => exact .cons ⟨hc, hd, .inl hm⟩ hsu ih
theorem HdsD.wish (hmg : F.mg = X.mg) {En : Ends} {x : Exc} {ρ : Rho} {S : Store} {W W' : Wd} {H H' : Hp} {cls : Value} {dd : Option Addr} {σ' : L2.St} (h : HdsD X F hds hs l) (e : W'.S = S) (I : IF F W' H' σ' ρ) (g : GrS W H W' H') (r : ERep F W' H' x cls dd)
    (q : PostS F En W H (pickH hs x ρ S)) : wMany X.K F.wish En l cls dd σ' H' := by
  induction h with
  | nil => exact q cls dd σ' H' W' e I g r
  | @cons c B tab gg b₀ suite np pos' hds hs l hc hd hm ht hsu r' ih =>
    have q : PostS F En W H (match tab.lookup x.cls with | some true => gg ρ S | some false => pickH hs x ρ S | none => .no) := q
    cases hl : tab.lookup x.cls with
    | none => rw [hl] at q; exact q.elim
    | some b =>
      rw [hl] at q
      obtain ⟨A, B', e1, e2, e3⟩ := ht _ _ hl
      rw [hm] at e2
      cases e2
      obtain ⟨C, h1, h2, h3⟩ := r
      rw [hmg, e1] at h1
      cases h1
      subst h2
      refine ⟨b, e3, fun hb a ha => ?_, fun hb => ?_⟩
      · subst hb
        exact ⟨ρ, W', I, by rw [e]; exact PostS.weaken g q⟩
      · subst hb
        exact ih q
end
section
variable {X : Cx} {F : Fm} {body : List Stmt} {h₀ : ExceptHandler} {hds : List ExceptHandler} {hs : List (List (Str × Bool) × Stm)} {l : List (Value × (Addr → Value → Option Addr → TS))} {pos : Pos} {g : Stm}
theorem ds_try (hst : X.stack = X.env :: X.outer) (hf : X.env.frame = some X.env.locals) (tk : Takes X F.wish)
    (hb : ∀ (W : WX) (pn : List (Addr × Obj)) (xe : Value → Shared → Prop), Takes (X.tr pn xe) W → PassesOwn (model X.prog X.w) X.A X.env xe → PSs (X.tr pn xe) body (denS (F.wi W) g))
    (hh : HdsD X F (h₀ :: hds) hs l) (hmg : F.mg = X.mg := by rfl) : PS X (.Try body (h₀ :: hds) [] [] pos) (denS F (sTry g hs)) :=
  (ps_try_many hst hf tk hb hh.ok).imp fun En σ H ⟨ρ, W, I, q⟩ => by
    refine ⟨ρ, W, I.wi _, ?_⟩
    unfold sTry at q
    revert q
    match g ρ W.S with
    | .mk (.nx ρ1) S => exact fun q σ' H' W' e I' g' => q σ' H' W' e I'.iw g'
    | .mk (.bk ρ1) S => exact fun q σ' H' W' e I' g' => q σ' H' W' e I'.iw g'
    | .mk (.ct ρ1) S => exact fun q σ' H' W' e I' g' => q σ' H' W' e I'.iw g'
    | .mk (.rt d) S => exact fun q => q
    | .mk (.xr x ρ1) S => exact fun q cls dd σ' H' W' e I' g' r => hh.wish hmg e I'.iw g' r q
    | .no => exact fun q => q
end
theorem tab_nil {K : PySem.W.Frag} {mg : Str → Option Value} {c : Str} : ∀ (y : Str) (b : Bool), ([] : List (Str × Bool)).lookup y = some b → SubAt K mg y c b := fun y b h => by cases h
theorem tab_cons {K : PySem.W.Frag} {mg : Str → Option Value} {c x : Str} {b : Bool} {tab : List (Str × Bool)} (h : SubAt K mg x c b) (r : ∀ (y : Str) (b : Bool), tab.lookup y = some b → SubAt K mg y c b) : ∀ (y : Str) (b' : Bool), ((x, b) :: tab).lookup y = some b' → SubAt K mg y c b' := fun y b' e => by
  rw [List.lookup_cons] at e
  split at e
  · rename_i hy
    cases e
    have : y = x := by simpa using hy
    rw [this]
    exact h
  · exact r y b' e
theorem sub_mk {K : PySem.W.Frag} {h : Heap} {mg : Str → Option Value} {x c : Str} {A B : Addr} {v : Bool} (X : K.In h) (G : h.Ns mainGlobals mg) (a : PySem.W.nsIn K mainGlobals x = some (some (.ref A))) (b : PySem.W.nsIn K mainGlobals c = some (some (.ref B)))
    (h1 : PySem.W.subIn K (.ref B) (.type "BaseException") = some true) (hd : PySem.W.hasDictIn K B = true) (ht : PySem.W.typeIn K (.ref B) = some (.type "type")) (h4 : PySem.W.subIn K (.ref A) (.ref B) = some v) : SubAt K mg x c v :=
  ⟨A, B, PySem.W.mg_of X G a, PySem.W.mg_of X G b, PySem.W.exm_ref h1 hd ht h4⟩
theorem at_mk {K : PySem.W.Frag} {h : Heap} {mg : Str → Option Value} {x : Str} {A : Addr} (X : K.In h) (G : h.Ns mainGlobals mg) (a : PySem.W.nsIn K mainGlobals x = some (some (.ref A))) : ∃ A, mg x = some (.ref A) := ⟨A, PySem.W.mg_of X G a⟩
end Bx

namespace Bx
open PySem L2
/-! ### plain data, compared -/
structure Py (k : Nat) (d : D) (p : PyData) : Prop where
  e : toPy d = some p
  c : p.canLay0 = true
  w : p.depth ≤ k
structure Pys (k : Nat) (d : List D) (p : List PyData) : Prop where
  e : toPys d = some p
  c : PyData.canLayAll0 p = true
  w : PyData.depthAll p ≤ k
theorem py_non {k : Nat} : Py k .non .none := ⟨rfl, rfl, by simp [PyData.depth]⟩
theorem py_int {k : Nat} {n : Int} : Py k (.int n) (.int n) := ⟨rfl, rfl, by simp [PyData.depth]⟩
theorem py_bl {k : Nat} {n : Bool} : Py k (.bl n) (.bool n) := ⟨rfl, rfl, by simp [PyData.depth]⟩
theorem py_str {k : Nat} {n : Str} (h : PyData.strOk n = true) : Py k (.str n) (.str n) := ⟨rfl, h, by simp [PyData.depth]⟩
theorem pys_nil {k : Nat} : Pys k [] [] := ⟨rfl, rfl, by simp [PyData.depthAll]⟩
theorem pys_cons {k : Nat} {d : D} {p : PyData} {ds : List D} {ps : List PyData} (a : Py k d p) (b : Pys k ds ps) : Pys k (d :: ds) (p :: ps) :=
  ⟨by simp [toPys, a.e, b.e], by simp [PyData.canLayAll0, a.c, b.c], by simp only [PyData.depthAll]; exact Nat.max_le.mpr ⟨a.w, b.w⟩⟩
theorem py_tup {k : Nat} {ds : List D} {ps : List PyData} (a : Pys k ds ps) : Py (k + 1) (.tup ds) (.tuple ps) := ⟨by simp [toPy, a.e], by simp [PyData.canLay0, a.c], by simp [PyData.depth]; exact a.w⟩
theorem py_lst {k : Nat} {ds : List D} {ps : List PyData} (a : Pys k ds ps) : Py (k + 1) (.lst ds) (.list ps) := ⟨by simp [toPy, a.e], by simp [PyData.canLay0, a.c], by simp [PyData.depth]; exact a.w⟩
theorem pys_ints {k : Nat} : ∀ l : List Int, Pys k (l.map .int) (l.map .int)
  | [] => pys_nil
  | _ :: l => pys_cons py_int (pys_ints l)
theorem shaped_py {k : Nat} {d : D} {p : PyData} (a : Py k d p) (h : k ≤ 64) : SeqAt.shaped p = true := by
  unfold SeqAt.shaped
  rw [a.c]
  simpa using Nat.le_trans a.w h
theorem gEq_py {k j : Nat} {d e : D} {p q : PyData} (a : Py k d p) (b : Py j e q) (hk : k ≤ 64 := by decide) (hj : j ≤ 64 := by decide) (S : Store) : gEq d e S = .ok (.bl (PyData.eqv p q)) S := by
  unfold gEq
  rw [a.e, b.e]
  simp [shaped_py a hk, shaped_py b hj]
theorem gNe_py {k j : Nat} {d e : D} {p q : PyData} (a : Py k d p) (b : Py j e q) (hk : k ≤ 64 := by decide) (hj : j ≤ 64 := by decide) (S : Store) : gNe d e S = .ok (.bl (!PyData.eqv p q)) S := by
  unfold gNe
  rw [a.e, b.e]
  simp [shaped_py a hk, shaped_py b hj]
mutual
theorem eqv_refl : ∀ p : PyData, p.canLay0 = true → PyData.eqv p p = true
  | .none, _ => rfl
  | .bool b, _ => by simp [PyData.eqv]
  | .int b, _ => by simp [PyData.eqv]
  | .str b, _ => by simp [PyData.eqv]
  | .list xs, h => by simp only [PyData.eqv]; exact eqvAll_refl xs h
  | .tuple xs, h => by simp only [PyData.eqv]; exact eqvAll_refl xs h
  | .dict xs, h => by simp [PyData.canLay0] at h
theorem eqvAll_refl : ∀ p : List PyData, PyData.canLayAll0 p = true → PyData.eqvAll p p = true
  | [], _ => rfl
  | x :: xs, h => by
    simp only [PyData.canLayAll0, Bool.and_eq_true] at h
    simp [PyData.eqvAll, eqv_refl x h.1, eqvAll_refl xs h.2]
end
/-- plain data no deeper than k -/
def Pl (k : Nat) (d : D) : Prop := ∃ p, Py k d p
theorem pl_non {k : Nat} : Pl k .non := ⟨_, py_non⟩
theorem pl_int {k : Nat} {n : Int} : Pl k (.int n) := ⟨_, py_int⟩
theorem pl_bl {k : Nat} {n : Bool} : Pl k (.bl n) := ⟨_, py_bl⟩
theorem pl_str {k : Nat} {n : Str} (h : PyData.strOk n = true) : Pl k (.str n) := ⟨_, py_str h⟩
theorem pls {k : Nat} : ∀ {ds : List D}, (∀ d ∈ ds, Pl k d) → ∃ ps, Pys k ds ps
  | [], _ => ⟨_, pys_nil⟩
  | d :: ds, h => by
    obtain ⟨p, a⟩ := h d (List.mem_cons_self ..)
    obtain ⟨ps, b⟩ := pls (ds := ds) fun x hx => h x (List.mem_cons_of_mem _ hx)
    exact ⟨_, pys_cons a b⟩
theorem pl_tup {k : Nat} {ds : List D} (h : ∀ d ∈ ds, Pl k d) : Pl (k + 1) (.tup ds) := by
  obtain ⟨ps, a⟩ := pls h
  exact ⟨_, py_tup a⟩
theorem pl_lst {k : Nat} {ds : List D} (h : ∀ d ∈ ds, Pl k d) : Pl (k + 1) (.lst ds) := by
  obtain ⟨ps, a⟩ := pls h
  exact ⟨_, py_lst a⟩
theorem pl_mono {k j : Nat} {d : D} (h : Pl k d) (hk : k ≤ j) : Pl j d := by
  obtain ⟨p, a⟩ := h
  exact ⟨p, a.e, a.c, Nat.le_trans a.w hk⟩
theorem pl_ints {k : Nat} {l : List Int} : ∀ d ∈ l.map D.int, Pl k d := fun d h => by
  obtain ⟨n, _, rfl⟩ := List.mem_map.mp h
  exact pl_int
theorem pl_all {k : Nat} {l : List D} : (∀ d ∈ l, Pl k d) ↔ ∀ d ∈ l, Pl k d := Iff.rfl
theorem gEq_same {k : Nat} {d : D} (h : Pl k d) (hk : k ≤ 64 := by decide) (S : Store) : gEq d d S = .ok (.bl true) S := by
  obtain ⟨p, a⟩ := h
  rw [gEq_py a a hk hk, eqv_refl _ a.c]
theorem gNe_same {k : Nat} {d : D} (h : Pl k d) (hk : k ≤ 64 := by decide) (S : Store) : gNe d d S = .ok (.bl false) S := by
  obtain ⟨p, a⟩ := h
  rw [gNe_py a a hk hk, eqv_refl _ a.c]
  rfl
@[simp] theorem gEq_int (a b : Int) (S : Store) : gEq (.int a) (.int b) S = .ok (.bl (decide (a = b))) S := by
  rw [gEq_py (k := 0) (j := 0) py_int py_int]
  rfl
@[simp] theorem gNe_int (a b : Int) (S : Store) : gNe (.int a) (.int b) S = .ok (.bl (!decide (a = b))) S := by
  rw [gNe_py (k := 0) (j := 0) py_int py_int]
  rfl
@[simp] theorem gEq_bl (a b : Bool) (S : Store) : gEq (.bl a) (.bl b) S = .ok (.bl (a == b)) S := by
  rw [gEq_py (k := 0) (j := 0) py_bl py_bl]
  simp [PyData.eqv]
@[simp] theorem gNe_bl (a b : Bool) (S : Store) : gNe (.bl a) (.bl b) S = .ok (.bl (!(a == b))) S := by
  rw [gNe_py (k := 0) (j := 0) py_bl py_bl]
  simp [PyData.eqv]
theorem gEq_str {a b : Str} (ha : PyData.strOk a = true) (hb : PyData.strOk b = true) (S : Store) : gEq (.str a) (.str b) S = .ok (.bl (a == b)) S := by
  rw [gEq_py (k := 0) (j := 0) (py_str ha) (py_str hb)]
  simp [PyData.eqv]
theorem gNe_str {a b : Str} (ha : PyData.strOk a = true) (hb : PyData.strOk b = true) (S : Store) : gNe (.str a) (.str b) S = .ok (.bl (!(a == b))) S := by
  rw [gNe_py (k := 0) (j := 0) (py_str ha) (py_str hb)]
  simp [PyData.eqv]
theorem eqvAll_ints : ∀ a b : List Int, PyData.eqvAll (a.map .int) (b.map .int) = decide (a = b)
  | [], [] => by simp [PyData.eqvAll]
  | [], _ :: _ => by simp [PyData.eqvAll]
  | _ :: _, [] => by simp [PyData.eqvAll]
  | x :: a, y :: b => by
    simp only [List.map_cons, PyData.eqvAll, PyData.eqv, eqvAll_ints a b]
    by_cases h : x = y <;> simp [h]
theorem gEq_tups (a b : List Int) (S : Store) : gEq (.tup (a.map .int)) (.tup (b.map .int)) S = .ok (.bl (decide (a = b))) S := by
  rw [gEq_py (k := 1) (j := 1) (py_tup (pys_ints a)) (py_tup (pys_ints b))]
  simp only [PyData.eqv, eqvAll_ints]
theorem gEq_lsts (a b : List Int) (S : Store) : gEq (.lst (a.map .int)) (.lst (b.map .int)) S = .ok (.bl (decide (a = b))) S := by
  rw [gEq_py (k := 1) (j := 1) (py_lst (pys_ints a)) (py_lst (pys_ints b))]
  simp only [PyData.eqv, eqvAll_ints]

/-! ### the source of draws -/
def Src (S : Store) : Prop := ∃ (s i : Int) (cs : List Int), S = [.src s cs i] ∧ cs.length ≤ 1000
theorem e_next {S : Store} (h : Src S) {b : Int} (h1 : 0 < b) (h2 : b < 2 ^ 256) : ∃ (v : Int) (S' : Store), F_next [.ref 0, .int b] S = .ok (.int v) S' ∧ 0 ≤ v ∧ v < b ∧ Src S' := by
  obtain ⟨s, i, cs, rfl, hl⟩ := h
  refine ⟨(nextV s cs i b).v, _, by simp only [F_next, List.getElem?_cons_zero]; rw [if_pos ⟨h1, h2, hl⟩], ?_, ?_, ?_⟩
  · unfold nextV
    split
    · exact Int.emod_nonneg _ (by omega)
    · exact Int.emod_nonneg _ (by omega)
  · unfold nextV
    split
    · exact Int.emod_lt_of_pos _ h1
    · exact Int.emod_lt_of_pos _ h1
  · refine ⟨(nextV s cs i b).s, (nextV s cs i b).i, (nextV s cs i b).cs, rfl, ?_⟩
    unfold nextV
    split
    · simpa using hl
    · exact hl
/-- a loop that always goes on -/
theorem go_on {g : Tgt D} {body : Stm} (Inv : List D → Rho → Store → Prop)
    (step : ∀ d ds ρ S, Inv (d :: ds) ρ S → ∃ ρ1, g d ρ = some ρ1 ∧ ∃ ρ2 S2, body ρ1 S = .mk (.nx ρ2) S2 ∧ Inv ds ρ2 S2) : ∀ ds ρ S, Inv ds ρ S → ∃ ρ' S', sFor.go g body ds ρ S = .mk (.nx ρ') S' ∧ Inv [] ρ' S'
  | [], ρ, S, h => ⟨ρ, S, rfl, h⟩
  | d :: ds, ρ, S, h => by
    obtain ⟨ρ1, h1, ρ2, S2, h2, h3⟩ := step d ds ρ S h
    obtain ⟨ρ', S', h4, h5⟩ := go_on Inv step ds ρ2 S2 h3
    refine ⟨ρ', S', ?_, h5⟩
    unfold sFor.go
    rw [h1]
    simp only [h2]
    exact h4
/-- [e for ..], each draw-free -/
theorem lc_map {g : Tgt D} {e : Fn D} {ρ : Rho} {S : Store} (f : D → D) : ∀ (ds acc : List D), (∀ d ∈ ds, ∃ ρ1, g d ρ = some ρ1 ∧ e ρ1 S = .ok (f d) S) → lcL g fYes e ρ ds acc S = .ok (acc ++ ds.map f) S
  | [], acc, _ => by simp [lcL]
  | d :: ds, acc, h => by
    obtain ⟨ρ1, h1, h2⟩ := h d (List.mem_cons_self ..)
    unfold lcL
    rw [h1]
    simp only [fYes, R.bind, if_true, h2]
    rw [lc_map f ds _ fun x hx => h x (List.mem_cons_of_mem _ hx)]
    simp
theorem lc_fil {g : Tgt D} {t : Fn Bool} {e : Fn D} {ρ : Rho} {S : Store} (p : D → Bool) (f : D → D) : ∀ (ds acc : List D), (∀ d ∈ ds, ∃ ρ1, g d ρ = some ρ1 ∧ t ρ1 S = .ok (p d) S ∧ e ρ1 S = .ok (f d) S) → lcL g t e ρ ds acc S = .ok (acc ++ (ds.filter p).map f) S
  | [], acc, _ => by simp [lcL]
  | d :: ds, acc, h => by
    obtain ⟨ρ1, h1, h2, h3⟩ := h d (List.mem_cons_self ..)
    have ih := fun acc => lc_fil (g := g) (t := t) (e := e) (ρ := ρ) (S := S) p f ds acc
    unfold lcL
    rw [h1]
    simp only [h2, R.bind]
    cases hp : p d with
    | true =>
      simp only [if_true, h3, R.bind]
      rw [ih _ fun x hx => h x (List.mem_cons_of_mem _ hx)]
      simp [hp]
    | false =>
      simp only [Bool.false_eq_true, if_false]
      rw [ih _ fun x hx => h x (List.mem_cons_of_mem _ hx)]
      simp [hp]
/-! ### lists of integers -/
def dI (l : List Int) : List D := l.map .int
def dT (l : List (List Int)) : List D := l.map fun b => .tup (dI b)
@[simp] theorem dI_nil : dI [] = [] := rfl
theorem dI_cons (a : Int) (l : List Int) : dI (a :: l) = .int a :: dI l := rfl
@[simp] theorem dI_length (l : List Int) : (dI l).length = l.length := by simp [dI]
@[simp] theorem dI_append (a b : List Int) : dI a ++ dI b = dI (a ++ b) := by simp [dI]
@[simp] theorem dI_snoc (a : List Int) (b : Int) : dI a ++ [D.int b] = dI (a ++ [b]) := by simp [dI]
@[simp] theorem dI_rev (a : List Int) : (dI a).reverse = dI a.reverse := by simp [dI]
@[simp] theorem ints_dI (l : List Int) : ints? (dI l) = some l := ints_map l
@[simp] theorem dT_length (l : List (List Int)) : (dT l).length = l.length := by simp [dT]
@[simp] theorem dT_snoc (a : List (List Int)) (b : List Int) : dT a ++ [D.tup (dI b)] = dT (a ++ [b]) := by simp [dT]
theorem pys_dI {k : Nat} (l : List Int) : Pys k (dI l) (l.map .int) := pys_ints l
theorem pl_dI {k : Nat} {l : List Int} : ∀ d ∈ dI l, Pl k d := pl_ints
theorem map_int (l : List Int) : l.map D.int = dI l := rfl
theorem sIx_pos {n d : Nat} {i : Int} (h : 0 ≤ i) : HT.sIx n d (some i) = min i.toNat n := by
  obtain ⟨k, rfl⟩ := Int.eq_ofNat_of_zero_le h
  exact HT.sIx_nat n d k
theorem cut_take {l : List Int} {i : Int} (h : 0 ≤ i) : cutD (dI l) none (some i) = dI (l.take i.toNat) := by
  unfold cutD
  rw [sIx_pos h, HT.sIx_none]
  simp [dI, ← List.map_take]
  congr 1
  by_cases h2 : i.toNat ≤ l.length
  · rw [Nat.min_eq_left h2]
  · rw [Nat.min_eq_right (by omega), List.take_of_length_le (by omega), List.take_of_length_le (by omega)]
theorem cut_drop {l : List Int} {i : Int} (h : 0 ≤ i) : cutD (dI l) (some i) none = dI (l.drop i.toNat) := by
  unfold cutD
  rw [sIx_pos h, HT.sIx_none]
  simp [dI, ← List.map_drop]
  congr 1
  by_cases h2 : i.toNat ≤ l.length
  · rw [Nat.min_eq_left h2, List.take_of_length_le (by simp)]
  · rw [Nat.min_eq_right (by omega)]
    simp
    omega
theorem gSl_takeL {l : List Int} {i : Int} {S : Store} (h : 0 ≤ i) : gSl (.lst (dI l)) none (some i) S = .ok (.lst (dI (l.take i.toNat))) S := by
  show R.ok (D.lst (cutD (dI l) none (some i))) S = _
  rw [cut_take h]
theorem gSl_dropL {l : List Int} {i : Int} {S : Store} (h : 0 ≤ i) : gSl (.lst (dI l)) (some i) none S = .ok (.lst (dI (l.drop i.toNat))) S := by
  show R.ok (D.lst (cutD (dI l) (some i) none)) S = _
  rw [cut_drop h]
theorem gSl_takeT {l : List Int} {i : Int} {S : Store} (h : 0 ≤ i) : gSl (.tup (dI l)) none (some i) S = .ok (.tup (dI (l.take i.toNat))) S := by
  show R.ok (D.tup (cutD (dI l) none (some i))) S = _
  rw [cut_take h]
theorem gSl_dropT {l : List Int} {i : Int} {S : Store} (h : 0 ≤ i) : gSl (.tup (dI l)) (some i) none S = .ok (.tup (dI (l.drop i.toNat))) S := by
  show R.ok (D.tup (cutD (dI l) (some i) none)) S = _
  rw [cut_drop h]
theorem dI_inj {a b : List Int} : dI a = dI b ↔ a = b := ⟨fun h => by
  have := congrArg ints? h
  simpa using this, fun h => h ▸ rfl⟩
theorem rangeD_dI (lo : Int) (n : Nat) : rangeD lo n = dI ((List.range n).map fun (k : Nat) => lo + (k : Int)) := by simp [rangeD, dI]
theorem rangeD0 (n : Nat) : rangeD 0 n = dI ((List.range n).map fun (k : Nat) => (k : Int)) := by simp [rangeD, dI]
theorem atI_dI {l : List Int} {i : Int} (h0 : 0 ≤ i) (h : i < l.length) : atI (dI l) i = some (.int (l.getD i.toNat 0)) := by
  unfold atI ixN
  rw [if_pos h0, if_pos (by simpa using h)]
  have : i.toNat < l.length := by omega
  simp [dI, List.getElem?_eq_getElem this]
theorem cutD_dI (l : List Int) (lo hi : Option Int) : cutD (dI l) lo hi = dI ((l.drop (HT.sIx l.length 0 lo)).take (HT.sIx l.length l.length hi - HT.sIx l.length 0 lo)) := by
  simp [cutD, dI, List.map_drop, List.map_take]
/-- [e for x in ..], draw-free, integers -/
theorem lc_int {g : Tgt D} {e : Fn D} {ρ : Rho} {S : Store} (f : Int → Int) (l : List Int) (h : ∀ k ∈ l, ∃ ρ1, g (.int k) ρ = some ρ1 ∧ e ρ1 S = .ok (.int (f k)) S) : lcL g fYes e ρ (dI l) [] S = .ok (dI (l.map f)) S := by
  rw [lc_map (fun d => match d with | .int k => D.int (f k) | d => d) _ _ fun d hd => ?_]
  · simp [dI]
  · obtain ⟨k, hk, rfl⟩ := List.mem_map.mp hd
    exact h k hk
/-- [e for x in .. if t] -/
theorem lc_intF {g : Tgt D} {t : Fn Bool} {e : Fn D} {ρ : Rho} {S : Store} (p : Int → Bool) (f : Int → Int) (l : List Int) (h : ∀ k ∈ l, ∃ ρ1, g (.int k) ρ = some ρ1 ∧ t ρ1 S = .ok (p k) S ∧ e ρ1 S = .ok (.int (f k)) S) : lcL g t e ρ (dI l) [] S = .ok (dI ((l.filter p).map f)) S := by
  rw [lc_fil (fun d => match d with | .int k => p k | _ => true) (fun d => match d with | .int k => D.int (f k) | d => d) _ _ fun d hd => ?_]
  · simp only [dI, List.nil_append, List.filter_map, List.map_map]
    rfl
  · obtain ⟨k, hk, rfl⟩ := List.mem_map.mp hd
    exact h k hk
/-! ### conditional readings: side conditions for omega -/
theorem gFdiv_ok {i j : Int} {S : Store} (h1 : 0 < j) (h2 : j < 115792089237316195423570985008687907853269984665640564039457584007913129639936) : gFdiv (.int i) (.int j) S = .ok (.int (i / j)) S := if_pos ⟨h1, h2⟩
theorem gMod_ok {i j : Int} {S : Store} (h1 : 0 < j) : gMod (.int i) (.int j) S = .ok (.int (i % j)) S := if_pos h1
theorem gMulR_ok {i j : Int} {S : Store} (h1 : -18446744073709551616 < j) (h2 : j < 18446744073709551616) : gMul (.int i) (.int j) S = .ok (.int (i * j)) S := by
  show (if mulOk i j then _ else _) = _
  rw [if_pos]
  unfold mulOk
  rw [Bool.or_eq_true]
  exact .inr (by simp; omega)
theorem gMulL_ok {i j : Int} {S : Store} (h1 : -18446744073709551616 < i) (h2 : i < 18446744073709551616) : gMul (.int i) (.int j) S = .ok (.int (i * j)) S := by
  show (if mulOk i j then _ else _) = _
  rw [if_pos]
  unfold mulOk
  rw [Bool.or_eq_true]
  exact .inl (by simp; omega)
theorem gRange1_ok {j : Int} {S : Store} (h1 : 0 ≤ j) (h2 : j ≤ 1000000) : gRange1 [.int j] S = .ok (rangeD 0 j.toNat) S := if_pos ⟨by omega, h2⟩
theorem gRange2_ok {i j : Int} {S : Store} (h1 : 0 ≤ i) (h2 : i ≤ 1000000) (h3 : 0 ≤ j) (h4 : j ≤ 1000000) : gRange2 [.int i, .int j] S = .ok (rangeD i (j - i).toNat) S := if_pos ⟨by omega, by omega, by omega, by omega⟩
theorem gPow_ok {i j : Int} {S : Store} (h1 : 0 ≤ j) (h2 : j ≤ 1000000) (h3 : i.natAbs < 18446744073709551616) : gPow (.int i) (.int j) S = .ok (.int (i ^ j.toNat)) S := if_pos ⟨h1, h2, h3⟩
theorem gAddL_ok {a b : List D} {S : Store} (h : a.length + b.length ≤ 1000000) : gAdd (.lst a) (.lst b) S = .ok (.lst (a ++ b)) S := if_pos h
theorem gAddT_ok {a b : List D} {S : Store} (h : a.length + b.length ≤ 1000000) : gAdd (.tup a) (.tup b) S = .ok (.tup (a ++ b)) S := if_pos h
theorem gAdd_int {a b : Int} {S : Store} : gAdd (.int a) (.int b) S = .ok (.int (a + b)) S := rfl
theorem fLc_ok {fi : Fn (List D)} {g : Tgt D} {t : Fn Bool} {e : Fn D} {vs : List Nat} {ρ : Rho} {S S1 S2 : Store} {xs ys : List D} (h1 : fi ρ S = .ok xs S1) (h2 : xs.length ≤ 1000000) (h3 : lcL g t e (wipeR ρ vs) xs [] S1 = .ok ys S2) : fLc fi g t e vs ρ S = .ok (.ow ys) S2 := by
  unfold fLc
  rw [h1]
  show (if xs.length ≤ LIM then _ else _) = _
  rw [if_pos h2, h3]
  rfl
theorem atI_nat {α : Type} {l : List α} {i : Int} (h0 : 0 ≤ i) (h : i < l.length) : atI l i = l[i.toNat]? := by
  unfold atI ixN
  rw [if_pos h0, if_pos h]
  rfl
theorem ix0 {α : Type} (a : α) (l : List α) : atI (a :: l) 0 = some a := by
  unfold atI ixN
  rw [if_pos (by decide), if_pos (by simp)]
  rfl
theorem ix1 {α : Type} (a b : α) (l : List α) : atI (a :: b :: l) 1 = some b := by
  unfold atI ixN
  rw [if_pos (by decide), if_pos (by simp; omega)]
  rfl
theorem ix2 {α : Type} (a b c : α) (l : List α) : atI (a :: b :: c :: l) 2 = some c := by
  unfold atI ixN
  rw [if_pos (by decide), if_pos (by simp; omega)]
  rfl
theorem inv1 : inV (V.str "taker") [V.str "taker", V.str "striker"] = true := by decide
theorem inv2 : inV (V.str "striker") [V.str "taker", V.str "striker"] = true := by decide
theorem ite_le {α : Type} {n m : Nat} {a b : α} (h : n ≤ m) : (if n ≤ m then a else b) = a := if_pos h
theorem ite_lt {α : Type} {n m : Nat} {a b : α} (h : n < m) : (if n < m then a else b) = a := if_pos h
theorem ite_iv {α : Type} {a b c d : Int} {x y : α} (h1 : a ≤ b) (h2 : c ≤ d) : (if a ≤ b ∧ c ≤ d then x else y) = x := if_pos ⟨h1, h2⟩
theorem atI_ints {l : List Int} {i : Int} (h0 : 0 ≤ i) (h : i < l.length) : atI (l.map D.int) i = some (.int (l.getD i.toNat 0)) := by
  rw [atI_nat h0 (by simpa using h), List.getElem?_map, List.getD_eq_getElem?_getD]
  have : i.toNat < l.length := by omega
  rw [List.getElem?_eq_getElem this]
  rfl
@[simp] theorem rangeD_length (lo : Int) (n : Nat) : (rangeD lo n).length = n := rangeD_len
/-! ### one statement after another -/
theorem seq_go {g1 g2 : Stm} {ρ ρ1 : Rho} {S S1 : Store} {r : SR} (h1 : g1 ρ S = .mk (.nx ρ1) S1) (h2 : g2 ρ1 S1 = r) : sSeq g1 g2 ρ S = r := by
  show (match g1 ρ S with | .mk (.nx ρ1) S1 => g2 ρ1 S1 | r => r) = _
  rw [h1]
  exact h2
theorem seq_rt {g1 g2 : Stm} {ρ : Rho} {d : D} {S S1 : Store} (h : g1 ρ S = .mk (.rt d) S1) : sSeq g1 g2 ρ S = .mk (.rt d) S1 := by
  show (match g1 ρ S with | .mk (.nx ρ1) S1 => g2 ρ1 S1 | r => r) = _
  rw [h]
theorem seq_xr {g1 g2 : Stm} {ρ ρ1 : Rho} {x : Exc} {S S1 : Store} (h : g1 ρ S = .mk (.xr x ρ1) S1) : sSeq g1 g2 ρ S = .mk (.xr x ρ1) S1 := by
  show (match g1 ρ S with | .mk (.nx ρ1) S1 => g2 ρ1 S1 | r => r) = _
  rw [h]
theorem if_y {t : Fn Bool} {g1 g2 : Stm} {ρ : Rho} {S S1 : Store} {r : SR} (h1 : t ρ S = .ok true S1) (h2 : g1 ρ S1 = r) : sIf t g1 g2 ρ S = r := by
  show liftE _ _ _ _ = _
  unfold liftE
  rw [h1]
  exact h2
theorem if_n {t : Fn Bool} {g1 g2 : Stm} {ρ : Rho} {S S1 : Store} {r : SR} (h1 : t ρ S = .ok false S1) (h2 : g2 ρ S1 = r) : sIf t g1 g2 ρ S = r := by
  show liftE _ _ _ _ = _
  unfold liftE
  rw [h1]
  exact h2
theorem fn_rt {n : Nat} {g : Stm} {ds : List D} {d : D} {S S' : Store} (h : g (startR n ds) S = .mk (.rt d) S') : fnSem n g ds S = .ok d S' := by
  unfold fnSem
  rw [h]
theorem fn_nx {n : Nat} {g : Stm} {ds : List D} {ρ : Rho} {S S' : Store} (h : g (startR n ds) S = .mk (.nx ρ) S') : fnSem n g ds S = .ok .non S' := by
  unfold fnSem
  rw [h]
theorem fn_xr {n : Nat} {g : Stm} {ds : List D} {ρ : Rho} {x : Exc} {S S' : Store} (h : g (startR n ds) S = .mk (.xr x ρ) S') : fnSem n g ds S = .er x S' := by
  unfold fnSem
  rw [h]
/-- a comprehension over coded things -/
theorem lc_enc {α β : Type} {g : Tgt D} {t : Fn Bool} {e : Fn D} {ρ : Rho} {S : Store} (enc : α → D) (dec : β → D) (p : α → Bool) (f : α → β) : ∀ (l : List α) (acc : List D),
    (∀ a ∈ l, ∃ ρ1, g (enc a) ρ = some ρ1 ∧ t ρ1 S = .ok (p a) S ∧ (p a = true → e ρ1 S = .ok (dec (f a)) S)) → lcL g t e ρ (l.map enc) acc S = .ok (acc ++ ((l.filter p).map f).map dec) S
  | [], acc, _ => by simp [lcL]
  | a :: l, acc, h => by
    obtain ⟨ρ1, h1, h2, h3⟩ := h a (List.mem_cons_self ..)
    have ih := fun acc => lc_enc (g := g) (t := t) (e := e) (ρ := ρ) (S := S) enc dec p f l acc
    rw [List.map_cons]
    unfold lcL
    rw [h1]
    simp only [h2, R.bind]
    cases hp : p a with
    | true =>
      simp only [if_true, h3 hp, R.bind]
      rw [ih _ fun x hx => h x (List.mem_cons_of_mem _ hx)]
      simp [hp]
    | false =>
      simp only [Bool.false_eq_true, if_false]
      rw [ih _ fun x hx => h x (List.mem_cons_of_mem _ hx)]
      simp [hp]
/-- .. without a test -/
theorem lc_encM {α β : Type} {g : Tgt D} {e : Fn D} {ρ : Rho} {S : Store} (enc : α → D) (dec : β → D) (f : α → β) (l : List α) (acc : List D)
    (h : ∀ a ∈ l, ∃ ρ1, g (enc a) ρ = some ρ1 ∧ e ρ1 S = .ok (dec (f a)) S) : lcL g fYes e ρ (l.map enc) acc S = .ok (acc ++ (l.map f).map dec) S := by
  rw [lc_enc enc dec (fun _ => true) f l acc fun a ha => ?_]
  · rw [List.filter_eq_self.mpr fun _ _ => rfl]
  · obtain ⟨ρ1, h1, h2⟩ := h a ha
    exact ⟨ρ1, h1, rfl, fun _ => h2⟩
/-- a loop that folds -/
theorem for_fold {α τ : Type} {g : Tgt D} {body : Stm} {S : Store} (enc : α → D) (P : τ → Rho → Prop) (step : τ → α → τ) : ∀ (l : List α),
    (∀ a ∈ l, ∀ x ρ, P x ρ → ∃ ρ1, g (enc a) ρ = some ρ1 ∧ ∃ ρ2, body ρ1 S = .mk (.nx ρ2) S ∧ P (step x a) ρ2) → ∀ x ρ, P x ρ → ∃ ρ', sFor.go g body (l.map enc) ρ S = .mk (.nx ρ') S ∧ P (l.foldl step x) ρ'
  | [], _, x, ρ, h => ⟨ρ, rfl, h⟩
  | a :: l, hs, x, ρ, h => by
    obtain ⟨ρ1, h1, ρ2, h2, h3⟩ := hs a (List.mem_cons_self ..) x ρ h
    obtain ⟨ρ', h4, h5⟩ := for_fold enc P step l (fun b hb => hs b (List.mem_cons_of_mem _ hb)) (step x a) ρ2 h3
    refine ⟨ρ', ?_, h5⟩
    rw [List.map_cons]
    unfold sFor.go
    rw [h1]
    simp only [h2]
    exact h4
theorem sFor_ok {fi : Fn (List D)} {g : Tgt D} {body : Stm} {ρ : Rho} {S S1 : Store} {ds : List D} {r : SR} (h1 : fi ρ S = .ok ds S1) (h2 : sFor.go g body ds ρ S1 = r) : sFor fi g body ρ S = r := by
  unfold sFor liftE
  rw [h1]
  exact h2
theorem foldl_app {α β : Type} (f : α → List β) : ∀ (l : List α) (acc : List β), l.foldl (fun acc a => acc ++ f a) acc = acc ++ l.flatMap f
  | [], acc => by simp
  | a :: l, acc => by
    rw [List.foldl_cons, foldl_app f l, List.flatMap_cons, List.append_assoc]
end Bx

namespace Bx
open PySem L2
def S_is_integer : Stm := (sRet (fAndV (fUn (gIsi .i) (fVar 0)) (fUn gNot (fUn (gIsi .b) (fVar 0)))))
def F_is_integer : Sem := fnSem 1 S_is_integer
def S_is_from : Stm := (sRet (fAndV (fUn F_is_integer (fCons (fVar 0) fNil)) (fChain gLe gLe (fVar 1) (fVar 0) (fVar 2))))
def F_is_from : Sem := fnSem 3 S_is_from
def B_check_boxes_1 : Stm := (sIf (fNotT (fUn gTru (fUn F_is_from (fCons (fVar 1) (fCons (fC (.int 1)) (fCons (fC (.int 1000000000000000000000000000000)) fNil)))))) (sRaise "BadBoxes") sNil)
def S_check_boxes : Stm := (sSeq (sIf (fOrT (fNotT (fUn gTru (fUn (gIsi .t) (fVar 0)))) (fNotT (fUn gBl (fChain gLe gLe (fC (.int 1)) (fUn gLen (fCons (fVar 0) fNil)) (fC (.int 8)))))) (sRaise "BadBoxes") sNil)
    (sFor (fUn gItems (fVar 0)) (gtName 1) B_check_boxes_1))
def F_check_boxes : Sem := fnSem 2 S_check_boxes
def S_check_take : Stm := (sIf (fNotT (fUn gTru (fUn F_is_from (fCons (fVar 0) (fCons (fC (.int 1)) (fCons (fC (.int 1000000000000000000000000000000)) fNil)))))) (sRaise "BadTake") sNil)
def F_check_take : Sem := fnSem 1 S_check_take
def S_check_strike : Stm := (sIf (fNotT (fUn gTru (fUn F_is_from (fCons (fVar 0) (fCons (fC (.int 1)) (fCons (fC (.int 3)) fNil)))))) (sRaise "BadStrike") sNil)
def F_check_strike : Sem := fnSem 1 S_check_strike
def S_Game_boxes : Stm := (sRet (fBin gIx (fUn (gFld "Game" "held") (fVar 0)) (fC (.int 0))))
def F_Game_boxes : Sem := fnSem 1 S_Game_boxes
def S_Game_take : Stm := (sRet (fBin gIx (fUn (gFld "Game" "held") (fVar 0)) (fC (.int 1))))
def F_Game_take : Sem := fnSem 1 S_Game_take
def S_Game_strike : Stm := (sRet (fBin gIx (fUn (gFld "Game" "held") (fVar 0)) (fC (.int 2))))
def F_Game_strike : Sem := fnSem 1 S_Game_strike
def S_Game_init : Stm := (sSeq (sExp (fUn F_check_boxes (fCons (fVar 1) fNil)))
    (sSeq (sExp (fUn F_check_take (fCons (fVar 2) fNil)))
    (sSeq (sExp (fUn F_check_strike (fCons (fVar 3) fNil)))
    (sFld "Game" 0 "held" (fTup (fCons (fVar 1) (fCons (fVar 2) (fCons (fVar 3) fNil))))))))
def F_Game_init : SemI := fnI "Game" 4 S_Game_init
def S_Game_eq : Stm := (sRet (fAndV (fUn (gIsC "Game") (fVar 1)) (fBin gEq (fUn (gFld "Game" "held") (fVar 0)) (fUn (gFld "Game" "held") (fVar 1)))))
def F_Game_eq : Sem := fnSem 2 S_Game_eq
def S_check_game : Stm := (sIf (fNotT (fUn gTru (fUn (gIsC "Game") (fVar 0)))) (sRaise "BadGame") sNil)
def F_check_game : Sem := fnSem 1 S_check_game
def E_bounds_of_1 : Fn D := (fBin gAdd (fVar 5) (fBin gMul (fVar 6) (fBin gAdd (fVar 8) (fC (.int 1)))))
def E_bounds_of_2 : Fn D := (fBin gAdd (fVar 9) (fVar 1))
def T_bounds_of_1 : Fn Bool := (fUn gBl (fBin gLe (fUn gLen (fCons (fVar 4) fNil)) (fVar 0)))
def B_bounds_of_1 : Stm := (sSeq (sApp 3 (fVar 4))
    (sSeq (sTgt (fTup (fCons (fBin gIx (fVar 4) (fUn gNeg (fC (.int 1)))) (fCons (fBin gFdiv (fBin gIx (fVar 4) (fUn gNeg (fC (.int 1)))) (fUn gLen (fCons (fVar 4) fNil))) fNil))) (gtTup 2 (gtCons (gtName 5) (gtCons (gtName 6) gtNil))))
    (sSeq (sSet 7 (fMk (fBin gAdd (fFz (fCx gList (fCons (fVar 4) fNil))) (fFz (fLc (fUn gRange1 (fCons (fVar 2) fNil)) (gtName 8) fYes E_bounds_of_1 [8])))))
    (sSet 4 (fMk (fUn gTuple (fCons (fFz (fLc (fUn gItems (fVar 7)) (gtName 9) fYes E_bounds_of_2 [9])) fNil)))))))
def S_bounds_of : Stm := (sSeq (sSet 3 (fLst fNil))
    (sSeq (sSet 4 (fMk (fTup (fCons (fVar 1) fNil))))
    (sSeq (sWhile 1000 T_bounds_of_1 B_bounds_of_1)
    (sFrz 3 (sRet (fVar 3))))))
def F_bounds_of : Sem := fnSem 10 S_bounds_of
def B_tops_of_1 : Stm := (sSeq (sAug (fun a b => a + b) 2 (fVar 3))
    (sApp 1 (fVar 2)))
def S_tops_of : Stm := (sSeq (sSet 1 (fLst fNil))
    (sSeq (sSet 2 (fMk (fC (.int 0))))
    (sSeq (sFor (fUn gItems (fFz (fCx gSortedRev (fCons (fVar 0) fNil)))) (gtName 3) B_tops_of_1)
    (sFrz 1 (sRet (fUn gTuple (fCons (fVar 1) fNil)))))))
def F_tops_of : Sem := fnSem 4 S_tops_of
def B_sums_of_1 : Stm := (sApp 3 (fTup (fCons (fUn gLen (fCons (fVar 4) fNil)) (fCons (fUn F_tops_of (fCons (fSl (fVar 0) fPn (fUn gPart (fUn gLen (fCons (fVar 4) fNil)))) fNil)) (fCons (fVar 4) fNil)))))
def S_sums_of : Stm := (sSeq (sSet 3 (fLst fNil))
    (sSeq (sFor (fUn gItems (fUn F_bounds_of (fCons (fUn gLen (fCons (fVar 0) fNil)) (fCons (fVar 1) (fCons (fVar 2) fNil))))) (gtName 4) B_sums_of_1)
    (sFrz 3 (sRet (fVar 3)))))
def F_sums_of : Sem := fnSem 5 S_sums_of
def E_over_1 : Fn D := (fBin gSub (fVar 2) (fVar 3))
def S_over : Stm := (sRet (fUn gMax (fCons (fBin gAdd (fFz (fLst (fCons (fC (.int 0)) fNil))) (fFz (fLc (fUn gZip (fCons (fVar 0) (fCons (fVar 1) fNil))) (gtTup 2 (gtCons (gtName 2) (gtCons (gtName 3) gtNil))) fYes E_over_1 [2, 3]))) fNil)))
def F_over : Sem := fnSem 4 S_over
def B_turns_of_1 : Stm := (sIf (fUn gBl (fBin gEq (fUn F_over (fCons (fBin gIx (fVar 4) (fC (.int 1))) (fCons (fBin gIx (fVar 4) (fC (.int 2))) fNil))) (fC (.int 0)))) (sRet (fBin gAdd (fVar 3) (fC (.int 1)))) sNil)
def S_turns_of : Stm := (sSeq (sFor (fUn gEnumA (fCons (fUn F_sums_of (fCons (fFz (fCx gSorted (fCons (fFz (fCx gList (fCons (fVar 0) fNil))) fNil))) (fCons (fVar 1) (fCons (fVar 2) fNil)))) fNil)) (gtTup 2 (gtCons (gtName 3) (gtCons (gtName 4) gtNil))) B_turns_of_1)
    (sRet (fC .non)))
def F_turns_of : Sem := fnSem 5 S_turns_of
def S_left_for : Stm := (sSeq (sSet 3 (fMk (fFz (fCx gSorted (fCons (fFz (fCx gList (fCons (fVar 0) fNil))) fNil)))))
    (sSeq (sIf (fUn gBl (fBin gEq (fVar 2) (fC (.str "striker")))) (sRet (fSl (fVar 3) (fUn gPart (fVar 1)) fPn)) sNil)
    (sRet (fVar 3))))
def F_left_for : Sem := fnSem 4 S_left_for
def S_turns_by : Stm := (sRet (fUn F_turns_of (fCons (fUn F_left_for (fCons (fVar 0) (fCons (fVar 2) (fCons (fVar 3) fNil)))) (fCons (fVar 1) (fCons (fVar 2) fNil)))))
def F_turns_by : Sem := fnSem 4 S_turns_by
def B_all_takings_1 : Stm := (sApp 4 (fTup (fCons (fBin gAdd (fVar 5) (fTup (fCons (fVar 7) fNil))) (fCons (fBin gSub (fVar 6) (fVar 7)) fNil))))
def B_all_takings_2 : Stm := (sSeq (sIf (fPeekT (fUn gBl (fBin gGt (fBin gAdd (fBin gAdd (fUn gLen (fCons (fVar 4) fNil)) (fUn gMin (fCons (fVar 3) (fCons (fVar 6) fNil)))) (fC (.int 1))) (fC (.int 3000))))) (sRaise "TooLarge") sNil)
    (sFor (fUn gRange1 (fCons (fBin gAdd (fUn gMin (fCons (fVar 3) (fCons (fVar 6) fNil))) (fC (.int 1))) fNil)) (gtName 7) B_all_takings_1))
def B_all_takings_3 : Stm := (sSeq (sSet 4 (fLst fNil))
    (sSeq (sFor (fUn gItems (fVar 2)) (gtTup 2 (gtCons (gtName 5) (gtCons (gtName 6) gtNil))) B_all_takings_2)
    (sFrz 4 (sSet 2 (fMk (fVar 4))))))
def E_all_takings_1 : Fn D := (fVar 5)
def S_all_takings : Stm := (sSeq (sSet 2 (fMk (fFz (fLst (fCons (fTup (fCons (fTup fNil) (fCons (fVar 1) fNil))) fNil)))))
    (sSeq (sFor (fUn gItems (fVar 0)) (gtName 3) B_all_takings_3)
    (sRet (fFz (fLc (fUn gItems (fVar 2)) (gtTup 2 (gtCons (gtName 5) (gtCons (gtName 6) gtNil))) fYes E_all_takings_1 [5, 6])))))
def F_all_takings : Sem := fnSem 8 S_all_takings
def E_is_winning_1 : Fn D := (fBin gSub (fVar 5) (fVar 6))
def S_is_winning : Stm := (sSeq (sSet 4 (fLc (fUn gZip (fCons (fVar 0) (fCons (fVar 1) fNil))) (gtTup 2 (gtCons (gtName 5) (gtCons (gtName 6) gtNil))) fYes E_is_winning_1 [5, 6]))
    (sFrz 4 (sRet (fOrV (fBin (gIn false) (fC (.int 0)) (fVar 4)) (fBin gNotN (fUn F_turns_by (fCons (fVar 4) (fCons (fVar 2) (fCons (fVar 3) (fCons (fC (.str "striker")) fNil))))) (fC .non))))))
def F_is_winning : Sem := fnSem 7 S_is_winning
def T_many_takings_1 : Fn Bool := (fUn gTru (fUn F_is_winning (fCons (fUn (gProp "Game" F_Game_boxes) (fVar 0)) (fCons (fVar 2) (fCons (fUn (gProp "Game" F_Game_take) (fVar 0)) (fCons (fUn (gProp "Game" F_Game_strike) (fVar 0)) fNil))))))
def E_many_takings_1 : Fn D := (fVar 2)
def S_many_takings : Stm := (sSeq (sExp (fUn F_check_game (fCons (fVar 0) fNil)))
    (sSeq (sSet 1 (fMk (fUn F_all_takings (fCons (fUn (gProp "Game" F_Game_boxes) (fVar 0)) (fCons (fUn (gProp "Game" F_Game_take) (fVar 0)) fNil)))))
    (sRet (fUn gLen (fCons (fFz (fLc (fUn gItems (fVar 1)) (gtName 2) T_many_takings_1 E_many_takings_1 [2])) fNil)))))
def F_many_takings : Sem := fnSem 3 S_many_takings
def B_law_mix_1 : Stm := (sSet 2 (fMk (fBin gMod (fUn gInt (fCons (fBin gAdd (fBin gAdd (fBin gMul (fVar 2) (fC (.int 48271))) (fBin gMod (fUn gInt (fCons (fVar 3) fNil)) (fC (.int 2147483629)))) (fC (.int 1))) fNil)) (fC (.int 2147483647)))))
def S_law_mix : Stm := (sSeq (sSet 2 (fMk (fVar 1)))
    (sSeq (sFor (fUn gItems (fVar 0)) (gtName 3) B_law_mix_1)
    (sRet (fSrc (fVar 2) (fCx gList (fCons (fVar 0) fNil)) (fC (.int 0))))))
def F_law_mix : Sem := fnSem 4 S_law_mix
def B_law_game_1 : Stm := (sSeq (sPar 9 10 (fMk (fUn F_next (fCons (fVar 0) (fCons (fVar 2) fNil)))) (fMk (fUn gMin (fCons (fBin gSub (fVar 2) (fC (.int 1))) (fCons (fBin gAdd (fVar 6) (fUn F_next (fCons (fVar 0) (fCons (fC (.int 3)) fNil)))) fNil)))))
    (sApp 7 (fBin gAdd (fC (.int 1)) (fIfE (fUn gBl (fBin gEq (fUn F_next (fCons (fVar 0) (fCons (fC (.int 3)) fNil))) (fC (.int 0)))) (fVar 9) (fVar 10)))))
def S_law_game : Stm := (sSeq (sPar 4 5 (fMk (fBin gAdd (fC (.int 1)) (fUn F_next (fCons (fVar 0) (fCons (fVar 3) fNil))))) (fMk (fBin gAdd (fC (.int 1)) (fBin gIx (fFz (fLst (fCons (fC (.int 0)) (fCons (fC (.int 0)) (fCons (fC (.int 1)) (fCons (fC (.int 2)) fNil)))))) (fUn F_next (fCons (fVar 0) (fCons (fC (.int 4)) fNil)))))))
    (sSeq (sSet 6 (fMk (fUn F_next (fCons (fVar 0) (fCons (fVar 2) fNil)))))
    (sSeq (sSet 7 (fLst fNil))
    (sSeq (sFor (fUn gRange1 (fCons (fBin gAdd (fC (.int 1)) (fUn F_next (fCons (fVar 0) (fCons (fVar 1) fNil)))) fNil)) (gtName 8) B_law_game_1)
    (sFrz 7 (sRet (fFz (fLst (fCons (fUn gTuple (fCons (fVar 7) fNil)) (fCons (fVar 4) (fCons (fVar 5) fNil)))))))))))
def F_law_game : Sem := fnSem 11 S_law_game
def B_law_bounds_1 : Stm := (sSet 4 (fMk (fBin gAdd (fVar 4) (fFz (fLst (fCons (fBin gAdd (fVar 5) (fBin gMul (fVar 6) (fBin gAdd (fVar 7) (fC (.int 1))))) fNil))))))
def E_law_bounds_1 : Fn D := (fBin gAdd (fVar 8) (fVar 1))
def T_law_bounds_1 : Fn Bool := (fUn gBl (fBin gLe (fUn gLen (fCons (fVar 4) fNil)) (fVar 0)))
def B_law_bounds_2 : Stm := (sSeq (sApp 3 (fUn gTuple (fCons (fVar 4) fNil)))
    (sSeq (sPar 5 6 (fMk (fBin gIx (fVar 4) (fUn gNeg (fC (.int 1))))) (fMk (fBin gFdiv (fBin gIx (fVar 4) (fUn gNeg (fC (.int 1)))) (fUn gLen (fCons (fVar 4) fNil)))))
    (sSeq (sFor (fUn gRange1 (fCons (fVar 2) fNil)) (gtName 7) B_law_bounds_1)
    (sSeq (sSet 4 (fLc (fUn gItems (fVar 4)) (gtName 8) fYes E_law_bounds_1 [8])) (sFrz 4 sNil)))))
def S_law_bounds : Stm := (sSeq (sPar 3 4 (fLst fNil) (fMk (fFz (fLst (fCons (fVar 1) fNil)))))
    (sSeq (sWhile 1000 T_law_bounds_1 B_law_bounds_2)
    (sFrz 3 (sRet (fVar 3)))))
def F_law_bounds : Sem := fnSem 9 S_law_bounds
def E_law_sums_1 : Fn D := (fUn gSum (fCons (fSl (fVar 6) fPn (fUn gPart (fBin gAdd (fVar 7) (fC (.int 1))))) fNil))
def B_law_sums_1 : Stm := (sSeq (sSet 6 (fMk (fFz (fRev (fSl (fVar 3) fPn (fUn gPart (fUn gLen (fCons (fVar 5) fNil))))))))
    (sApp 4 (fTup (fCons (fUn gLen (fCons (fVar 5) fNil)) (fCons (fUn gTuple (fCons (fFz (fLc (fUn gRange1 (fCons (fUn gLen (fCons (fVar 6) fNil)) fNil)) (gtName 7) fYes E_law_sums_1 [7])) fNil)) (fCons (fVar 5) fNil))))))
def S_law_sums : Stm := (sSeq (sPar 3 4 (fMk (fFz (fCx gSorted (fCons (fFz (fCx gList (fCons (fVar 0) fNil))) fNil)))) (fLst fNil))
    (sSeq (sFor (fUn gItems (fUn F_law_bounds (fCons (fUn gLen (fCons (fVar 3) fNil)) (fCons (fVar 1) (fCons (fVar 2) fNil))))) (gtName 5) B_law_sums_1)
    (sFrz 4 (sRet (fVar 4)))))
def F_law_sums : Sem := fnSem 8 S_law_sums
def T_law_turns_1 : Fn Bool := (fUn gBl (fBin gGt (fBin gIx (fVar 8) (fVar 10)) (fBin gIx (fVar 9) (fVar 10))))
def E_law_turns_1 : Fn D := (fVar 10)
def B_law_turns_1 : Stm := (sSeq (sTgt (fBin gIx (fVar 5) (fVar 6)) (gtTup 3 (gtCons (gtName 7) (gtCons (gtName 8) (gtCons (gtName 9) gtNil)))))
    (sIf (fUn gBl (fBin gEq (fFz (fLc (fUn gRange1 (fCons (fVar 7) fNil)) (gtName 10) T_law_turns_1 E_law_turns_1 [10])) (fFz (fLst fNil)))) (sRet (fBin gAdd (fVar 6) (fC (.int 1)))) sNil))
def S_law_turns : Stm := (sSeq (sSet 4 (fMk (fFz (fCx gSorted (fCons (fFz (fCx gList (fCons (fVar 0) fNil))) fNil)))))
    (sSeq (sIf (fUn gBl (fBin gEq (fVar 3) (fC (.str "striker")))) (sSet 4 (fMk (fSl (fVar 4) (fUn gPart (fVar 2)) fPn))) sNil)
    (sSeq (sSet 5 (fMk (fUn F_law_sums (fCons (fVar 4) (fCons (fVar 1) (fCons (fVar 2) fNil))))))
    (sSeq (sFor (fUn gRange1 (fCons (fUn gLen (fCons (fVar 5) fNil)) fNil)) (gtName 6) B_law_turns_1)
    (sRet (fC .non))))))
def F_law_turns : Sem := fnSem 11 S_law_turns
def E_law_all_1 : Fn D := (fTup (fCons (fBin gAdd (fVar 5) (fTup (fCons (fBin gSub (fVar 3) (fVar 7)) fNil))) (fCons (fBin gSub (fVar 6) (fVar 7)) fNil)))
def B_law_all_1 : Stm := (sSet 4 (fMk (fBin gAdd (fVar 4) (fFz (fLc (fUn gRange1 (fCons (fBin gAdd (fUn gMin (fCons (fVar 3) (fCons (fVar 6) fNil))) (fC (.int 1))) fNil)) (gtName 7) fYes E_law_all_1 [7])))))
def B_law_all_2 : Stm := (sSeq (sSet 4 (fMk (fFz (fLst fNil))))
    (sSeq (sFor (fUn gItems (fVar 2)) (gtTup 2 (gtCons (gtName 5) (gtCons (gtName 6) gtNil))) B_law_all_1)
    (sSet 2 (fMk (fVar 4)))))
def E_law_all_2 : Fn D := (fVar 5)
def S_law_all : Stm := (sSeq (sSet 2 (fMk (fFz (fLst (fCons (fTup (fCons (fTup fNil) (fCons (fVar 1) fNil))) fNil)))))
    (sSeq (sFor (fUn gItems (fVar 0)) (gtName 3) B_law_all_2)
    (sRet (fFz (fLc (fUn gItems (fVar 2)) (gtTup 2 (gtCons (gtName 5) (gtCons (gtName 6) gtNil))) fYes E_law_all_2 [5, 6])))))
def F_law_all : Sem := fnSem 8 S_law_all
def S_law_asked : Stm := (sTry (sRet (fUn F_many_takings (fCons (fVar 0) fNil))) [([("TooLarge", true)], (sRet (fC (.str "large"))))])
def F_law_asked : Sem := fnSem 1 S_law_asked
def B_law_1 : Stm := (sIf (fOrT (fUn gBl (fBin (gIn false) (fC (.int 0)) (fVar 6))) (fUn gBl (fBin gNotN (fUn F_law_turns (fCons (fVar 6) (fCons (fVar 3) (fCons (fVar 4) (fCons (fC (.str "striker")) fNil))))) (fC .non)))) (sSet 5 (fMk (fBin gAdd (fVar 5) (fC (.int 1))))) sNil)
def S_law : Stm := (sSeq (sSet 1 (fMk (fUn F_law_mix (fCons (fVar 0) (fCons (fC (.int 5)) fNil)))))
    (sSeq (sTgt (fIfE (fUn gBl (fBin gGt (fUn F_next (fCons (fVar 1) (fCons (fC (.int 3)) fNil))) (fC (.int 0)))) (fUn F_law_game (fCons (fVar 1) (fCons (fC (.int 4)) (fCons (fC (.int 9)) (fCons (fC (.int 5)) fNil))))) (fUn F_law_game (fCons (fVar 1) (fCons (fC (.int 8)) (fCons (fC (.int 12)) (fCons (fC (.int 3)) fNil)))))) (gtTup 3 (gtCons (gtName 2) (gtCons (gtName 3) (gtCons (gtName 4) gtNil)))))
    (sSeq (sSet 5 (fMk (fC (.int 0))))
    (sSeq (sFor (fUn gItems (fUn F_law_all (fCons (fVar 2) (fCons (fVar 3) fNil)))) (gtName 6) B_law_1)
    (sSeq (sIf (fUn gBl (fBin gNe (fUn F_law_asked (fCons (fMake "Game" F_Game_init (fCons (fVar 2) (fCons (fVar 3) (fCons (fVar 4) fNil)))) fNil)) (fVar 5))) (sRet (fC (.bl false))) sNil)
    (sSeq (sSet 7 (fMk (fBin gAdd (fC (.int 2990)) (fUn F_next (fCons (fVar 1) (fCons (fC (.int 20)) fNil))))))
    (sSeq (sSet 8 (fMk (fUn F_law_asked (fCons (fMake "Game" F_Game_init (fCons (fTup (fCons (fVar 7) fNil)) (fCons (fVar 7) (fCons (fVar 4) fNil)))) fNil))))
    (sRet (fBin gEq (fVar 8) (fIfE (fUn gBl (fBin gGt (fBin gAdd (fVar 7) (fC (.int 1))) (fC (.int 3000)))) (fC (.str "large")) (fC (.int 1))))))))))))
def F_law : Sem := fnSem 9 S_law
end Bx

namespace Bx
open PySem L2
def top (i : Nat) : Stmt := PySem.Challenge.pw_boxtaker_k05_whole_numbers_of_takings.main.body.getD i (.Pass ⟨0, 0, 0, 0⟩)
abbrev s_is_integer : Stmt := top 11
abbrev s_is_from : Stmt := top 12
abbrev s_check_boxes : Stmt := top 13
abbrev s_check_take : Stmt := top 14
abbrev s_check_strike : Stmt := top 15
abbrev s_check_game : Stmt := top 17
abbrev s_bounds_of : Stmt := top 19
abbrev s_tops_of : Stmt := top 20
abbrev s_sums_of : Stmt := top 21
abbrev s_over : Stmt := top 22
abbrev s_turns_of : Stmt := top 23
abbrev s_left_for : Stmt := top 24
abbrev s_turns_by : Stmt := top 25
abbrev s_all_takings : Stmt := top 28
abbrev s_is_winning : Stmt := top 29
abbrev s_many_takings : Stmt := top 30
abbrev s_law_mix : Stmt := top 32
abbrev s_law_next : Stmt := top 33
abbrev s_law_game : Stmt := top 34
abbrev s_law_bounds : Stmt := top 36
abbrev s_law_sums : Stmt := top 37
abbrev s_law_turns : Stmt := top 38
abbrev s_law_all : Stmt := top 39
abbrev s_law_asked : Stmt := top 40
abbrev s_law : Stmt := top 41
abbrev s_g_init : Stmt := inClass (top 16) 0
abbrev s_g_boxes : Stmt := inClass (top 16) 1
abbrev s_g_take : Stmt := inClass (top 16) 2
abbrev s_g_strike : Stmt := inClass (top 16) 3
abbrev s_g_eq : Stmt := inClass (top 16) 4
structure Txt (K : PySem.W.Frag) (mg : Str → Option Value) (base : Heap) (TT : Addr → Option Str) (C : Addr) : Prop where
  g_Game : mg "Game" = some (.ref C)
  cl : Cls K C
  na_held : NoAttr K C "held"
  nt : PySem.W.notFirst K C (.type "tuple") = true
  ins : InsTxt K C
  mks : PySem.W.makesIn K C = true
  kC : PySem.W.keepIn K (.ref C) = true
  p_boxes : PropAt K C "boxes" "Game.boxes" s_g_boxes
  p_take : PropAt K C "take" "Game.take" s_g_take
  p_strike : PropAt K C "strike" "Game.strike" s_g_strike
  m_init : MethAt K C "__init__" "Game.__init__" s_g_init ["self", "boxes", "take", "strike"]
  m_eq : MethAt K C "__eq__" "Game.__eq__" s_g_eq ["self", "other"]
  b_sorted : mg "sorted" = none
  b_tuple : mg "tuple" = none
  b_max : mg "max" = none
  b_enumerate : mg "enumerate" = none
  b_len : mg "len" = none
  b_range : mg "range" = none
  b_isinstance : mg "isinstance" = none
  b_int : mg "int" = none
  b_list : mg "list" = none
  b_bool : mg "bool" = none
  b_zip : mg "zip" = none
  b_min : mg "min" = none
  b_sum : mg "sum" = none
  c_MOST_BOXES : ∃ t, mg "MOST_BOXES" = some (.int 8 t)
  c_MOST_SIZE : ∃ t, mg "MOST_SIZE" = some (.int 1000000000000000000000000000000 t)
  c_MOST_STRIKE : ∃ t, mg "MOST_STRIKE" = some (.int 3 t)
  c_MOST_TAKINGS : ∃ t, mg "MOST_TAKINGS" = some (.int 3000 t)
  e_BoxError : ∃ A, ExcTxt K mg "BoxError" A
  e_BadBoxes : ∃ A, ExcTxt K mg "BadBoxes" A
  e_BadTake : ∃ A, ExcTxt K mg "BadTake" A
  e_BadStrike : ∃ A, ExcTxt K mg "BadStrike" A
  e_BadGame : ∃ A, ExcTxt K mg "BadGame" A
  e_TooLarge : ∃ A, ExcTxt K mg "TooLarge" A
  h_TooLarge : ∃ A, mg "TooLarge" = some (.ref A)
  x_TooLarge_TooLarge : SubAt K mg "TooLarge" "TooLarge" true
  d_is_integer : DefAt K mg "is_integer" s_is_integer ["value"]
  d_is_from : DefAt K mg "is_from" s_is_from ["value", "low", "high"]
  d_check_boxes : DefAt K mg "check_boxes" s_check_boxes ["value"]
  d_check_take : DefAt K mg "check_take" s_check_take ["value"]
  d_check_strike : DefAt K mg "check_strike" s_check_strike ["value"]
  d_check_game : DefAt K mg "check_game" s_check_game ["value"]
  d_bounds_of : DefAt K mg "bounds_of" s_bounds_of ["many", "take", "strike"]
  d_tops_of : DefAt K mg "tops_of" s_tops_of ["sizes"]
  d_sums_of : DefAt K mg "sums_of" s_sums_of ["sizes", "take", "strike"]
  d_over : DefAt K mg "over" s_over ["tops", "bounds"]
  d_turns_of : DefAt K mg "turns_of" s_turns_of ["sizes", "take", "strike"]
  d_left_for : DefAt K mg "left_for" s_left_for ["sizes", "strike", "first"]
  d_turns_by : DefAt K mg "turns_by" s_turns_by ["sizes", "take", "strike", "first"]
  d_all_takings : DefAt K mg "all_takings" s_all_takings ["sizes", "take"]
  d_is_winning : DefAt K mg "is_winning" s_is_winning ["sizes", "amounts", "take", "strike"]
  d_many_takings : DefAt K mg "many_takings" s_many_takings ["game"]
  d_law_mix : DefAt K mg "_law_mix" s_law_mix ["_law_script", "_law_seed"]
  d_law_next : DefAt K mg "_law_next" s_law_next ["_law_h", "_law_bound"]
  d_law_game : DefAt K mg "_law_game" s_law_game ["_law_h", "_law_boxes", "_law_size", "_law_most"]
  d_law_bounds : DefAt K mg "_law_bounds" s_law_bounds ["_law_many", "_law_take", "_law_strike"]
  d_law_sums : DefAt K mg "_law_sums" s_law_sums ["_law_sizes", "_law_take", "_law_strike"]
  d_law_turns : DefAt K mg "_law_turns" s_law_turns ["_law_sizes", "_law_take", "_law_strike", "_law_first_one"]
  d_law_all : DefAt K mg "_law_all" s_law_all ["_law_sizes", "_law_take"]
  d_law_asked : DefAt K mg "_law_asked" s_law_asked ["_law_game_here"]
  d_law : DefAt K mg "law" s_law ["_law_script"]
section
variable {P : Program} {w : World} {K : PySem.W.Frag} {mg : Str → Option Value} {base : Heap} {TT : Addr → Option Str} {C : Addr}
abbrev N_is_integer : List Str := ["value"]
theorem sc_law_next : FnScope ["_law_h", "_law_bound", "_law_cell", "_law_cells"] ["_law_h", "_law_bound"] (defScope s_law_next) := ⟨rfl, rfl, rfl, by decide +kernel, rfl, by decide +kernel, by decide +kernel⟩
theorem cal_law_next (T : Txt K mg base TT C) : Callee P w K mg base TT 1 "_law_next" 2 F_next := by
  obtain ⟨fa, fd, hm, hF, hb⟩ := T.d_law_next
  refine ⟨fa, fd, ["_law_h", "_law_bound"], hm, hF.okX sc_law_next (fun vs H Q E h => ?_) (fun cdv A outer s H vs Q E hr h => ?_), hF.kp, hb⟩
  · obtain ⟨ds, W, h1, _⟩ := h
    exact h1
  · obtain ⟨ds, W, h1, ⟨ok, hT⟩, hr2, q⟩ := h
    obtain ⟨l, b, a, c, s0, i, cs, _, rfl, rfl, hS, hμ, hMa, hMc, hac, ha, hc, hb1, hb2, hcs, q⟩ := next_pre ok hr2 q
    have nd := sc_law_next.nd
    refine ⟨_, PSs.nox (pss_cons (ps_set (i := 2) nd rfl (.inl rfl) (pe_ix ix_list (pe_op op_cat (pe_ix ix_list (pv 0) pe_int (fun _ _ => rfl)) (pe_lst (pa_cons pe_int pa_nil)))
        (pe_op op_mod (pe_callTy call_int1 (by rfl) T.b_int (by decide +kernel) (pa_cons (pe_ix ix_list (pv 0) pe_int (fun _ _ => rfl)) pa_nil))
          (pe_callB (call_max2 rfl) (by rfl) T.b_max (by decide +kernel) (pa_cons pe_int (pa_cons (pe_callB call_len_seq (by rfl) T.b_len PySem.boot_len (pa_cons (pe_ix ix_list (pv 0) pe_int (fun _ _ => rfl)) pa_nil)) pa_nil)))) (fun _ _ => rfl)))
      (pss_cons (ps_if (pt_cmpR op_ge (pv 2) (pe_op op_pow pe_int pe_int) (nomark _))
        (pss_cons (ps_set (i := 3) nd rfl (.inl rfl) (pe_ix ix_list (pv 0) pe_int (fun _ _ => rfl)))
        (pss_cons (ps_asg (pe_op op_fdivW (pv 2) (pv 1)) (pg_sub (pv 3) (pe_op op_mod (pe_callTy call_int1 (by rfl) T.b_int (by decide +kernel) (pa_cons (pe_ix ix_list (pv 0) pe_int (fun _ _ => rfl)) pa_nil)) (pe_callB call_len_seq (by rfl) T.b_len PySem.boot_len (pa_cons (pv 3) pa_nil))) set_list))
        (pss_one (ps_ret (pe_op op_mod (pe_callTy call_int1 (by rfl) T.b_int (by decide +kernel) (pa_cons (pv 2) pa_nil)) (pv 1))))))
        pss_nil)
      (pss_cons (ps_asg (pe_op op_mod (pe_callTy call_int1 (by rfl) T.b_int (by decide +kernel) (pa_cons (pe_op op_add (pe_op op_add (pe_op op_mul (pe_ix ix_list (pv 0) pe_int (fun _ _ => rfl)) pe_int) (pe_op op_mul (pv 2) pe_int)) pe_int) pa_nil)) pe_int) (pg_sub (pv 0) pe_int set_list))
      (pss_cons (ps_asg (pe_op op_add (pe_ix ix_list (pv 0) pe_int (fun _ _ => rfl)) pe_int) (pg_sub (pv 0) pe_int set_list))
      (pss_one (ps_ret (pe_op op_mod (pe_callTy call_int1 (by rfl) T.b_int (by decide +kernel) (pa_cons (pe_op op_fdiv (pe_ix ix_list (pv 0) pe_int (fun _ _ => rfl)) pe_int) pa_nil)) (pv 1)))))))), ?_⟩
    -- cell
    refine ⟨_, rfl, a, _, 1, .ref c, rfl, rfl, SqL.of ha, rfl, by show 1 ≤ sizeLine; decide, fun p1 hp1 => ?_⟩
    have k1 : Same H (upd H p1 (.lst [.int 0])) := same_new hp1
    refine ⟨c, p1, cs.map V.int, [.int 0], rfl, rfl, k1 _ _ hc, upd_same, ?_, fun p2 hp2 => ?_⟩
    · rw [List.length_map]
      exact lim_le (by show cs.length + 1 ≤ 1000000; omega)
    have k2 := k1.trans (same_new (o := .lst (cs.map V.int ++ [.int 0])) hp2)
    refine ⟨_, rfl, a, _, 2, .int i, rfl, rfl, SqL.of (k2 _ _ ha), rfl, .inl ⟨i, rfl, ?_⟩⟩
    refine ⟨_, rfl, a, _, 1, .ref c, rfl, rfl, SqL.of (k2 _ _ ha), rfl, c, _, rfl, .inl (SqL.of (k2 _ _ hc)), _, _, rfl, ?_⟩
    rw [List.length_map]
    refine ⟨_, _, rfl, rfl, by split <;> omega, ?_⟩
    refine ⟨p2, _, _, .int (cellAt cs i), rfl, rfl, SqL.of upd_same, cell_at, ?_⟩
    -- if cell >= 10 ** 18
    refine ⟨_, rfl, _, _, rfl, rfl, ⟨by decide, by decide, by decide⟩, _, _, rfl, rfl, _, rfl, ?_⟩
    refine ite2 (fun hbig => ?_) (fun hbig => ?_)
    · have hbig : (10 : Int) ^ 18 ≤ cellAt cs i := of_decide_eq_true hbig
      have hpos : 0 < cs.length := cell_pos hbig
      refine ⟨_, rfl, a, _, 1, .ref c, rfl, rfl, SqL.of (k2 _ _ ha), rfl, ?_⟩
      refine ⟨_, rfl, _, rfl, _, _, rfl, rfl, wide_div (b := 256) hb1 (by omega) (by decide) (by decide), ?_⟩
      refine ⟨_, rfl, _, rfl, a, _, 2, .int i, rfl, rfl, SqL.of (k2 _ _ ha), rfl, .inl ⟨i, rfl, _, rfl, c, _, rfl, .inl (SqL.of (k2 _ _ hc)), ?_⟩⟩
      rw [List.length_map]
      refine ⟨_, _, rfl, rfl, by omega, c, cs.map V.int, _, (i % (cs.length : Int)).toNat, rfl, rfl, k2 _ _ hc, (by rw [List.length_map]; exact ix_mod hpos), ?_⟩
      refine ⟨_, rfl, .inl ⟨_, rfl, _, rfl, _, _, rfl, rfl, hb1, ?_⟩⟩
      have ec : (cs.map V.int).set (i % (cs.length : Int)).toNat (.int (cellAt cs i / b)) = (cs.set (i % (cs.length : Int)).toNat (cellAt cs i / b)).map V.int := by rw [List.map_set]
      obtain ⟨ok', g'⟩ := src_set (H' := upd (upd (upd H p1 (.lst [.int 0])) p2 (.lst (cs.map V.int ++ [.int 0]))) c (.lst ((cs.map V.int).set (i % (cs.length : Int)).toNat (.int (cellAt cs i / b))))) (s' := s0) (i' := i) (cs' := cs.set (i % (cs.length : Int)).toNat (cellAt cs i / b)) ok hS hμ hMa hMc hac (fun z h1 h2 o ho => by rw [upd_ne h2]; exact k2 _ _ ho) (by rw [upd_ne hac]; exact k2 _ _ ha) (by rw [upd_same, ec])
      have en : nextV s0 cs i b = ⟨cellAt cs i % b, s0, cs.set (i % (cs.length : Int)).toNat (cellAt cs i / b), i⟩ := if_pos hbig
      rw [en] at q
      exact q (.int _) _ _ rfl g' ok' (.int _)
    · have hbig : ¬ (10 : Int) ^ 18 ≤ cellAt cs i := fun z => hbig (decide_eq_true z)
      refine ⟨_, rfl, a, _, 0, .int s0, rfl, rfl, SqL.of (k2 _ _ ha), rfl, _, _, rfl, rfl, .inr ⟨by decide, by decide⟩, ?_⟩
      refine ⟨_, rfl, _, _, rfl, rfl, .inr ⟨by decide, by decide⟩, _, _, rfl, rfl, _, _, rfl, rfl, .inl ⟨_, rfl, _, _, rfl, rfl, (show (0:Int) < 2147483647 by decide), ?_⟩⟩
      have hp1' : a ≠ p1 := ne_of_none ha hp1
      refine ⟨_, rfl, a, _, 0, 0, rfl, rfl, k2 _ _ ha, rfl, ?_⟩
      refine ⟨_, rfl, a, _, 2, .int i, rfl, rfl, SqL.of upd_same, rfl, _, _, rfl, rfl, ?_⟩
      refine ⟨_, rfl, a, _, 2, 2, rfl, rfl, upd_same, rfl, ?_⟩
      refine ⟨_, rfl, a, _, 0, _, rfl, rfl, SqL.of upd_same, rfl, _, _, rfl, rfl, ⟨by decide, by decide⟩, .inl ⟨_, rfl, _, rfl, _, _, rfl, rfl, hb1, ?_⟩⟩
      rw [upd_upd]
      have en : nextV s0 cs i b = ⟨((s0 * 48271 + cellAt cs i * 69621 + 11) % 2147483647 / 7) % b, (s0 * 48271 + cellAt cs i * 69621 + 11) % 2147483647, cs, i + 1⟩ := if_neg hbig
      rw [en] at q
      obtain ⟨ok', g'⟩ := src_set (H' := upd (upd (upd H p1 (.lst [.int 0])) p2 (.lst (cs.map V.int ++ [.int 0]))) a (.lst [.int ((s0 * 48271 + cellAt cs i * 69621 + 11) % 2147483647), .ref c, .int (i + 1)])) (s' := (s0 * 48271 + cellAt cs i * 69621 + 11) % 2147483647) (i' := i + 1) (cs' := cs) ok hS hμ hMa hMc hac (fun z h1 h2 o ho => by rw [upd_ne h1]; exact k2 _ _ ho) upd_same (by rw [upd_ne (Ne.symm hac)]; exact k2 _ _ hc)
      exact q (.int _) _ _ rfl g' ok' (.int _)

theorem sc_is_integer : FnScope ["value"] ["value"] (defScope s_is_integer) := ⟨rfl, rfl, rfl, by decide +kernel, rfl, by decide +kernel, by decide +kernel⟩
theorem cal_is_integer (T : Txt K mg base TT C) : Callee P w K mg base TT 1 "is_integer" 1 F_is_integer := by
  exact T.d_is_integer.cal sc_is_integer rfl fun f cdv A outer s H E W hr => (dss_one (ds_ret (de_and (de_isi .i rfl T.b_isinstance (de_var (pv 0)) (pe_bltn (v := .ty "int") rfl T.b_int (by decide +kernel) rfl)) (de_one (de_not (de_isi .b rfl T.b_isinstance (de_var (pv 0)) (pe_bltn (v := .ty "bool") rfl T.b_bool (by decide +kernel) rfl)))))))
abbrev N_is_from : List Str := ["value", "low", "high"]
theorem sc_is_from : FnScope ["value", "low", "high"] ["value", "low", "high"] (defScope s_is_from) := ⟨rfl, rfl, rfl, by decide +kernel, rfl, by decide +kernel, by decide +kernel⟩
theorem cal_is_from (T : Txt K mg base TT C) : Callee P w K mg base TT 2 "is_from" 3 F_is_from := by
  exact T.d_is_from.cal sc_is_from rfl fun f cdv A outer s H E W hr => (dss_one (ds_ret (de_and (de_call (cal_is_integer T) (hr.mono (by decide)) rfl (takes_of rfl rfl rfl rfl) (da_cons (de_var (pv 0)) da_nil) rfl (len_cons len_nil)) (de_one (de_chain op_le op_le opd_cmp opd_cmp (de_var (pv 1)) (de_var (pv 0)) (de_var (pv 2)))))))
abbrev N_check_boxes : List Str := ["value", "size"]
theorem sc_check_boxes : FnScope ["value", "size"] ["value"] (defScope s_check_boxes) := ⟨rfl, rfl, rfl, by decide +kernel, rfl, by decide +kernel, by decide +kernel⟩
theorem cal_check_boxes (T : Txt K mg base TT C) : Callee P w K mg base TT 3 "check_boxes" 1 F_check_boxes := by
  exact T.d_check_boxes.cal sc_check_boxes rfl fun f cdv A outer s H E W hr => (dss_cons (ds_if (PW.pt (dw_or (dt_not (dt_tru (de_isi .t rfl T.b_isinstance (de_var (pv 0)) (pe_bltn (v := .ty "tuple") rfl T.b_tuple (by decide +kernel) rfl)))) (dw_or1 (dt_not (dt_chain op_le op_le opd_cmp opd_cmp de_int (de_len rfl T.b_len (da_cons (de_var (pv 0)) da_nil)) (de_gint T.c_MOST_BOXES rfl)))))) (dss_one (ds_raise (T.e_BadBoxes).choose_spec rfl (takes_of rfl rfl rfl rfl) rfl)) dss_nil)
    (dss_one (ds_for (passes_of rfl) rfl (di_seq (de_var (pv 0))) (dg_name (pg_name (i := 1) sc_check_boxes.nd rfl (Or.inl rfl))) (dss_one (ds_if (dt_not (dt_tru (de_call (cal_is_from T) (hr.mono (by decide)) rfl (takes_of rfl rfl rfl rfl) (da_cons (de_var (pv 1)) (da_cons de_int (da_cons (de_gint T.c_MOST_SIZE rfl) da_nil))) rfl (len_cons (len_cons (len_cons len_nil)))))) (dss_one (ds_raise (T.e_BadBoxes).choose_spec rfl (takes_of rfl rfl rfl rfl) rfl)) dss_nil)))))
abbrev N_check_take : List Str := ["value"]
theorem sc_check_take : FnScope ["value"] ["value"] (defScope s_check_take) := ⟨rfl, rfl, rfl, by decide +kernel, rfl, by decide +kernel, by decide +kernel⟩
theorem cal_check_take (T : Txt K mg base TT C) : Callee P w K mg base TT 3 "check_take" 1 F_check_take := by
  exact T.d_check_take.cal sc_check_take rfl fun f cdv A outer s H E W hr => (dss_one (ds_if (dt_not (dt_tru (de_call (cal_is_from T) (hr.mono (by decide)) rfl (takes_of rfl rfl rfl rfl) (da_cons (de_var (pv 0)) (da_cons de_int (da_cons (de_gint T.c_MOST_SIZE rfl) da_nil))) rfl (len_cons (len_cons (len_cons len_nil)))))) (dss_one (ds_raise (T.e_BadTake).choose_spec rfl (takes_of rfl rfl rfl rfl) rfl)) dss_nil))
abbrev N_check_strike : List Str := ["value"]
theorem sc_check_strike : FnScope ["value"] ["value"] (defScope s_check_strike) := ⟨rfl, rfl, rfl, by decide +kernel, rfl, by decide +kernel, by decide +kernel⟩
theorem cal_check_strike (T : Txt K mg base TT C) : Callee P w K mg base TT 3 "check_strike" 1 F_check_strike := by
  exact T.d_check_strike.cal sc_check_strike rfl fun f cdv A outer s H E W hr => (dss_one (ds_if (dt_not (dt_tru (de_call (cal_is_from T) (hr.mono (by decide)) rfl (takes_of rfl rfl rfl rfl) (da_cons (de_var (pv 0)) (da_cons de_int (da_cons (de_gint T.c_MOST_STRIKE rfl) da_nil))) rfl (len_cons (len_cons (len_cons len_nil)))))) (dss_one (ds_raise (T.e_BadStrike).choose_spec rfl (takes_of rfl rfl rfl rfl) rfl)) dss_nil))
theorem sc_g_boxes : FnScope ["self"] ["self"] (defScope s_g_boxes) := ⟨rfl, rfl, rfl, by decide +kernel, rfl, by decide +kernel, by decide +kernel⟩
theorem get_boxes (T : Txt K mg base TT C) : ∃ pr ga fd ps, PropOf K C "boxes" pr ga ∧ FnOk P w K mg base (L2.CX P w) 1 ga fd ps (spD K mg TT 1 F_Game_boxes) ∧ Binds K fd ps [] := by
  obtain ⟨pr, ga, fd, h1, h2, h3⟩ := T.p_boxes
  exact ⟨pr, ga, fd, _, h1, okD h2 sc_g_boxes fun cdv A outer s H E W hr => (dss_one (ds_ret (de_ix (de_fld (de_var (pv 0)) T.g_Game T.cl T.na_held) de_int))), h3⟩
theorem sc_g_take : FnScope ["self"] ["self"] (defScope s_g_take) := ⟨rfl, rfl, rfl, by decide +kernel, rfl, by decide +kernel, by decide +kernel⟩
theorem get_take (T : Txt K mg base TT C) : ∃ pr ga fd ps, PropOf K C "take" pr ga ∧ FnOk P w K mg base (L2.CX P w) 1 ga fd ps (spD K mg TT 1 F_Game_take) ∧ Binds K fd ps [] := by
  obtain ⟨pr, ga, fd, h1, h2, h3⟩ := T.p_take
  exact ⟨pr, ga, fd, _, h1, okD h2 sc_g_take fun cdv A outer s H E W hr => (dss_one (ds_ret (de_ix (de_fld (de_var (pv 0)) T.g_Game T.cl T.na_held) de_int))), h3⟩
theorem sc_g_strike : FnScope ["self"] ["self"] (defScope s_g_strike) := ⟨rfl, rfl, rfl, by decide +kernel, rfl, by decide +kernel, by decide +kernel⟩
theorem get_strike (T : Txt K mg base TT C) : ∃ pr ga fd ps, PropOf K C "strike" pr ga ∧ FnOk P w K mg base (L2.CX P w) 1 ga fd ps (spD K mg TT 1 F_Game_strike) ∧ Binds K fd ps [] := by
  obtain ⟨pr, ga, fd, h1, h2, h3⟩ := T.p_strike
  exact ⟨pr, ga, fd, _, h1, okD h2 sc_g_strike fun cdv A outer s H E W hr => (dss_one (ds_ret (de_ix (de_fld (de_var (pv 0)) T.g_Game T.cl T.na_held) de_int))), h3⟩
theorem sc_g_init : FnScope ["self", "boxes", "take", "strike"] ["self", "boxes", "take", "strike"] (defScope s_g_init) := ⟨rfl, rfl, rfl, by decide +kernel, rfl, by decide +kernel, by decide +kernel⟩
theorem mk_Game (T : Txt K mg base TT C) : ∃ fa fd ps, Mk K C fa ∧ FnOk P w K mg base (L2.CX P w) 4 fa fd ps (spI K mg TT C 3 F_Game_init) ∧ Binds K fd ps [] := by
  obtain ⟨fa, fd, h1, h2, h3, h4⟩ := T.m_init
  exact ⟨fa, fd, _, ⟨T.mks, h1, h2, T.kC⟩, okI h3 sc_g_init rfl (by decide) T.g_Game fun cdv A outer s H H1 E W self hr => (dss_cons (ds_expr (de_call (cal_check_boxes T) (hr.mono (by decide)) rfl (takes_of rfl rfl rfl rfl) (da_cons (de_var (pv 1)) da_nil) rfl (len_cons len_nil)))
    (dss_cons (ds_expr (de_call (cal_check_take T) (hr.mono (by decide)) rfl (takes_of rfl rfl rfl rfl) (da_cons (de_var (pv 2)) da_nil) rfl (len_cons len_nil)))
    (dss_cons (ds_expr (de_call (cal_check_strike T) (hr.mono (by decide)) rfl (takes_of rfl rfl rfl rfl) (da_cons (de_var (pv 3)) da_nil) rfl (len_cons len_nil)))
    (dss_one (ds_fld (pv 0) T.g_Game T.cl T.na_held (de_tup (da_cons (de_var (pv 1)) (da_cons (de_var (pv 2)) (da_cons (de_var (pv 3)) da_nil))))))))), h4⟩
theorem sc_g_eq : FnScope ["self", "other"] ["self", "other"] (defScope s_g_eq) := ⟨rfl, rfl, rfl, by decide +kernel, rfl, by decide +kernel, by decide +kernel⟩
theorem eq_Game (T : Txt K mg base TT C) : ∃ fa fd ps, FnOk P w K mg base (L2.CX P w) 1 fa fd ps (spD K mg TT 2 F_Game_eq) ∧ PySem.W.findIn K (.ref C) "__eq__" = some (some (.ref fa)) ∧ PySem.W.isFn K (.ref fa) = true ∧ Binds K fd ps [] := by
  obtain ⟨fa, fd, h1, h2, h3, h4⟩ := T.m_eq
  exact ⟨fa, fd, _, okD h3 sc_g_eq fun cdv A outer s H E W hr => (dss_one (ds_ret (de_and (de_isC T.ins T.g_Game rfl T.b_isinstance (de_var (pv 1)) (pe_glob (v := .ref _) rfl T.g_Game rfl)) (de_one (de_eq hr.units (de_fld (de_var (pv 0)) T.g_Game T.cl T.na_held) (de_fld (de_var (pv 1)) T.g_Game T.cl T.na_held)))))), h1, h2, h4⟩
abbrev N_check_game : List Str := ["value"]
theorem sc_check_game : FnScope ["value"] ["value"] (defScope s_check_game) := ⟨rfl, rfl, rfl, by decide +kernel, rfl, by decide +kernel, by decide +kernel⟩
theorem cal_check_game (T : Txt K mg base TT C) : Callee P w K mg base TT 1 "check_game" 1 F_check_game := by
  exact T.d_check_game.cal sc_check_game rfl fun f cdv A outer s H E W hr => (dss_one (ds_if (dt_not (dt_tru (de_isC T.ins T.g_Game rfl T.b_isinstance (de_var (pv 0)) (pe_glob (v := .ref _) rfl T.g_Game rfl)))) (dss_one (ds_raise (T.e_BadGame).choose_spec rfl (takes_of rfl rfl rfl rfl) rfl)) dss_nil))
abbrev N_bounds_of : List Str := ["many", "take", "strike", "found", "bounds", "last", "part", "longer", "place", "bound"]
theorem sc_bounds_of : FnScope ["many", "take", "strike", "found", "bounds", "last", "part", "longer", "place", "bound"] ["many", "take", "strike"] (defScope s_bounds_of) := ⟨rfl, rfl, rfl, by decide +kernel, rfl, by decide +kernel, by decide +kernel⟩
theorem cal_bounds_of (T : Txt K mg base TT C) : Callee P w K mg base TT 1 "bounds_of" 3 F_bounds_of := by
  exact T.d_bounds_of.cal sc_bounds_of rfl fun f cdv A outer s H E W hr => (dss_cons (ds_set (pg_name (i := 3) sc_bounds_of.nd rfl (Or.inl rfl)) (dx_lst da_nil))
    (dss_cons (ds_set (pg_name (i := 4) sc_bounds_of.nd rfl (Or.inl rfl)) (dx_E (de_tup (da_cons (de_var (pv 1)) da_nil))))
    (dss_cons (ds_while 1000 (passes_of rfl) (dt_le (de_len rfl T.b_len (da_cons (de_var (pv 4)) da_nil)) (de_var (pv 0))) (dss_cons (ds_app (pe_bm PySem.F.plainAttrs_list PySem.F.slot_list_append PySem.F.type_list_append mt_append (pv 3) (pa_cons (de_var (pv 4)) pa_nil)))
    (dss_cons (ds_tgt (dg_tup rfl (dgs_cons (dg_name (pg_name (i := 5) sc_bounds_of.nd rfl (Or.inr rfl))) (dgs_cons (dg_name (pg_name (i := 6) sc_bounds_of.nd rfl (Or.inr rfl))) dgs_nil))) (de_tup (da_cons (de_ix (de_var (pv 4)) (de_neg de_int)) (da_cons (de_fdiv (de_ix (de_var (pv 4)) (de_neg de_int)) (de_len rfl T.b_len (da_cons (de_var (pv 4)) da_nil))) da_nil))))
    (dss_cons (ds_set (pg_name (i := 7) sc_bounds_of.nd rfl (Or.inl rfl)) (dx_E (de_add (de_X (dx_list rfl T.b_list (da_cons (de_var (pv 4)) da_nil))) (de_X (dx_lc (own := [("place", 8)]) rfl sc_bounds_of.nd (di_range1 rfl T.b_range (da_cons (de_var (pv 2)) da_nil)) (blkOk_by (N := N_bounds_of) (sc := defScope s_bounds_of) (own := [("place", 8)]) (by decide +kernel)) (fun _ _ _ _ _ => (dg_name (pg_name (i := 8) sc_bounds_of.nd rfl (Or.inl rfl)))) (fun _ _ _ _ _ => dts_nil) (fun _ _ _ _ _ => (de_add (de_var (pv 5)) (de_mul (de_var (pv 6)) (de_add (de_var (pv 8)) de_int)))))))))
    (dss_one (ds_set (pg_name (i := 4) sc_bounds_of.nd rfl (Or.inl rfl)) (dx_E (de_tuple rfl T.b_tuple (da_cons (de_X (dx_lc (own := [("bound", 9)]) rfl sc_bounds_of.nd (di_seq (de_var (pv 7))) (blkOk_by (N := N_bounds_of) (sc := defScope s_bounds_of) (own := [("bound", 9)]) (by decide +kernel)) (fun _ _ _ _ _ => (dg_name (pg_name (i := 9) sc_bounds_of.nd rfl (Or.inl rfl)))) (fun _ _ _ _ _ => dts_nil) (fun _ _ _ _ _ => (de_add (de_var (pv 9)) (de_var (pv 1)))))) da_nil)))))))))
    (dss_frz 3 (dss_one (ds_ret (de_var (pv 3))))))))
abbrev N_tops_of : List Str := ["sizes", "found", "whole", "size"]
theorem sc_tops_of : FnScope ["sizes", "found", "whole", "size"] ["sizes"] (defScope s_tops_of) := ⟨rfl, rfl, rfl, by decide +kernel, rfl, by decide +kernel, by decide +kernel⟩
theorem cal_tops_of (T : Txt K mg base TT C) : Callee P w K mg base TT 1 "tops_of" 1 F_tops_of := by
  exact T.d_tops_of.cal sc_tops_of rfl fun f cdv A outer s H E W hr => (dss_cons (ds_set (pg_name (i := 1) sc_tops_of.nd rfl (Or.inl rfl)) (dx_lst da_nil))
    (dss_cons (ds_set (pg_name (i := 2) sc_tops_of.nd rfl (Or.inl rfl)) (dx_E de_int))
    (dss_cons (ds_for (passes_of rfl) rfl (di_seq (de_X (dx_sortedRev rfl T.b_sorted (da_cons (de_var (pv 0)) da_nil) (pk_cons pe_bl pk_nil)))) (dg_name (pg_name (i := 3) sc_tops_of.nd rfl (Or.inl rfl))) (dss_cons (ds_aug (i := 2) sc_tops_of.nd rfl (Or.inl rfl) (de_var (pv 3)) ip_add)
    (dss_one (ds_app (pe_bm PySem.F.plainAttrs_list PySem.F.slot_list_append PySem.F.type_list_append mt_append (pv 1) (pa_cons (de_var (pv 2)) pa_nil))))))
    (dss_frz 1 (dss_one (ds_ret (de_tuple rfl T.b_tuple (da_cons (de_var (pv 1)) da_nil))))))))
abbrev N_sums_of : List Str := ["sizes", "take", "strike", "found", "bounds"]
theorem sc_sums_of : FnScope ["sizes", "take", "strike", "found", "bounds"] ["sizes", "take", "strike"] (defScope s_sums_of) := ⟨rfl, rfl, rfl, by decide +kernel, rfl, by decide +kernel, by decide +kernel⟩
theorem cal_sums_of (T : Txt K mg base TT C) : Callee P w K mg base TT 2 "sums_of" 3 F_sums_of := by
  exact T.d_sums_of.cal sc_sums_of rfl fun f cdv A outer s H E W hr => (dss_cons (ds_set (pg_name (i := 3) sc_sums_of.nd rfl (Or.inl rfl)) (dx_lst da_nil))
    (dss_cons (ds_for (passes_of rfl) rfl (di_seq (de_call (cal_bounds_of T) (hr.mono (by decide)) rfl (takes_of rfl rfl rfl rfl) (da_cons (de_len rfl T.b_len (da_cons (de_var (pv 0)) da_nil)) (da_cons (de_var (pv 1)) (da_cons (de_var (pv 2)) da_nil))) rfl (len_cons (len_cons (len_cons len_nil))))) (dg_name (pg_name (i := 4) sc_sums_of.nd rfl (Or.inl rfl))) (dss_one (ds_app (pe_bm PySem.F.plainAttrs_list PySem.F.slot_list_append PySem.F.type_list_append mt_append (pv 3) (pa_cons (de_tup (da_cons (de_len rfl T.b_len (da_cons (de_var (pv 4)) da_nil)) (da_cons (de_call (cal_tops_of T) (hr.mono (by decide)) rfl (takes_of rfl rfl rfl rfl) (da_cons (de_slice (de_var (pv 0)) do_none (do_some (de_len rfl T.b_len (da_cons (de_var (pv 4)) da_nil)))) da_nil) rfl (len_cons len_nil)) (da_cons (de_var (pv 4)) da_nil)))) pa_nil)))))
    (dss_frz 3 (dss_one (ds_ret (de_var (pv 3)))))))
abbrev N_over : List Str := ["tops", "bounds", "top", "bound"]
theorem sc_over : FnScope ["tops", "bounds", "top", "bound"] ["tops", "bounds"] (defScope s_over) := ⟨rfl, rfl, rfl, by decide +kernel, rfl, by decide +kernel, by decide +kernel⟩
theorem cal_over (T : Txt K mg base TT C) : Callee P w K mg base TT 1 "over" 2 F_over := by
  exact T.d_over.cal sc_over rfl fun f cdv A outer s H E W hr => (dss_one (ds_ret (de_max (hu_of hr) rfl rfl T.b_max (da_cons (de_add (de_X (dx_lst (da_cons de_int da_nil))) (de_X (dx_lc (own := [("top", 2), ("bound", 3)]) rfl sc_over.nd (di_zip rfl T.b_zip (da_cons (de_var (pv 0)) (da_cons (de_var (pv 1)) da_nil))) (blkOk_by (N := N_over) (sc := defScope s_over) (own := [("top", 2), ("bound", 3)]) (by decide +kernel)) (fun _ _ _ _ _ => (dg_tup rfl (dgs_cons (dg_name (pg_name (i := 2) sc_over.nd rfl (Or.inl rfl))) (dgs_cons (dg_name (pg_name (i := 3) sc_over.nd rfl (Or.inl rfl))) dgs_nil)))) (fun _ _ _ _ _ => dts_nil) (fun _ _ _ _ _ => (de_sub (de_var (pv 2)) (de_var (pv 3))))))) da_nil))))
abbrev N_turns_of : List Str := ["sizes", "take", "strike", "index", "row"]
theorem sc_turns_of : FnScope ["sizes", "take", "strike", "index", "row"] ["sizes", "take", "strike"] (defScope s_turns_of) := ⟨rfl, rfl, rfl, by decide +kernel, rfl, by decide +kernel, by decide +kernel⟩
theorem cal_turns_of (T : Txt K mg base TT C) : Callee P w K mg base TT 3 "turns_of" 3 F_turns_of := by
  exact T.d_turns_of.cal sc_turns_of rfl fun f cdv A outer s H E W hr => (dss_cons (ds_for (passes_of rfl) rfl (di_enumA rfl T.b_enumerate (da_cons (de_call (cal_sums_of T) (hr.mono (by decide)) rfl (takes_of rfl rfl rfl rfl) (da_cons (de_X (dx_sorted rfl T.b_sorted (da_cons (de_X (dx_list rfl T.b_list (da_cons (de_var (pv 0)) da_nil))) da_nil))) (da_cons (de_var (pv 1)) (da_cons (de_var (pv 2)) da_nil))) rfl (len_cons (len_cons (len_cons len_nil)))) da_nil)) (dg_tup rfl (dgs_cons (dg_name (pg_name (i := 3) sc_turns_of.nd rfl (Or.inl rfl))) (dgs_cons (dg_name (pg_name (i := 4) sc_turns_of.nd rfl (Or.inl rfl))) dgs_nil))) (dss_one (ds_if (dt_eq hr.units (de_call (cal_over T) (hr.mono (by decide)) rfl (takes_of rfl rfl rfl rfl) (da_cons (de_ix (de_var (pv 4)) de_int) (da_cons (de_ix (de_var (pv 4)) de_int) da_nil)) rfl (len_cons (len_cons len_nil))) de_int) (dss_one (ds_ret (de_add (de_var (pv 3)) de_int))) dss_nil)))
    (dss_one (ds_ret de_non)))
abbrev N_left_for : List Str := ["sizes", "strike", "first", "found"]
theorem sc_left_for : FnScope ["sizes", "strike", "first", "found"] ["sizes", "strike", "first"] (defScope s_left_for) := ⟨rfl, rfl, rfl, by decide +kernel, rfl, by decide +kernel, by decide +kernel⟩
theorem cal_left_for (T : Txt K mg base TT C) : Callee P w K mg base TT 1 "left_for" 3 F_left_for := by
  exact T.d_left_for.cal sc_left_for rfl fun f cdv A outer s H E W hr => (dss_cons (ds_set (pg_name (i := 3) sc_left_for.nd rfl (Or.inl rfl)) (dx_E (de_X (dx_sorted rfl T.b_sorted (da_cons (de_X (dx_list rfl T.b_list (da_cons (de_var (pv 0)) da_nil))) da_nil)))))
    (dss_cons (ds_if (dt_eq hr.units (de_var (pv 2)) de_str) (dss_one (ds_ret (de_slice (de_var (pv 3)) (do_some (de_var (pv 1))) do_none))) dss_nil)
    (dss_one (ds_ret (de_var (pv 3))))))
abbrev N_turns_by : List Str := ["sizes", "take", "strike", "first"]
theorem sc_turns_by : FnScope ["sizes", "take", "strike", "first"] ["sizes", "take", "strike", "first"] (defScope s_turns_by) := ⟨rfl, rfl, rfl, by decide +kernel, rfl, by decide +kernel, by decide +kernel⟩
theorem cal_turns_by (T : Txt K mg base TT C) : Callee P w K mg base TT 4 "turns_by" 4 F_turns_by := by
  exact T.d_turns_by.cal sc_turns_by rfl fun f cdv A outer s H E W hr => (dss_one (ds_ret (de_call (cal_turns_of T) (hr.mono (by decide)) rfl (takes_of rfl rfl rfl rfl) (da_cons (de_call (cal_left_for T) (hr.mono (by decide)) rfl (takes_of rfl rfl rfl rfl) (da_cons (de_var (pv 0)) (da_cons (de_var (pv 2)) (da_cons (de_var (pv 3)) da_nil))) rfl (len_cons (len_cons (len_cons len_nil)))) (da_cons (de_var (pv 1)) (da_cons (de_var (pv 2)) da_nil))) rfl (len_cons (len_cons (len_cons len_nil))))))
abbrev N_all_takings : List Str := ["sizes", "take", "found", "size", "longer", "amounts", "rest", "some"]
theorem sc_all_takings : FnScope ["sizes", "take", "found", "size", "longer", "amounts", "rest", "some"] ["sizes", "take"] (defScope s_all_takings) := ⟨rfl, rfl, rfl, by decide +kernel, rfl, by decide +kernel, by decide +kernel⟩
theorem cal_all_takings (T : Txt K mg base TT C) : Callee P w K mg base TT 1 "all_takings" 2 F_all_takings := by
  exact T.d_all_takings.cal sc_all_takings rfl fun f cdv A outer s H E W hr => (dss_cons (ds_set (pg_name (i := 2) sc_all_takings.nd rfl (Or.inl rfl)) (dx_E (de_X (dx_lst (da_cons (de_tup (da_cons (de_tup da_nil) (da_cons (de_var (pv 1)) da_nil))) da_nil)))))
    (dss_cons (ds_for (passes_of rfl) rfl (di_seq (de_var (pv 0))) (dg_name (pg_name (i := 3) sc_all_takings.nd rfl (Or.inl rfl))) (dss_cons (ds_set (pg_name (i := 4) sc_all_takings.nd rfl (Or.inl rfl)) (dx_lst da_nil))
    (dss_cons (ds_for (passes_of rfl) rfl (di_seq (de_var (pv 2))) (dg_tup rfl (dgs_cons (dg_name (pg_name (i := 5) sc_all_takings.nd rfl (Or.inl rfl))) (dgs_cons (dg_name (pg_name (i := 6) sc_all_takings.nd rfl (Or.inl rfl))) dgs_nil))) (dss_cons (ds_if (dt_peek fun W0 H0 => (dt_gt (de_add (de_add (de_len rfl T.b_len (da_cons (de_var (pv 4)) da_nil)) (de_min rfl rfl T.b_min (da_cons (de_var (pv 3)) (da_cons (de_var (pv 6)) da_nil)))) de_int) (de_gint T.c_MOST_TAKINGS rfl))) (dss_one (ds_raise (T.e_TooLarge).choose_spec rfl (takes_of rfl rfl rfl rfl) rfl)) dss_nil)
    (dss_one (ds_for (passes_of rfl) rfl (di_range1 rfl T.b_range (da_cons (de_add (de_min rfl rfl T.b_min (da_cons (de_var (pv 3)) (da_cons (de_var (pv 6)) da_nil))) de_int) da_nil)) (dg_name (pg_name (i := 7) sc_all_takings.nd rfl (Or.inl rfl))) (dss_one (ds_app (pe_bm PySem.F.plainAttrs_list PySem.F.slot_list_append PySem.F.type_list_append mt_append (pv 4) (pa_cons (de_tup (da_cons (de_add (de_var (pv 5)) (de_tup (da_cons (de_var (pv 7)) da_nil))) (da_cons (de_sub (de_var (pv 6)) (de_var (pv 7))) da_nil))) pa_nil))))))))
    (dss_frz 4 (dss_one (ds_set (pg_name (i := 2) sc_all_takings.nd rfl (Or.inl rfl)) (dx_E (de_var (pv 4)))))))))
    (dss_one (ds_ret (de_X (dx_lc (own := [("amounts", 5), ("rest", 6)]) rfl sc_all_takings.nd (di_seq (de_var (pv 2))) (blkOk_by (N := N_all_takings) (sc := defScope s_all_takings) (own := [("amounts", 5), ("rest", 6)]) (by decide +kernel)) (fun _ _ _ _ _ => (dg_tup rfl (dgs_cons (dg_name (pg_name (i := 5) sc_all_takings.nd rfl (Or.inl rfl))) (dgs_cons (dg_name (pg_name (i := 6) sc_all_takings.nd rfl (Or.inl rfl))) dgs_nil)))) (fun _ _ _ _ _ => dts_nil) (fun _ _ _ _ _ => (de_var (pv 5)))))))))
abbrev N_is_winning : List Str := ["sizes", "amounts", "take", "strike", "left", "size", "some"]
theorem sc_is_winning : FnScope ["sizes", "amounts", "take", "strike", "left", "size", "some"] ["sizes", "amounts", "take", "strike"] (defScope s_is_winning) := ⟨rfl, rfl, rfl, by decide +kernel, rfl, by decide +kernel, by decide +kernel⟩
theorem cal_is_winning (T : Txt K mg base TT C) : Callee P w K mg base TT 5 "is_winning" 4 F_is_winning := by
  exact T.d_is_winning.cal sc_is_winning rfl fun f cdv A outer s H E W hr => (dss_cons (ds_setLc (i := 4) (own := [("size", 5), ("some", 6)]) rfl sc_is_winning.nd rfl rfl (sw_true rfl rfl rfl (by decide +kernel)) (di_zip rfl T.b_zip (da_cons (de_var (pv 0)) (da_cons (de_var (pv 1)) da_nil))) (blkOk_by (N := N_is_winning) (sc := defScope s_is_winning) (own := [("size", 5), ("some", 6)]) (by decide +kernel)) (fun _ _ _ _ _ => (dg_tup rfl (dgs_cons (dg_name (pg_name (i := 5) sc_is_winning.nd rfl (Or.inl rfl))) (dgs_cons (dg_name (pg_name (i := 6) sc_is_winning.nd rfl (Or.inl rfl))) dgs_nil)))) (fun _ _ _ _ _ => dts_nil) (fun _ _ _ _ _ => (de_sub (de_var (pv 5)) (de_var (pv 6)))))
    (dss_frz 4 (dss_one (ds_ret (de_or (de_in de_int (de_var (pv 4))) (de_one (de_notN (de_call (cal_turns_by T) (hr.mono (by decide)) rfl (takes_of rfl rfl rfl rfl) (da_cons (de_var (pv 4)) (da_cons (de_var (pv 2)) (da_cons (de_var (pv 3)) (da_cons de_str da_nil)))) rfl (len_cons (len_cons (len_cons (len_cons len_nil))))) de_non)))))))
abbrev N_many_takings : List Str := ["game", "every", "amounts"]
theorem sc_many_takings : FnScope ["game", "every", "amounts"] ["game"] (defScope s_many_takings) := ⟨rfl, rfl, rfl, by decide +kernel, rfl, by decide +kernel, by decide +kernel⟩
theorem cal_many_takings (T : Txt K mg base TT C) : Callee P w K mg base TT 6 "many_takings" 1 F_many_takings := by
  obtain ⟨_, _, _, _, Gboxes⟩ := get_boxes (P := P) (w := w) T
  obtain ⟨_, _, _, _, Gstrike⟩ := get_strike (P := P) (w := w) T
  obtain ⟨_, _, _, _, Gtake⟩ := get_take (P := P) (w := w) T
  exact T.d_many_takings.cal sc_many_takings rfl fun f cdv A outer s H E W hr => (dss_cons (ds_expr (de_call (cal_check_game T) (hr.mono (by decide)) rfl (takes_of rfl rfl rfl rfl) (da_cons (de_var (pv 0)) da_nil) rfl (len_cons len_nil)))
    (dss_cons (ds_set (pg_name (i := 1) sc_many_takings.nd rfl (Or.inl rfl)) (dx_E (de_call (cal_all_takings T) (hr.mono (by decide)) rfl (takes_of rfl rfl rfl rfl) (da_cons (de_prop (de_var (pv 0)) T.g_Game T.cl Gboxes.1 Gboxes.2.1 (hr.mono (by decide)) Gboxes.2.2) (da_cons (de_prop (de_var (pv 0)) T.g_Game T.cl Gtake.1 Gtake.2.1 (hr.mono (by decide)) Gtake.2.2) da_nil)) rfl (len_cons (len_cons len_nil)))))
    (dss_one (ds_ret (de_len rfl T.b_len (da_cons (de_X (dx_lc (own := [("amounts", 2)]) rfl sc_many_takings.nd (di_seq (de_var (pv 1))) (blkOk_by (N := N_many_takings) (sc := defScope s_many_takings) (own := [("amounts", 2)]) (by decide +kernel)) (fun _ _ _ _ _ => (dg_name (pg_name (i := 2) sc_many_takings.nd rfl (Or.inl rfl)))) (fun _ _ _ _ _ => (dts_one (dt_tru (de_call (cal_is_winning T) (hr.mono (by decide)) rfl takes0 (da_cons (de_prop (de_var (pv 0)) T.g_Game T.cl Gboxes.1 Gboxes.2.1 (hr.mono (by decide)) Gboxes.2.2) (da_cons (de_var (pv 2)) (da_cons (de_prop (de_var (pv 0)) T.g_Game T.cl Gtake.1 Gtake.2.1 (hr.mono (by decide)) Gtake.2.2) (da_cons (de_prop (de_var (pv 0)) T.g_Game T.cl Gstrike.1 Gstrike.2.1 (hr.mono (by decide)) Gstrike.2.2) da_nil)))) rfl (len_cons (len_cons (len_cons (len_cons len_nil)))))))) (fun _ _ _ _ _ => (de_var (pv 2))))) da_nil))))))
abbrev N_law_mix : List Str := ["_law_script", "_law_seed", "_law_state", "_law_cell"]
theorem sc_law_mix : FnScope ["_law_script", "_law_seed", "_law_state", "_law_cell"] ["_law_script", "_law_seed"] (defScope s_law_mix) := ⟨rfl, rfl, rfl, by decide +kernel, rfl, by decide +kernel, by decide +kernel⟩
theorem cal_law_mix (T : Txt K mg base TT C) : Callee P w K mg base TT 1 "_law_mix" 2 F_law_mix := by
  exact T.d_law_mix.cal sc_law_mix rfl fun f cdv A outer s H E W hr => (dss_cons (ds_set (pg_name (i := 2) sc_law_mix.nd rfl (Or.inl rfl)) (dx_E (de_var (pv 1))))
    (dss_cons (ds_for (passes_of rfl) rfl (di_seq (de_var (pv 0))) (dg_name (pg_name (i := 3) sc_law_mix.nd rfl (Or.inl rfl))) (dss_one (ds_set (pg_name (i := 2) sc_law_mix.nd rfl (Or.inl rfl)) (dx_E (de_mod (de_intc rfl T.b_int (da_cons (de_add (de_add (de_mul (de_var (pv 2)) de_int) (de_mod (de_intc rfl T.b_int (da_cons (de_var (pv 3)) da_nil)) de_int)) de_int) da_nil)) de_int)))))
    (dss_one (ds_ret (de_src (de_var (pv 2)) (dx_list rfl T.b_list (da_cons (de_var (pv 0)) da_nil)) de_int)))))
abbrev N_law_game : List Str := ["_law_h", "_law_boxes", "_law_size", "_law_most", "_law_take", "_law_strike", "_law_near", "_law_sizes", "_law_k", "_law_any_one", "_law_near_one"]
theorem sc_law_game : FnScope ["_law_h", "_law_boxes", "_law_size", "_law_most", "_law_take", "_law_strike", "_law_near", "_law_sizes", "_law_k", "_law_any_one", "_law_near_one"] ["_law_h", "_law_boxes", "_law_size", "_law_most"] (defScope s_law_game) := ⟨rfl, rfl, rfl, by decide +kernel, rfl, by decide +kernel, by decide +kernel⟩
theorem cal_law_game (T : Txt K mg base TT C) : Callee P w K mg base TT 2 "_law_game" 4 F_law_game := by
  exact T.d_law_game.cal sc_law_game rfl fun f cdv A outer s H E W hr => (dss_cons (ds_par (i := 4) (j := 5) rfl sc_law_game.nd rfl rfl (by decide) rfl rfl (dx_E (de_add de_int (de_call (cal_law_next T) (hr.mono (by decide)) rfl (takes_of rfl rfl rfl rfl) (da_cons (de_var (pv 0)) (da_cons (de_var (pv 3)) da_nil)) rfl (len_cons (len_cons len_nil))))) (dx_E (de_add de_int (de_ix (de_X (dx_lst (da_cons de_int (da_cons de_int (da_cons de_int (da_cons de_int da_nil)))))) (de_call (cal_law_next T) (hr.mono (by decide)) rfl (takes_of rfl rfl rfl rfl) (da_cons (de_var (pv 0)) (da_cons de_int da_nil)) rfl (len_cons (len_cons len_nil)))))) rfl)
    (dss_cons (ds_set (pg_name (i := 6) sc_law_game.nd rfl (Or.inl rfl)) (dx_E (de_call (cal_law_next T) (hr.mono (by decide)) rfl (takes_of rfl rfl rfl rfl) (da_cons (de_var (pv 0)) (da_cons (de_var (pv 2)) da_nil)) rfl (len_cons (len_cons len_nil)))))
    (dss_cons (ds_set (pg_name (i := 7) sc_law_game.nd rfl (Or.inl rfl)) (dx_lst da_nil))
    (dss_cons (ds_for (passes_of rfl) rfl (di_range1 rfl T.b_range (da_cons (de_add de_int (de_call (cal_law_next T) (hr.mono (by decide)) rfl (takes_of rfl rfl rfl rfl) (da_cons (de_var (pv 0)) (da_cons (de_var (pv 1)) da_nil)) rfl (len_cons (len_cons len_nil)))) da_nil)) (dg_name (pg_name (i := 8) sc_law_game.nd rfl (Or.inl rfl))) (dss_cons (ds_par (i := 9) (j := 10) rfl sc_law_game.nd rfl rfl (by decide) rfl rfl (dx_E (de_call (cal_law_next T) (hr.mono (by decide)) rfl (takes_of rfl rfl rfl rfl) (da_cons (de_var (pv 0)) (da_cons (de_var (pv 2)) da_nil)) rfl (len_cons (len_cons len_nil)))) (dx_E (de_min rfl rfl T.b_min (da_cons (de_sub (de_var (pv 2)) de_int) (da_cons (de_add (de_var (pv 6)) (de_call (cal_law_next T) (hr.mono (by decide)) rfl (takes_of rfl rfl rfl rfl) (da_cons (de_var (pv 0)) (da_cons de_int da_nil)) rfl (len_cons (len_cons len_nil)))) da_nil)))) rfl)
    (dss_one (ds_app (pe_bm PySem.F.plainAttrs_list PySem.F.slot_list_append PySem.F.type_list_append mt_append (pv 7) (pa_cons (de_add de_int (de_if (dt_eq hr.units (de_call (cal_law_next T) (hr.mono (by decide)) rfl (takes_of rfl rfl rfl rfl) (da_cons (de_var (pv 0)) (da_cons de_int da_nil)) rfl (len_cons (len_cons len_nil))) de_int) (de_var (pv 9)) (de_var (pv 10)))) pa_nil))))))
    (dss_frz 7 (dss_one (ds_ret (de_X (dx_lst (da_cons (de_tuple rfl T.b_tuple (da_cons (de_var (pv 7)) da_nil)) (da_cons (de_var (pv 4)) (da_cons (de_var (pv 5)) da_nil))))))))))))
abbrev N_law_bounds : List Str := ["_law_many", "_law_take", "_law_strike", "_law_found", "_law_bounds_here", "_law_last", "_law_part", "_law_k", "_law_bound"]
theorem sc_law_bounds : FnScope ["_law_many", "_law_take", "_law_strike", "_law_found", "_law_bounds_here", "_law_last", "_law_part", "_law_k", "_law_bound"] ["_law_many", "_law_take", "_law_strike"] (defScope s_law_bounds) := ⟨rfl, rfl, rfl, by decide +kernel, rfl, by decide +kernel, by decide +kernel⟩
theorem cal_law_bounds (T : Txt K mg base TT C) : Callee P w K mg base TT 1 "_law_bounds" 3 F_law_bounds := by
  exact T.d_law_bounds.cal sc_law_bounds rfl fun f cdv A outer s H E W hr => (dss_cons (ds_par (i := 3) (j := 4) rfl sc_law_bounds.nd rfl rfl (by decide) rfl rfl (dx_lst da_nil) (dx_E (de_X (dx_lst (da_cons (de_var (pv 1)) da_nil)))) rfl)
    (dss_cons (ds_while 1000 (passes_of rfl) (dt_le (de_len rfl T.b_len (da_cons (de_var (pv 4)) da_nil)) (de_var (pv 0))) (dss_cons (ds_app (pe_bm PySem.F.plainAttrs_list PySem.F.slot_list_append PySem.F.type_list_append mt_append (pv 3) (pa_cons (de_tuple rfl T.b_tuple (da_cons (de_var (pv 4)) da_nil)) pa_nil)))
    (dss_cons (ds_par (i := 5) (j := 6) rfl sc_law_bounds.nd rfl rfl (by decide) rfl rfl (dx_E (de_ix (de_var (pv 4)) (de_neg de_int))) (dx_E (de_fdiv (de_ix (de_var (pv 4)) (de_neg de_int)) (de_len rfl T.b_len (da_cons (de_var (pv 4)) da_nil)))) rfl)
    (dss_cons (ds_for (passes_of rfl) rfl (di_range1 rfl T.b_range (da_cons (de_var (pv 2)) da_nil)) (dg_name (pg_name (i := 7) sc_law_bounds.nd rfl (Or.inl rfl))) (dss_one (ds_set (pg_name (i := 4) sc_law_bounds.nd rfl (Or.inl rfl)) (dx_E (de_add (de_var (pv 4)) (de_X (dx_lst (da_cons (de_add (de_var (pv 5)) (de_mul (de_var (pv 6)) (de_add (de_var (pv 7)) de_int))) da_nil))))))))
    (dss_cons (ds_setLc (i := 4) (own := [("_law_bound", 8)]) rfl sc_law_bounds.nd rfl rfl (sw_true rfl rfl rfl (by decide +kernel)) (di_seq (de_var (pv 4))) (blkOk_by (N := N_law_bounds) (sc := defScope s_law_bounds) (own := [("_law_bound", 8)]) (by decide +kernel)) (fun _ _ _ _ _ => (dg_name (pg_name (i := 8) sc_law_bounds.nd rfl (Or.inl rfl)))) (fun _ _ _ _ _ => dts_nil) (fun _ _ _ _ _ => (de_add (de_var (pv 8)) (de_var (pv 1))))) (dss_frz 4 dss_nil))))))
    (dss_frz 3 (dss_one (ds_ret (de_var (pv 3)))))))
abbrev N_law_sums : List Str := ["_law_sizes", "_law_take", "_law_strike", "_law_row", "_law_found", "_law_bounds_here", "_law_some", "_law_k"]
theorem sc_law_sums : FnScope ["_law_sizes", "_law_take", "_law_strike", "_law_row", "_law_found", "_law_bounds_here", "_law_some", "_law_k"] ["_law_sizes", "_law_take", "_law_strike"] (defScope s_law_sums) := ⟨rfl, rfl, rfl, by decide +kernel, rfl, by decide +kernel, by decide +kernel⟩
theorem cal_law_sums (T : Txt K mg base TT C) : Callee P w K mg base TT 2 "_law_sums" 3 F_law_sums := by
  exact T.d_law_sums.cal sc_law_sums rfl fun f cdv A outer s H E W hr => (dss_cons (ds_par (i := 3) (j := 4) rfl sc_law_sums.nd rfl rfl (by decide) rfl rfl (dx_E (de_X (dx_sorted rfl T.b_sorted (da_cons (de_X (dx_list rfl T.b_list (da_cons (de_var (pv 0)) da_nil))) da_nil)))) (dx_lst da_nil) rfl)
    (dss_cons (ds_for (passes_of rfl) rfl (di_seq (de_call (cal_law_bounds T) (hr.mono (by decide)) rfl (takes_of rfl rfl rfl rfl) (da_cons (de_len rfl T.b_len (da_cons (de_var (pv 3)) da_nil)) (da_cons (de_var (pv 1)) (da_cons (de_var (pv 2)) da_nil))) rfl (len_cons (len_cons (len_cons len_nil))))) (dg_name (pg_name (i := 5) sc_law_sums.nd rfl (Or.inl rfl))) (dss_cons (ds_set (pg_name (i := 6) sc_law_sums.nd rfl (Or.inr rfl)) (dx_E (de_X (dx_rev (de_slice (de_var (pv 3)) do_none (do_some (de_len rfl T.b_len (da_cons (de_var (pv 5)) da_nil))))))))
    (dss_one (ds_app (pe_bm PySem.F.plainAttrs_list PySem.F.slot_list_append PySem.F.type_list_append mt_append (pv 4) (pa_cons (de_tup (da_cons (de_len rfl T.b_len (da_cons (de_var (pv 5)) da_nil)) (da_cons (de_tuple rfl T.b_tuple (da_cons (de_X (dx_lc (own := [("_law_k", 7)]) rfl sc_law_sums.nd (di_range1 rfl T.b_range (da_cons (de_len rfl T.b_len (da_cons (de_var (pv 6)) da_nil)) da_nil)) (blkOk_by (N := N_law_sums) (sc := defScope s_law_sums) (own := [("_law_k", 7)]) (by decide +kernel)) (fun _ _ _ _ _ => (dg_name (pg_name (i := 7) sc_law_sums.nd rfl (Or.inl rfl)))) (fun _ _ _ _ _ => dts_nil) (fun _ _ _ _ _ => (de_sum rfl rfl T.b_sum (da_cons (de_slice (de_var (pv 6)) do_none (do_some (de_add (de_var (pv 7)) de_int))) da_nil))))) da_nil)) (da_cons (de_var (pv 5)) da_nil)))) pa_nil))))))
    (dss_frz 4 (dss_one (ds_ret (de_var (pv 4)))))))
abbrev N_law_turns : List Str := ["_law_sizes", "_law_take", "_law_strike", "_law_first_one", "_law_row", "_law_told", "_law_k", "_law_m", "_law_tops", "_law_bounds_here", "_law_j"]
theorem sc_law_turns : FnScope ["_law_sizes", "_law_take", "_law_strike", "_law_first_one", "_law_row", "_law_told", "_law_k", "_law_m", "_law_tops", "_law_bounds_here", "_law_j"] ["_law_sizes", "_law_take", "_law_strike", "_law_first_one"] (defScope s_law_turns) := ⟨rfl, rfl, rfl, by decide +kernel, rfl, by decide +kernel, by decide +kernel⟩
theorem cal_law_turns (T : Txt K mg base TT C) : Callee P w K mg base TT 3 "_law_turns" 4 F_law_turns := by
  exact T.d_law_turns.cal sc_law_turns rfl fun f cdv A outer s H E W hr => (dss_cons (ds_set (pg_name (i := 4) sc_law_turns.nd rfl (Or.inl rfl)) (dx_E (de_X (dx_sorted rfl T.b_sorted (da_cons (de_X (dx_list rfl T.b_list (da_cons (de_var (pv 0)) da_nil))) da_nil)))))
    (dss_cons (ds_if (dt_eq hr.units (de_var (pv 3)) de_str) (dss_one (ds_set (pg_name (i := 4) sc_law_turns.nd rfl (Or.inl rfl)) (dx_E (de_slice (de_var (pv 4)) (do_some (de_var (pv 2))) do_none)))) dss_nil)
    (dss_cons (ds_set (pg_name (i := 5) sc_law_turns.nd rfl (Or.inl rfl)) (dx_E (de_call (cal_law_sums T) (hr.mono (by decide)) rfl (takes_of rfl rfl rfl rfl) (da_cons (de_var (pv 4)) (da_cons (de_var (pv 1)) (da_cons (de_var (pv 2)) da_nil))) rfl (len_cons (len_cons (len_cons len_nil))))))
    (dss_cons (ds_for (passes_of rfl) rfl (di_range1 rfl T.b_range (da_cons (de_len rfl T.b_len (da_cons (de_var (pv 5)) da_nil)) da_nil)) (dg_name (pg_name (i := 6) sc_law_turns.nd rfl (Or.inl rfl))) (dss_cons (ds_tgt (dg_tup rfl (dgs_cons (dg_name (pg_name (i := 7) sc_law_turns.nd rfl (Or.inl rfl))) (dgs_cons (dg_name (pg_name (i := 8) sc_law_turns.nd rfl (Or.inr rfl))) (dgs_cons (dg_name (pg_name (i := 9) sc_law_turns.nd rfl (Or.inr rfl))) dgs_nil)))) (de_ix (de_var (pv 5)) (de_var (pv 6))))
    (dss_one (ds_if (dt_eq hr.units (de_X (dx_lc (own := [("_law_j", 10)]) rfl sc_law_turns.nd (di_range1 rfl T.b_range (da_cons (de_var (pv 7)) da_nil)) (blkOk_by (N := N_law_turns) (sc := defScope s_law_turns) (own := [("_law_j", 10)]) (by decide +kernel)) (fun _ _ _ _ _ => (dg_name (pg_name (i := 10) sc_law_turns.nd rfl (Or.inl rfl)))) (fun _ _ _ _ _ => (dts_one (dt_gt (de_ix (de_var (pv 8)) (de_var (pv 10))) (de_ix (de_var (pv 9)) (de_var (pv 10)))))) (fun _ _ _ _ _ => (de_var (pv 10))))) (de_X (dx_lst da_nil))) (dss_one (ds_ret (de_add (de_var (pv 6)) de_int))) dss_nil))))
    (dss_one (ds_ret de_non))))))
abbrev N_law_all : List Str := ["_law_sizes", "_law_take", "_law_found", "_law_size", "_law_longer", "_law_left", "_law_rest", "_law_some"]
theorem sc_law_all : FnScope ["_law_sizes", "_law_take", "_law_found", "_law_size", "_law_longer", "_law_left", "_law_rest", "_law_some"] ["_law_sizes", "_law_take"] (defScope s_law_all) := ⟨rfl, rfl, rfl, by decide +kernel, rfl, by decide +kernel, by decide +kernel⟩
theorem cal_law_all (T : Txt K mg base TT C) : Callee P w K mg base TT 1 "_law_all" 2 F_law_all := by
  exact T.d_law_all.cal sc_law_all rfl fun f cdv A outer s H E W hr => (dss_cons (ds_set (pg_name (i := 2) sc_law_all.nd rfl (Or.inl rfl)) (dx_E (de_X (dx_lst (da_cons (de_tup (da_cons (de_tup da_nil) (da_cons (de_var (pv 1)) da_nil))) da_nil)))))
    (dss_cons (ds_for (passes_of rfl) rfl (di_seq (de_var (pv 0))) (dg_name (pg_name (i := 3) sc_law_all.nd rfl (Or.inr rfl))) (dss_cons (ds_set (pg_name (i := 4) sc_law_all.nd rfl (Or.inl rfl)) (dx_E (de_X (dx_lst da_nil))))
    (dss_cons (ds_for (passes_of rfl) rfl (di_seq (de_var (pv 2))) (dg_tup rfl (dgs_cons (dg_name (pg_name (i := 5) sc_law_all.nd rfl (Or.inr rfl))) (dgs_cons (dg_name (pg_name (i := 6) sc_law_all.nd rfl (Or.inr rfl))) dgs_nil))) (dss_one (ds_set (pg_name (i := 4) sc_law_all.nd rfl (Or.inl rfl)) (dx_E (de_add (de_var (pv 4)) (de_X (dx_lc (own := [("_law_some", 7)]) rfl sc_law_all.nd (di_range1 rfl T.b_range (da_cons (de_add (de_min rfl rfl T.b_min (da_cons (de_var (pv 3)) (da_cons (de_var (pv 6)) da_nil))) de_int) da_nil)) (blkOk_by (N := N_law_all) (sc := defScope s_law_all) (own := [("_law_some", 7)]) (by decide +kernel)) (fun _ _ _ _ _ => (dg_name (pg_name (i := 7) sc_law_all.nd rfl (Or.inl rfl)))) (fun _ _ _ _ _ => dts_nil) (fun _ _ _ _ _ => (de_tup (da_cons (de_add (de_var (pv 5)) (de_tup (da_cons (de_sub (de_var (pv 3)) (de_var (pv 7))) da_nil))) (da_cons (de_sub (de_var (pv 6)) (de_var (pv 7))) da_nil)))))))))))
    (dss_one (ds_set (pg_name (i := 2) sc_law_all.nd rfl (Or.inl rfl)) (dx_E (de_var (pv 4))))))))
    (dss_one (ds_ret (de_X (dx_lc (own := [("_law_left", 5), ("_law_rest", 6)]) rfl sc_law_all.nd (di_seq (de_var (pv 2))) (blkOk_by (N := N_law_all) (sc := defScope s_law_all) (own := [("_law_left", 5), ("_law_rest", 6)]) (by decide +kernel)) (fun _ _ _ _ _ => (dg_tup rfl (dgs_cons (dg_name (pg_name (i := 5) sc_law_all.nd rfl (Or.inl rfl))) (dgs_cons (dg_name (pg_name (i := 6) sc_law_all.nd rfl (Or.inl rfl))) dgs_nil)))) (fun _ _ _ _ _ => dts_nil) (fun _ _ _ _ _ => (de_var (pv 5)))))))))
abbrev N_law_asked : List Str := ["_law_game_here"]
theorem sc_law_asked : FnScope ["_law_game_here"] ["_law_game_here"] (defScope s_law_asked) := ⟨rfl, rfl, rfl, by decide +kernel, rfl, by decide +kernel, by decide +kernel⟩
theorem cal_law_asked (T : Txt K mg base TT C) : Callee P w K mg base TT 7 "_law_asked" 1 F_law_asked := by
  exact T.d_law_asked.cal sc_law_asked rfl fun f cdv A outer s H E W hr => (dss_one (ds_try rfl rfl (takes_of rfl rfl rfl rfl) (fun V pn xe tk po => (dss_one (ds_ret (de_call (cal_many_takings T) (hr.mono (by decide)) rfl tk (da_cons (de_var (pv 0)) da_nil) rfl (len_cons len_nil))))) (.cons (tab := [("TooLarge", true)]) rfl (by decide) T.h_TooLarge.choose_spec (tab_cons T.x_TooLarge_TooLarge tab_nil) (fun _ _ _ _ _ _ _ => (dss_one (ds_ret de_str))) .nil)))
abbrev N_law : List Str := ["_law_script", "_law_h", "_law_sizes", "_law_take", "_law_strike", "_law_due", "_law_left", "_law_size", "_law_told"]
theorem sc_law : FnScope ["_law_script", "_law_h", "_law_sizes", "_law_take", "_law_strike", "_law_due", "_law_left", "_law_size", "_law_told"] ["_law_script"] (defScope s_law) := ⟨rfl, rfl, rfl, by decide +kernel, rfl, by decide +kernel, by decide +kernel⟩
theorem ok_law {fa : Addr} {fd : FuncData} (hF : Fun K "law" "law" s_law fa fd) (T : Txt K mg base TT C) : FnOk P w K mg base (L2.CX P w) 8 fa fd ["_law_script"] (spD K mg TT 1 F_law) := by
  obtain ⟨_, _, _, GM⟩ := mk_Game (P := P) (w := w) T
  exact okD hF sc_law fun cdv A outer s H E W hr => (dss_cons (ds_set (pg_name (i := 1) sc_law.nd rfl (Or.inl rfl)) (dx_E (de_call (cal_law_mix T) (hr.mono (by decide)) rfl (takes_of rfl rfl rfl rfl) (da_cons (de_var (pv 0)) (da_cons de_int da_nil)) rfl (len_cons (len_cons len_nil)))))
    (dss_cons (ds_tgt (dg_tup rfl (dgs_cons (dg_name (pg_name (i := 2) sc_law.nd rfl (Or.inl rfl))) (dgs_cons (dg_name (pg_name (i := 3) sc_law.nd rfl (Or.inl rfl))) (dgs_cons (dg_name (pg_name (i := 4) sc_law.nd rfl (Or.inl rfl))) dgs_nil)))) (de_if (dt_gt (de_call (cal_law_next T) (hr.mono (by decide)) rfl (takes_of rfl rfl rfl rfl) (da_cons (de_var (pv 1)) (da_cons de_int da_nil)) rfl (len_cons (len_cons len_nil))) de_int) (de_call (cal_law_game T) (hr.mono (by decide)) rfl (takes_of rfl rfl rfl rfl) (da_cons (de_var (pv 1)) (da_cons de_int (da_cons de_int (da_cons de_int da_nil)))) rfl (len_cons (len_cons (len_cons (len_cons len_nil))))) (de_call (cal_law_game T) (hr.mono (by decide)) rfl (takes_of rfl rfl rfl rfl) (da_cons (de_var (pv 1)) (da_cons de_int (da_cons de_int (da_cons de_int da_nil)))) rfl (len_cons (len_cons (len_cons (len_cons len_nil)))))))
    (dss_cons (ds_set (pg_name (i := 5) sc_law.nd rfl (Or.inl rfl)) (dx_E de_int))
    (dss_cons (ds_for (passes_of rfl) rfl (di_seq (de_call (cal_law_all T) (hr.mono (by decide)) rfl (takes_of rfl rfl rfl rfl) (da_cons (de_var (pv 2)) (da_cons (de_var (pv 3)) da_nil)) rfl (len_cons (len_cons len_nil)))) (dg_name (pg_name (i := 6) sc_law.nd rfl (Or.inl rfl))) (dss_one (ds_if (PW.pt (dw_or (dt_in de_int (de_var (pv 6))) (dw_or1 (dt_notN (de_call (cal_law_turns T) (hr.mono (by decide)) rfl (takes_of rfl rfl rfl rfl) (da_cons (de_var (pv 6)) (da_cons (de_var (pv 3)) (da_cons (de_var (pv 4)) (da_cons de_str da_nil)))) rfl (len_cons (len_cons (len_cons (len_cons len_nil))))) de_non)))) (dss_one (ds_set (pg_name (i := 5) sc_law.nd rfl (Or.inl rfl)) (dx_E (de_add (de_var (pv 5)) de_int)))) dss_nil)))
    (dss_cons (ds_if (dt_ne hr.units (de_call (cal_law_asked T) (hr.mono (by decide)) rfl (takes_of rfl rfl rfl rfl) (da_cons (de_make GM.1 GM.2.1 (hr.mono (by decide)) rfl T.g_Game GM.2.2 (fun _ _ _ _ => rfl) (takes_of rfl rfl rfl rfl) (da_cons (de_var (pv 2)) (da_cons (de_var (pv 3)) (da_cons (de_var (pv 4)) da_nil))) (len_cons (len_cons (len_cons len_nil)))) da_nil) rfl (len_cons len_nil)) (de_var (pv 5))) (dss_one (ds_ret de_bl)) dss_nil)
    (dss_cons (ds_set (pg_name (i := 7) sc_law.nd rfl (Or.inl rfl)) (dx_E (de_add de_int (de_call (cal_law_next T) (hr.mono (by decide)) rfl (takes_of rfl rfl rfl rfl) (da_cons (de_var (pv 1)) (da_cons de_int da_nil)) rfl (len_cons (len_cons len_nil))))))
    (dss_cons (ds_set (pg_name (i := 8) sc_law.nd rfl (Or.inl rfl)) (dx_E (de_call (cal_law_asked T) (hr.mono (by decide)) rfl (takes_of rfl rfl rfl rfl) (da_cons (de_make GM.1 GM.2.1 (hr.mono (by decide)) rfl T.g_Game GM.2.2 (fun _ _ _ _ => rfl) (takes_of rfl rfl rfl rfl) (da_cons (de_tup (da_cons (de_var (pv 7)) da_nil)) (da_cons (de_var (pv 7)) (da_cons (de_var (pv 4)) da_nil))) (len_cons (len_cons (len_cons len_nil)))) da_nil) rfl (len_cons len_nil))))
    (dss_one (ds_ret (de_eq hr.units (de_var (pv 8)) (de_if (dt_gt (de_add (de_var (pv 7)) de_int) de_int) de_str de_int)))))))))))
end
end Bx

namespace Bx
open PySem L2
theorem e_is_integer (n : Int) (S : Store) : F_is_integer [.int n] S = .ok (.bl true) S := by
  simp [fnSem, startR, gIsi, ty6, Ty6.is, tru?, gNot, gLe, gLt, gGt, gGe, gCmp, gTru, gBl, gLen, gItems, gFld, gIx, gAdd_int, gSub, gNeg, gTuple, gList, gIsN, gNotN, gPart, gtName, gtTup, gtCons, gtNil, sFor, sFor.go, frz, wipeR, fYes, startI, fnI, isNon, noer, LIM, F_is_integer, S_is_integer]
theorem e_is_from (n a b : Int) (S : Store) : F_is_from [.int n, .int a, .int b] S = .ok (.bl (decide (a ≤ n ∧ n ≤ b))) S := by
  simp [fnSem, startR, gIsi, ty6, Ty6.is, tru?, gNot, gLe, gLt, gGt, gGe, gCmp, gTru, gBl, gLen, gItems, gFld, gIx, gAdd_int, gSub, gNeg, gTuple, gList, gIsN, gNotN, gPart, gtName, gtTup, gtCons, gtNil, sFor, sFor.go, frz, wipeR, fYes, startI, fnI, isNon, noer, LIM, F_is_from, S_is_from, e_is_integer]
  by_cases h : a ≤ n <;> by_cases h2 : n ≤ b <;> simp [fnSem, startR, gIsi, ty6, Ty6.is, tru?, gNot, gLe, gLt, gGt, gGe, gCmp, gTru, gBl, gLen, gItems, gFld, gIx, gAdd_int, gSub, gNeg, gTuple, gList, gIsN, gNotN, gPart, gtName, gtTup, gtCons, gtNil, sFor, sFor.go, frz, wipeR, fYes, startI, fnI, isNon, noer, LIM, h, h2]
def big : Int := 1000000000000000000000000000000
theorem e_boxes_loop {l : List Int} (h : ∀ n ∈ l, 1 ≤ n ∧ n ≤ big) (S : Store) : ∀ x y : Sl, ∃ z, sFor.go (gtName 1) B_check_boxes_1 (dI l) [x, y] S = .mk (.nx [x, z]) S := by
  induction l with
  | nil => exact fun x y => ⟨y, by simp [fnSem, startR, gIsi, ty6, Ty6.is, tru?, gNot, gLe, gLt, gGt, gGe, gCmp, gTru, gBl, gLen, gItems, gFld, gIx, gAdd_int, gSub, gNeg, gTuple, gList, gIsN, gNotN, gPart, gtName, gtTup, gtCons, gtNil, sFor, sFor.go, frz, wipeR, fYes, startI, fnI, isNon, noer, LIM]⟩
  | cons a l ih =>
    intro x y
    obtain ⟨z, hz⟩ := ih (fun n hn => h n (List.mem_cons_of_mem _ hn)) x (.fz (.int a))
    have := h a (List.mem_cons_self ..)
    have hb : B_check_boxes_1 [x, .fz (.int a)] S = .mk (.nx [x, .fz (.int a)]) S := by
      simp [fnSem, startR, gIsi, ty6, Ty6.is, tru?, gNot, gLe, gLt, gGt, gGe, gCmp, gTru, gBl, gLen, gItems, gFld, gIx, gAdd_int, gSub, gNeg, gTuple, gList, gIsN, gNotN, gPart, gtName, gtTup, gtCons, gtNil, sFor, sFor.go, frz, wipeR, fYes, startI, fnI, isNon, noer, LIM, B_check_boxes_1, e_is_from]
      unfold big at this; omega
    exact ⟨z, by simp [fnSem, startR, gIsi, ty6, Ty6.is, tru?, gNot, gLe, gLt, gGt, gGe, gCmp, gTru, gBl, gLen, gItems, gFld, gIx, gAdd_int, gSub, gNeg, gTuple, gList, gIsN, gNotN, gPart, gtName, gtTup, gtCons, gtNil, sFor, sFor.go, frz, wipeR, fYes, startI, fnI, isNon, noer, LIM, dI_cons, hb, hz]⟩
theorem e_check_boxes {l : List Int} (h : ∀ n ∈ l, 1 ≤ n ∧ n ≤ big) (h1 : l ≠ []) (h8 : l.length ≤ 8) (S : Store) : F_check_boxes [.tup (dI l)] S = .ok .non S := by
  obtain ⟨y, hy⟩ := e_boxes_loop h S (.fz (.tup (dI l))) .un
  have : 0 < l.length := List.length_pos_iff.mpr h1
  have e1 : decide (1 ≤ (l.length : Int)) = true := by simp [fnSem, startR, gIsi, ty6, Ty6.is, tru?, gNot, gLe, gLt, gGt, gGe, gCmp, gTru, gBl, gLen, gItems, gFld, gIx, gAdd_int, gSub, gNeg, gTuple, gList, gIsN, gNotN, gPart, gtName, gtTup, gtCons, gtNil, sFor, sFor.go, frz, wipeR, fYes, startI, fnI, isNon, noer, LIM]; omega
  have e2 : decide ((l.length : Int) ≤ 8) = true := by simp [fnSem, startR, gIsi, ty6, Ty6.is, tru?, gNot, gLe, gLt, gGt, gGe, gCmp, gTru, gBl, gLen, gItems, gFld, gIx, gAdd_int, gSub, gNeg, gTuple, gList, gIsN, gNotN, gPart, gtName, gtTup, gtCons, gtNil, sFor, sFor.go, frz, wipeR, fYes, startI, fnI, isNon, noer, LIM]; omega
  simp [fnSem, startR, gIsi, ty6, Ty6.is, tru?, gNot, gLe, gLt, gGt, gGe, gCmp, gTru, gBl, gLen, gItems, gFld, gIx, gAdd_int, gSub, gNeg, gTuple, gList, gIsN, gNotN, gPart, gtName, gtTup, gtCons, gtNil, sFor, sFor.go, frz, wipeR, fYes, startI, fnI, isNon, noer, LIM, F_check_boxes, S_check_boxes, e1, e2, hy]
theorem e_check_take {n : Int} (h : 1 ≤ n ∧ n ≤ big) (S : Store) : F_check_take [.int n] S = .ok .non S := by
  simp [fnSem, startR, gIsi, ty6, Ty6.is, tru?, gNot, gLe, gLt, gGt, gGe, gCmp, gTru, gBl, gLen, gItems, gFld, gIx, gAdd_int, gSub, gNeg, gTuple, gList, gIsN, gNotN, gPart, gtName, gtTup, gtCons, gtNil, sFor, sFor.go, frz, wipeR, fYes, startI, fnI, isNon, noer, LIM, F_check_take, S_check_take, e_is_from]
  rw [if_neg (by unfold big at h; omega)]
theorem e_check_strike {n : Nat} (h : 1 ≤ n ∧ n ≤ 3) (S : Store) : F_check_strike [.int n] S = .ok .non S := by
  simp [fnSem, startR, gIsi, ty6, Ty6.is, tru?, gNot, gLe, gLt, gGt, gGe, gCmp, gTru, gBl, gLen, gItems, gFld, gIx, gAdd_int, gSub, gNeg, gTuple, gList, gIsN, gNotN, gPart, gtName, gtTup, gtCons, gtNil, sFor, sFor.go, frz, wipeR, fYes, startI, fnI, isNon, noer, LIM, F_check_strike, S_check_strike, e_is_from]
  rw [if_neg (by omega)]
/-- a game -/
structure Gm where
  bx : List Int
  tk : Int
  st : Nat
structure Gm.Ok (g : Gm) : Prop where
  h : ∀ n ∈ g.bx, 1 ≤ n ∧ n ≤ big
  ne : g.bx ≠ []
  l8 : g.bx.length ≤ 8
  tk : 1 ≤ g.tk ∧ g.tk ≤ big
  st : 1 ≤ g.st ∧ g.st ≤ 3
def Gm.held (g : Gm) : D := .tup [.tup (dI g.bx), .int g.tk, .int g.st]
def Gm.d (g : Gm) : D := .ins "Game" ["held"] [g.held]
theorem e_init {g : Gm} (o : g.Ok) (S : Store) : F_Game_init [.tup (dI g.bx), .int g.tk, .int g.st] S = .ok (["held"], [g.held]) S := by
  simp [fnSem, startR, gIsi, ty6, Ty6.is, tru?, gNot, gLe, gLt, gGt, gGe, gCmp, gTru, gBl, gLen, gItems, gFld, gIx, gAdd_int, gSub, gNeg, gTuple, gList, gIsN, gNotN, gPart, gtName, gtTup, gtCons, gtNil, sFor, sFor.go, frz, wipeR, fYes, startI, fnI, isNon, noer, LIM, F_Game_init, S_Game_init, e_check_boxes o.h o.ne o.l8, e_check_take o.tk, e_check_strike o.st, Gm.held, isNw, List.countP_cons]
theorem e_boxes (g : Gm) (S : Store) : F_Game_boxes [g.d] S = .ok (.tup (dI g.bx)) S := by
  simp [fnSem, startR, gIsi, ty6, Ty6.is, tru?, gNot, gLe, gLt, gGt, gGe, gCmp, gTru, gBl, gLen, gItems, gFld, gIx, gAdd_int, gSub, gNeg, gTuple, gList, gIsN, gNotN, gPart, gtName, gtTup, gtCons, gtNil, sFor, sFor.go, frz, wipeR, fYes, startI, fnI, isNon, noer, LIM, F_Game_boxes, S_Game_boxes, Gm.d, Gm.held, ix0, ix1, ix2]
theorem e_take (g : Gm) (S : Store) : F_Game_take [g.d] S = .ok (.int g.tk) S := by
  simp [fnSem, startR, gIsi, ty6, Ty6.is, tru?, gNot, gLe, gLt, gGt, gGe, gCmp, gTru, gBl, gLen, gItems, gFld, gIx, gAdd_int, gSub, gNeg, gTuple, gList, gIsN, gNotN, gPart, gtName, gtTup, gtCons, gtNil, sFor, sFor.go, frz, wipeR, fYes, startI, fnI, isNon, noer, LIM, F_Game_take, S_Game_take, Gm.d, Gm.held, ix0, ix1, ix2]
theorem e_strike (g : Gm) (S : Store) : F_Game_strike [g.d] S = .ok (.int g.st) S := by
  simp [fnSem, startR, gIsi, ty6, Ty6.is, tru?, gNot, gLe, gLt, gGt, gGe, gCmp, gTru, gBl, gLen, gItems, gFld, gIx, gAdd_int, gSub, gNeg, gTuple, gList, gIsN, gNotN, gPart, gtName, gtTup, gtCons, gtNil, sFor, sFor.go, frz, wipeR, fYes, startI, fnI, isNon, noer, LIM, F_Game_strike, S_Game_strike, Gm.d, Gm.held, ix0, ix1, ix2]
theorem p_boxes (g : Gm) (S : Store) : gProp "Game" F_Game_boxes g.d S = .ok (.tup (dI g.bx)) S := by
  simp [fnSem, startR, gIsi, ty6, Ty6.is, tru?, gNot, gLe, gLt, gGt, gGe, gCmp, gTru, gBl, gLen, gItems, gFld, gIx, gAdd_int, gSub, gNeg, gTuple, gList, gIsN, gNotN, gPart, gtName, gtTup, gtCons, gtNil, sFor, sFor.go, frz, wipeR, fYes, startI, fnI, isNon, noer, LIM, gProp, e_boxes]; simp [fnSem, startR, gIsi, ty6, Ty6.is, tru?, gNot, gLe, gLt, gGt, gGe, gCmp, gTru, gBl, gLen, gItems, gFld, gIx, gAdd_int, gSub, gNeg, gTuple, gList, gIsN, gNotN, gPart, gtName, gtTup, gtCons, gtNil, sFor, sFor.go, frz, wipeR, fYes, startI, fnI, isNon, noer, LIM, Gm.d, isIns]
theorem p_take (g : Gm) (S : Store) : gProp "Game" F_Game_take g.d S = .ok (.int g.tk) S := by
  simp [fnSem, startR, gIsi, ty6, Ty6.is, tru?, gNot, gLe, gLt, gGt, gGe, gCmp, gTru, gBl, gLen, gItems, gFld, gIx, gAdd_int, gSub, gNeg, gTuple, gList, gIsN, gNotN, gPart, gtName, gtTup, gtCons, gtNil, sFor, sFor.go, frz, wipeR, fYes, startI, fnI, isNon, noer, LIM, gProp, e_take]; simp [fnSem, startR, gIsi, ty6, Ty6.is, tru?, gNot, gLe, gLt, gGt, gGe, gCmp, gTru, gBl, gLen, gItems, gFld, gIx, gAdd_int, gSub, gNeg, gTuple, gList, gIsN, gNotN, gPart, gtName, gtTup, gtCons, gtNil, sFor, sFor.go, frz, wipeR, fYes, startI, fnI, isNon, noer, LIM, Gm.d, isIns]
theorem p_strike (g : Gm) (S : Store) : gProp "Game" F_Game_strike g.d S = .ok (.int g.st) S := by
  simp [fnSem, startR, gIsi, ty6, Ty6.is, tru?, gNot, gLe, gLt, gGt, gGe, gCmp, gTru, gBl, gLen, gItems, gFld, gIx, gAdd_int, gSub, gNeg, gTuple, gList, gIsN, gNotN, gPart, gtName, gtTup, gtCons, gtNil, sFor, sFor.go, frz, wipeR, fYes, startI, fnI, isNon, noer, LIM, gProp, e_strike]; simp [fnSem, startR, gIsi, ty6, Ty6.is, tru?, gNot, gLe, gLt, gGt, gGe, gCmp, gTru, gBl, gLen, gItems, gFld, gIx, gAdd_int, gSub, gNeg, gTuple, gList, gIsN, gNotN, gPart, gtName, gtTup, gtCons, gtNil, sFor, sFor.go, frz, wipeR, fYes, startI, fnI, isNon, noer, LIM, Gm.d, isIns]
theorem e_check_game (g : Gm) (S : Store) : F_check_game [g.d] S = .ok .non S := by
  simp [fnSem, startR, gIsi, ty6, Ty6.is, tru?, gNot, gLe, gLt, gGt, gGe, gCmp, gTru, gBl, gLen, gItems, gFld, gIx, gAdd_int, gSub, gNeg, gTuple, gList, gIsN, gNotN, gPart, gtName, gtTup, gtCons, gtNil, sFor, sFor.go, frz, wipeR, fYes, startI, fnI, isNon, noer, LIM, F_check_game, S_check_game, Gm.d, gIsC, isIns]
theorem py_held (g : Gm) : Py 2 g.held (.tuple [.tuple (g.bx.map .int), .int g.tk, .int g.st]) := py_tup (pys_cons (py_tup (pys_dI _)) (pys_cons py_int (pys_cons py_int pys_nil)))
theorem eq_gm (g h : Gm) (S : Store) : gEqI "Game" F_Game_eq g.d h.d S = .ok (.bl (decide (g.bx = h.bx ∧ g.tk = h.tk ∧ g.st = h.st))) S := by
  simp [fnSem, startR, gIsi, ty6, Ty6.is, tru?, gNot, gLe, gLt, gGt, gGe, gCmp, gTru, gBl, gLen, gItems, gFld, gIx, gAdd_int, gSub, gNeg, gTuple, gList, gIsN, gNotN, gPart, gtName, gtTup, gtCons, gtNil, sFor, sFor.go, frz, wipeR, fYes, startI, fnI, isNon, noer, LIM, gEqI, F_Game_eq, S_Game_eq, Gm.d, gIsC, isIns, gEq_py (py_held g) (py_held h), PyData.eqv, PyData.eqvAll, eqvAll_ints]
  by_cases h1 : g.bx = h.bx <;> by_cases h2 : g.tk = h.tk <;> by_cases h3 : g.st = h.st <;> simp [fnSem, startR, gIsi, ty6, Ty6.is, tru?, gNot, gLe, gLt, gGt, gGe, gCmp, gTru, gBl, gLen, gItems, gFld, gIx, gAdd_int, gSub, gNeg, gTuple, gList, gIsN, gNotN, gPart, gtName, gtTup, gtCons, gtNil, sFor, sFor.go, frz, wipeR, fYes, startI, fnI, isNon, noer, LIM, h1, h2, h3] <;> omega
theorem eq_tp (g : Gm) (xs : List D) (S : Store) : gEqI "Game" F_Game_eq g.d (.tup xs) S = .ok (.bl false) S := by
  simp [fnSem, startR, gIsi, ty6, Ty6.is, tru?, gNot, gLe, gLt, gGt, gGe, gCmp, gTru, gBl, gLen, gItems, gFld, gIx, gAdd_int, gSub, gNeg, gTuple, gList, gIsN, gNotN, gPart, gtName, gtTup, gtCons, gtNil, sFor, sFor.go, frz, wipeR, fYes, startI, fnI, isNon, noer, LIM, gEqI, F_Game_eq, S_Game_eq, Gm.d, gIsC, isIns, isTup]

end Bx

namespace Bx
open PySem L2
/-! ### the bounds -/
def lastI (b : List Int) : Int := b.getLastD 0
def nextB (t : Int) (s : Nat) (b : List Int) : List Int := (b ++ (List.range s).map fun (k : Nat) => lastI b + lastI b / (b.length : Int) * ((k : Int) + 1)).map (· + t)
def bgo : Nat → Nat → Int → Nat → List Int → List (List Int)
  | 0, _, _, _, _ => []
  | n + 1, m, t, s, b => if b.length ≤ m then b :: bgo n m t s (nextB t s b) else []
theorem nextB_len {t : Int} {s : Nat} {b : List Int} : (nextB t s b).length = b.length + s := by simp [fnSem, startR, gIsi, ty6, Ty6.is, tru?, gNot, gLe, gLt, gGt, gGe, gCmp, gTru, gBl, gLen, gItems, gFld, gIx, gAdd_int, gSub, gNeg, gTuple, gList, gIsN, gNotN, gPart, gtName, gtTup, gtCons, gtNil, sFor, sFor.go, frz, wipeR, fYes, startI, fnI, isNon, noer, LIM, nextB]
theorem atI_last {b : List Int} (h : b ≠ []) : atI (dI b) (-1) = some (.int (lastI b)) := by
  obtain ⟨c, x, rfl⟩ : ∃ c x, b = c ++ [x] := ⟨b.dropLast, b.getLast h, (List.dropLast_concat_getLast h).symm⟩
  unfold atI ixN
  rw [if_neg (by decide), if_pos (by simp [fnSem, startR, gIsi, ty6, Ty6.is, tru?, gNot, gLe, gLt, gGt, gGe, gCmp, gTru, gBl, gLen, gItems, gFld, gIx, gAdd_int, gSub, gNeg, gTuple, gList, gIsN, gNotN, gPart, gtName, gtTup, gtCons, gtNil, sFor, sFor.go, frz, wipeR, fYes, startI, fnI, isNon, noer, LIM]; omega)]
  simp [fnSem, startR, gIsi, ty6, Ty6.is, tru?, gNot, gLe, gLt, gGt, gGe, gCmp, gTru, gBl, gLen, gItems, gFld, gIx, gAdd_int, gSub, gNeg, gTuple, gList, gIsN, gNotN, gPart, gtName, gtTup, gtCons, gtNil, sFor, sFor.go, frz, wipeR, fYes, startI, fnI, isNon, noer, LIM, lastI, dI]
  rw [show (-1 + ((c.length : Int) + 1)).toNat = c.length by omega]
  simp [fnSem, startR, gIsi, ty6, Ty6.is, tru?, gNot, gLe, gLt, gGt, gGe, gCmp, gTru, gBl, gLen, gItems, gFld, gIx, gAdd_int, gSub, gNeg, gTuple, gList, gIsN, gNotN, gPart, gtName, gtTup, gtCons, gtNil, sFor, sFor.go, frz, wipeR, fYes, startI, fnI, isNon, noer, LIM]
theorem bounds_body {m : Nat} {t : Int} {s : Nat} {b : List Int} (hb : b ≠ []) (hl : b.length ≤ 900) (hs : s ≤ 3) (acc : List (List Int)) (ha : acc.length ≤ 900) (S : Store) (x5 x6 x7 x8 x9 : Sl) :
    ∃ y5 y6 y7, B_bounds_of_1 [.fz (.int m), .fz (.int t), .fz (.int s), .ow (dT acc), .fz (.tup (dI b)), x5, x6, x7, x8, x9] S =
    .mk (.nx [.fz (.int m), .fz (.int t), .fz (.int s), .ow (dT (acc ++ [b])), .fz (.tup (dI (nextB t s b))), y5, y6, y7, x8, x9]) S := by
  refine ⟨.fz (.int (lastI b)), .fz (.int (lastI b / b.length)), .fz (.lst (dI (b ++ (List.range s).map fun (k : Nat) => lastI b + lastI b / (b.length : Int) * ((k : Int) + 1)))), ?_⟩
  have hp : 0 < b.length := List.length_pos_iff.mpr hb
  have e1 : ∀ x7, lcL (gtName 8) fYes E_bounds_of_1 [.fz (.int m), .fz (.int t), .fz (.int s), .ow (dT (acc ++ [b])), .fz (.tup (dI b)), .fz (.int (lastI b)), .fz (.int (lastI b / b.length)), x7, .un, x9] (dI ((List.range s).map fun (k : Nat) => (k : Int))) [] S = .ok (dI ((List.range s).map fun (k : Nat) => lastI b + lastI b / (b.length : Int) * ((k : Int) + 1))) S := by
    intro x7
    rw [lc_int (fun k => lastI b + lastI b / (b.length : Int) * (k + 1)) _ fun d hd => ?_]
    · simp [fnSem, startR, gIsi, ty6, Ty6.is, tru?, gNot, gLe, gLt, gGt, gGe, gCmp, gTru, gBl, gLen, gItems, gFld, gIx, gAdd_int, gSub, gNeg, gTuple, gList, gIsN, gNotN, gPart, gtName, gtTup, gtCons, gtNil, sFor, sFor.go, frz, wipeR, fYes, startI, fnI, isNon, noer, LIM]
      rfl
    · obtain ⟨k, hk, rfl⟩ := List.mem_map.mp hd
      have hk := List.mem_range.mp hk
      refine ⟨_, rfl, ?_⟩
      simp (discharger := first | (simp [fnSem, startR, gIsi, ty6, Ty6.is, tru?, gNot, gLe, gLt, gGt, gGe, gCmp, gTru, gBl, gLen, gItems, gFld, gIx, gAdd_int, gSub, gNeg, gTuple, gList, gIsN, gNotN, gPart, gtName, gtTup, gtCons, gtNil, sFor, sFor.go, frz, wipeR, fYes, startI, fnI, isNon, noer, LIM]; done) | omega | (simp [fnSem, startR, gIsi, ty6, Ty6.is, tru?, gNot, gLe, gLt, gGt, gGe, gCmp, gTru, gBl, gLen, gItems, gFld, gIx, gAdd_int, gSub, gNeg, gTuple, gList, gIsN, gNotN, gPart, gtName, gtTup, gtCons, gtNil, sFor, sFor.go, frz, wipeR, fYes, startI, fnI, isNon, noer, LIM]; omega)) [fnSem, startR, gIsi, ty6, Ty6.is, tru?, gNot, gLe, gLt, gGt, gGe, gCmp, gTru, gBl, gLen, gItems, gFld, gIx, gAdd_int, gSub, gNeg, gTuple, gList, gIsN, gNotN, gPart, gtName, gtTup, gtCons, gtNil, sFor, sFor.go, frz, wipeR, fYes, startI, fnI, isNon, noer, LIM, ite_le, ite_lt, gFdiv_ok, gMod_ok, gRange1_ok, gRange2_ok, gPow_ok, gAddL_ok, gAddT_ok, gAdd_int, fLc, rangeD0, ix0, ix1, ix2, gSl_takeL, gSl_dropL, gSl_takeT, gSl_dropT, map_int, E_bounds_of_1, gMulR_ok]
  have e2 : ∀ (l : List Int) x5 x6 x7, lcL (gtName 9) fYes E_bounds_of_2 [.fz (.int m), .fz (.int t), .fz (.int s), .ow (dT (acc ++ [b])), .fz (.tup (dI b)), x5, x6, x7, x8, .un] (dI l) [] S = .ok (dI (l.map (· + t))) S := by
    intro l x5 x6 x7
    exact lc_int (· + t) _ fun d hd => ⟨_, rfl, by simp (discharger := first | (simp [fnSem, startR, gIsi, ty6, Ty6.is, tru?, gNot, gLe, gLt, gGt, gGe, gCmp, gTru, gBl, gLen, gItems, gFld, gIx, gAdd_int, gSub, gNeg, gTuple, gList, gIsN, gNotN, gPart, gtName, gtTup, gtCons, gtNil, sFor, sFor.go, frz, wipeR, fYes, startI, fnI, isNon, noer, LIM]; done) | omega | (simp [fnSem, startR, gIsi, ty6, Ty6.is, tru?, gNot, gLe, gLt, gGt, gGe, gCmp, gTru, gBl, gLen, gItems, gFld, gIx, gAdd_int, gSub, gNeg, gTuple, gList, gIsN, gNotN, gPart, gtName, gtTup, gtCons, gtNil, sFor, sFor.go, frz, wipeR, fYes, startI, fnI, isNon, noer, LIM]; omega)) [fnSem, startR, gIsi, ty6, Ty6.is, tru?, gNot, gLe, gLt, gGt, gGe, gCmp, gTru, gBl, gLen, gItems, gFld, gIx, gAdd_int, gSub, gNeg, gTuple, gList, gIsN, gNotN, gPart, gtName, gtTup, gtCons, gtNil, sFor, sFor.go, frz, wipeR, fYes, startI, fnI, isNon, noer, LIM, ite_le, ite_lt, gFdiv_ok, gMod_ok, gRange1_ok, gRange2_ok, gPow_ok, gAddL_ok, gAddT_ok, gAdd_int, fLc, rangeD0, ix0, ix1, ix2, gSl_takeL, gSl_dropL, gSl_takeT, gSl_dropT, map_int, E_bounds_of_2]⟩
  simp (discharger := first | (simp [fnSem, startR, gIsi, ty6, Ty6.is, tru?, gNot, gLe, gLt, gGt, gGe, gCmp, gTru, gBl, gLen, gItems, gFld, gIx, gAdd_int, gSub, gNeg, gTuple, gList, gIsN, gNotN, gPart, gtName, gtTup, gtCons, gtNil, sFor, sFor.go, frz, wipeR, fYes, startI, fnI, isNon, noer, LIM]; done) | omega | (simp [fnSem, startR, gIsi, ty6, Ty6.is, tru?, gNot, gLe, gLt, gGt, gGe, gCmp, gTru, gBl, gLen, gItems, gFld, gIx, gAdd_int, gSub, gNeg, gTuple, gList, gIsN, gNotN, gPart, gtName, gtTup, gtCons, gtNil, sFor, sFor.go, frz, wipeR, fYes, startI, fnI, isNon, noer, LIM]; omega)) [fnSem, startR, gIsi, ty6, Ty6.is, tru?, gNot, gLe, gLt, gGt, gGe, gCmp, gTru, gBl, gLen, gItems, gFld, gIx, gAdd_int, gSub, gNeg, gTuple, gList, gIsN, gNotN, gPart, gtName, gtTup, gtCons, gtNil, sFor, sFor.go, frz, wipeR, fYes, startI, fnI, isNon, noer, LIM, ite_le, ite_lt, gFdiv_ok, gMod_ok, gRange1_ok, gRange2_ok, gPow_ok, gAddL_ok, gAddT_ok, gAdd_int, fLc, rangeD0, ix0, ix1, ix2, gSl_takeL, gSl_dropL, gSl_takeT, gSl_dropT, map_int, B_bounds_of_1, atI_last hb, e1, e2, nextB]
theorem bounds_while {m : Nat} {t : Int} {s : Nat} (hs1 : 1 ≤ s) (hs : s ≤ 3) (hm : m ≤ 120) (S : Store) : ∀ (n : Nat) (b : List Int) (acc : List (List Int)) (x5 x6 x7 x8 x9 : Sl), b ≠ [] → b.length + 3 * n ≤ 900 → acc.length + n ≤ 900 → m + 1 ≤ b.length + n → ∀ k,
    ∃ y4 y5 y6 y7, sWhile (n + 1 + k) T_bounds_of_1 B_bounds_of_1 [.fz (.int m), .fz (.int t), .fz (.int s), .ow (dT acc), .fz (.tup (dI b)), x5, x6, x7, x8, x9] S =
    .mk (.nx [.fz (.int m), .fz (.int t), .fz (.int s), .ow (dT (acc ++ bgo n m t s b)), y4, y5, y6, y7, x8, x9]) S := by
  intro n
  have e : ∀ (b : List Int) (acc : List D) x5 x6 x7 x8 x9, T_bounds_of_1 [.fz (.int m), .fz (.int t), .fz (.int s), .ow acc, .fz (.tup (dI b)), x5, x6, x7, x8, x9] S = .ok (decide (b.length ≤ m)) S := by
    intros
    simp (discharger := first | (simp [fnSem, startR, gIsi, ty6, Ty6.is, tru?, gNot, gLe, gLt, gGt, gGe, gCmp, gTru, gBl, gLen, gItems, gFld, gIx, gAdd_int, gSub, gNeg, gTuple, gList, gIsN, gNotN, gPart, gtName, gtTup, gtCons, gtNil, sFor, sFor.go, frz, wipeR, fYes, startI, fnI, isNon, noer, LIM]; done) | omega | (simp [fnSem, startR, gIsi, ty6, Ty6.is, tru?, gNot, gLe, gLt, gGt, gGe, gCmp, gTru, gBl, gLen, gItems, gFld, gIx, gAdd_int, gSub, gNeg, gTuple, gList, gIsN, gNotN, gPart, gtName, gtTup, gtCons, gtNil, sFor, sFor.go, frz, wipeR, fYes, startI, fnI, isNon, noer, LIM]; omega)) [fnSem, startR, gIsi, ty6, Ty6.is, tru?, gNot, gLe, gLt, gGt, gGe, gCmp, gTru, gBl, gLen, gItems, gFld, gIx, gAdd_int, gSub, gNeg, gTuple, gList, gIsN, gNotN, gPart, gtName, gtTup, gtCons, gtNil, sFor, sFor.go, frz, wipeR, fYes, startI, fnI, isNon, noer, LIM, ite_le, ite_lt, gFdiv_ok, gMod_ok, gRange1_ok, gRange2_ok, gPow_ok, gAddL_ok, gAddT_ok, gAdd_int, fLc, rangeD0, ix0, ix1, ix2, gSl_takeL, gSl_dropL, gSl_takeT, gSl_dropT, map_int, T_bounds_of_1]
  induction n with
  | zero =>
    intro b acc x5 x6 x7 x8 x9 hb hl ha hn k
    refine ⟨.fz (.tup (dI b)), x5, x6, x7, ?_⟩
    rw [show 0 + 1 + k = k + 1 by omega]
    have : ¬ b.length ≤ m := by omega
    simp [fnSem, startR, gIsi, ty6, Ty6.is, tru?, gNot, gLe, gLt, gGt, gGe, gCmp, gTru, gBl, gLen, gItems, gFld, gIx, gAdd_int, gSub, gNeg, gTuple, gList, gIsN, gNotN, gPart, gtName, gtTup, gtCons, gtNil, sFor, sFor.go, frz, wipeR, fYes, startI, fnI, isNon, noer, LIM, sWhile, e, this, bgo]
  | succ n ih =>
    intro b acc x5 x6 x7 x8 x9 hb hl ha hn k
    rw [show n + 1 + 1 + k = (n + 1 + k) + 1 by omega]
    by_cases h : b.length ≤ m
    · obtain ⟨y5, y6, y7, hbody⟩ := bounds_body (m := m) (t := t) hb (by omega) hs acc (by omega) S x5 x6 x7 x8 x9
      obtain ⟨z4, z5, z6, z7, hw⟩ := ih (nextB t s b) (acc ++ [b]) y5 y6 y7 x8 x9 (by intro z; have := congrArg List.length z; rw [nextB_len] at this; simp [fnSem, startR, gIsi, ty6, Ty6.is, tru?, gNot, gLe, gLt, gGt, gGe, gCmp, gTru, gBl, gLen, gItems, gFld, gIx, gAdd_int, gSub, gNeg, gTuple, gList, gIsN, gNotN, gPart, gtName, gtTup, gtCons, gtNil, sFor, sFor.go, frz, wipeR, fYes, startI, fnI, isNon, noer, LIM] at this; omega) (by rw [nextB_len]; omega) (by simp [fnSem, startR, gIsi, ty6, Ty6.is, tru?, gNot, gLe, gLt, gGt, gGe, gCmp, gTru, gBl, gLen, gItems, gFld, gIx, gAdd_int, gSub, gNeg, gTuple, gList, gIsN, gNotN, gPart, gtName, gtTup, gtCons, gtNil, sFor, sFor.go, frz, wipeR, fYes, startI, fnI, isNon, noer, LIM]; omega) (by rw [nextB_len]; omega) k
      refine ⟨z4, z5, z6, z7, ?_⟩
      simp [fnSem, startR, gIsi, ty6, Ty6.is, tru?, gNot, gLe, gLt, gGt, gGe, gCmp, gTru, gBl, gLen, gItems, gFld, gIx, gAdd_int, gSub, gNeg, gTuple, gList, gIsN, gNotN, gPart, gtName, gtTup, gtCons, gtNil, sFor, sFor.go, frz, wipeR, fYes, startI, fnI, isNon, noer, LIM, sWhile, e, h, hbody, hw, bgo]
    · exact ⟨.fz (.tup (dI b)), x5, x6, x7, by simp [fnSem, startR, gIsi, ty6, Ty6.is, tru?, gNot, gLe, gLt, gGt, gGe, gCmp, gTru, gBl, gLen, gItems, gFld, gIx, gAdd_int, gSub, gNeg, gTuple, gList, gIsN, gNotN, gPart, gtName, gtTup, gtCons, gtNil, sFor, sFor.go, frz, wipeR, fYes, startI, fnI, isNon, noer, LIM, sWhile, e, h, bgo]⟩
def bndL (m : Nat) (t : Int) (s : Nat) : List (List Int) := bgo 150 m t s [t]
theorem e_bounds {m : Nat} {t : Int} {s : Nat} (hs1 : 1 ≤ s) (hs : s ≤ 3) (hm : m ≤ 120) (S : Store) : F_bounds_of [.int m, .int t, .int s] S = .ok (.lst (dT (bndL m t s))) S := by
  obtain ⟨y4, y5, y6, y7, h⟩ := bounds_while (t := t) hs1 hs hm S 150 [t] [] .un .un .un .un .un (by simp [fnSem, startR, gIsi, ty6, Ty6.is, tru?, gNot, gLe, gLt, gGt, gGe, gCmp, gTru, gBl, gLen, gItems, gFld, gIx, gAdd_int, gSub, gNeg, gTuple, gList, gIsN, gNotN, gPart, gtName, gtTup, gtCons, gtNil, sFor, sFor.go, frz, wipeR, fYes, startI, fnI, isNon, noer, LIM]) (by simp [fnSem, startR, gIsi, ty6, Ty6.is, tru?, gNot, gLe, gLt, gGt, gGe, gCmp, gTru, gBl, gLen, gItems, gFld, gIx, gAdd_int, gSub, gNeg, gTuple, gList, gIsN, gNotN, gPart, gtName, gtTup, gtCons, gtNil, sFor, sFor.go, frz, wipeR, fYes, startI, fnI, isNon, noer, LIM]) (by simp [fnSem, startR, gIsi, ty6, Ty6.is, tru?, gNot, gLe, gLt, gGt, gGe, gCmp, gTru, gBl, gLen, gItems, gFld, gIx, gAdd_int, gSub, gNeg, gTuple, gList, gIsN, gNotN, gPart, gtName, gtTup, gtCons, gtNil, sFor, sFor.go, frz, wipeR, fYes, startI, fnI, isNon, noer, LIM]) (by simp [fnSem, startR, gIsi, ty6, Ty6.is, tru?, gNot, gLe, gLt, gGt, gGe, gCmp, gTru, gBl, gLen, gItems, gFld, gIx, gAdd_int, gSub, gNeg, gTuple, gList, gIsN, gNotN, gPart, gtName, gtTup, gtCons, gtNil, sFor, sFor.go, frz, wipeR, fYes, startI, fnI, isNon, noer, LIM]; omega) 849
  simp only [List.nil_append, Nat.reduceAdd] at h
  have e : dI [t] = [.int t] := rfl
  rw [e] at h
  have e : dT [] = [] := rfl
  rw [e] at h
  simp [fnSem, startR, gIsi, ty6, Ty6.is, tru?, gNot, gLe, gLt, gGt, gGe, gCmp, gTru, gBl, gLen, gItems, gFld, gIx, gAdd_int, gSub, gNeg, gTuple, gList, gIsN, gNotN, gPart, gtName, gtTup, gtCons, gtNil, sFor, sFor.go, frz, wipeR, fYes, startI, fnI, isNon, noer, LIM, F_bounds_of, S_bounds_of, h, bndL]
/-! ### the law's bounds -/
theorem law_bounds_for {c0 c1 c2 c3 : Sl} {la pa : Int} {x8 : Sl} (S : Store) : ∀ (l : List Int) (b : List Int) (x7 : Sl), (∀ k ∈ l, 0 ≤ k ∧ k ≤ 1000) → b.length + l.length ≤ 1000 →
    ∃ y7, sFor.go (gtName 7) B_law_bounds_1 (dI l) [c0, c1, c2, c3, .fz (.lst (dI b)), .fz (.int la), .fz (.int pa), x7, x8] S = .mk (.nx [c0, c1, c2, c3, .fz (.lst (dI (b ++ l.map fun k => la + pa * (k + 1)))), .fz (.int la), .fz (.int pa), y7, x8]) S := by
  intro l
  induction l with
  | nil => exact fun b x7 _ _ => ⟨x7, by simp [fnSem, startR, gIsi, ty6, Ty6.is, tru?, gNot, gLe, gLt, gGt, gGe, gCmp, gTru, gBl, gLen, gItems, gFld, gIx, gAdd_int, gSub, gNeg, gTuple, gList, gIsN, gNotN, gPart, gtName, gtTup, gtCons, gtNil, sFor, sFor.go, frz, wipeR, fYes, startI, fnI, isNon, noer, LIM]⟩
  | cons k l ih =>
    intro b x7 h hl
    have hk := h k (List.mem_cons_self ..)
    simp [fnSem, startR, gIsi, ty6, Ty6.is, tru?, gNot, gLe, gLt, gGt, gGe, gCmp, gTru, gBl, gLen, gItems, gFld, gIx, gAdd_int, gSub, gNeg, gTuple, gList, gIsN, gNotN, gPart, gtName, gtTup, gtCons, gtNil, sFor, sFor.go, frz, wipeR, fYes, startI, fnI, isNon, noer, LIM] at hl
    obtain ⟨y7, hy⟩ := ih (b ++ [la + pa * (k + 1)]) (.fz (.int k)) (fun n hn => h n (List.mem_cons_of_mem _ hn)) (by simp [fnSem, startR, gIsi, ty6, Ty6.is, tru?, gNot, gLe, gLt, gGt, gGe, gCmp, gTru, gBl, gLen, gItems, gFld, gIx, gAdd_int, gSub, gNeg, gTuple, gList, gIsN, gNotN, gPart, gtName, gtTup, gtCons, gtNil, sFor, sFor.go, frz, wipeR, fYes, startI, fnI, isNon, noer, LIM]; omega)
    refine ⟨y7, ?_⟩
    have hb : B_law_bounds_1 [c0, c1, c2, c3, .fz (.lst (dI b)), .fz (.int la), .fz (.int pa), .fz (.int k), x8] S = .mk (.nx [c0, c1, c2, c3, .fz (.lst (dI (b ++ [la + pa * (k + 1)]))), .fz (.int la), .fz (.int pa), .fz (.int k), x8]) S := by
      simp (discharger := first | (simp [fnSem, startR, gIsi, ty6, Ty6.is, tru?, gNot, gLe, gLt, gGt, gGe, gCmp, gTru, gBl, gLen, gItems, gFld, gIx, gAdd_int, gSub, gNeg, gTuple, gList, gIsN, gNotN, gPart, gtName, gtTup, gtCons, gtNil, sFor, sFor.go, frz, wipeR, fYes, startI, fnI, isNon, noer, LIM]; done) | omega | (simp [fnSem, startR, gIsi, ty6, Ty6.is, tru?, gNot, gLe, gLt, gGt, gGe, gCmp, gTru, gBl, gLen, gItems, gFld, gIx, gAdd_int, gSub, gNeg, gTuple, gList, gIsN, gNotN, gPart, gtName, gtTup, gtCons, gtNil, sFor, sFor.go, frz, wipeR, fYes, startI, fnI, isNon, noer, LIM]; omega)) [fnSem, startR, gIsi, ty6, Ty6.is, tru?, gNot, gLe, gLt, gGt, gGe, gCmp, gTru, gBl, gLen, gItems, gFld, gIx, gAdd_int, gSub, gNeg, gTuple, gList, gIsN, gNotN, gPart, gtName, gtTup, gtCons, gtNil, sFor, sFor.go, frz, wipeR, fYes, startI, fnI, isNon, noer, LIM, ite_le, ite_lt, gFdiv_ok, gMod_ok, gRange1_ok, gRange2_ok, gPow_ok, gAddL_ok, gAddT_ok, gAdd_int, fLc, rangeD0, ix0, ix1, ix2, gSl_takeL, gSl_dropL, gSl_takeT, gSl_dropT, map_int, B_law_bounds_1, gMulR_ok]
    simp [fnSem, startR, gIsi, ty6, Ty6.is, tru?, gNot, gLe, gLt, gGt, gGe, gCmp, gTru, gBl, gLen, gItems, gFld, gIx, gAdd_int, gSub, gNeg, gTuple, gList, gIsN, gNotN, gPart, gtName, gtTup, gtCons, gtNil, sFor, sFor.go, frz, wipeR, fYes, startI, fnI, isNon, noer, LIM, dI_cons, hb, hy]
theorem law_bounds_body {m : Nat} {t : Int} {s : Nat} {b : List Int} (hb : b ≠ []) (hl : b.length ≤ 900) (hs : s ≤ 3) (acc : List (List Int)) (ha : acc.length ≤ 900) (S : Store) (x5 x6 x7 x8 : Sl) :
    ∃ y5 y6 y7, B_law_bounds_2 [.fz (.int m), .fz (.int t), .fz (.int s), .ow (dT acc), .fz (.lst (dI b)), x5, x6, x7, x8] S =
    .mk (.nx [.fz (.int m), .fz (.int t), .fz (.int s), .ow (dT (acc ++ [b])), .fz (.lst (dI (nextB t s b))), y5, y6, y7, x8]) S := by
  have hp : 0 < b.length := List.length_pos_iff.mpr hb
  obtain ⟨y7, e1⟩ := law_bounds_for (c0 := .fz (.int m)) (c1 := .fz (.int t)) (c2 := .fz (.int s)) (c3 := .ow (dT (acc ++ [b]))) (la := lastI b) (pa := lastI b / b.length) (x8 := x8) S ((List.range s).map fun (k : Nat) => (k : Int)) b x7
    (fun k hk => by
      obtain ⟨j, hj, rfl⟩ := List.mem_map.mp hk
      have := List.mem_range.mp hj
      omega) (by simp [fnSem, startR, gIsi, ty6, Ty6.is, tru?, gNot, gLe, gLt, gGt, gGe, gCmp, gTru, gBl, gLen, gItems, gFld, gIx, gAdd_int, gSub, gNeg, gTuple, gList, gIsN, gNotN, gPart, gtName, gtTup, gtCons, gtNil, sFor, sFor.go, frz, wipeR, fYes, startI, fnI, isNon, noer, LIM]; omega)
  have e2 : ∀ (l : List Int), lcL (gtName 8) fYes E_law_bounds_1 [.fz (.int m), .fz (.int t), .fz (.int s), .ow (dT (acc ++ [b])), .fz (.lst (dI l)), .fz (.int (lastI b)), .fz (.int (lastI b / b.length)), y7, .un] (dI l) [] S = .ok (dI (l.map (· + t))) S :=
    fun l => lc_int (· + t) _ fun d hd => ⟨_, rfl, by simp (discharger := first | (simp [fnSem, startR, gIsi, ty6, Ty6.is, tru?, gNot, gLe, gLt, gGt, gGe, gCmp, gTru, gBl, gLen, gItems, gFld, gIx, gAdd_int, gSub, gNeg, gTuple, gList, gIsN, gNotN, gPart, gtName, gtTup, gtCons, gtNil, sFor, sFor.go, frz, wipeR, fYes, startI, fnI, isNon, noer, LIM]; done) | omega | (simp [fnSem, startR, gIsi, ty6, Ty6.is, tru?, gNot, gLe, gLt, gGt, gGe, gCmp, gTru, gBl, gLen, gItems, gFld, gIx, gAdd_int, gSub, gNeg, gTuple, gList, gIsN, gNotN, gPart, gtName, gtTup, gtCons, gtNil, sFor, sFor.go, frz, wipeR, fYes, startI, fnI, isNon, noer, LIM]; omega)) [fnSem, startR, gIsi, ty6, Ty6.is, tru?, gNot, gLe, gLt, gGt, gGe, gCmp, gTru, gBl, gLen, gItems, gFld, gIx, gAdd_int, gSub, gNeg, gTuple, gList, gIsN, gNotN, gPart, gtName, gtTup, gtCons, gtNil, sFor, sFor.go, frz, wipeR, fYes, startI, fnI, isNon, noer, LIM, ite_le, ite_lt, gFdiv_ok, gMod_ok, gRange1_ok, gRange2_ok, gPow_ok, gAddL_ok, gAddT_ok, gAdd_int, fLc, rangeD0, ix0, ix1, ix2, gSl_takeL, gSl_dropL, gSl_takeT, gSl_dropT, map_int, E_law_bounds_1]⟩
  refine ⟨.fz (.int (lastI b)), .fz (.int (lastI b / b.length)), y7, ?_⟩
  simp only [List.map_map, Function.comp_def] at e1
  simp (discharger := first | (simp [fnSem, startR, gIsi, ty6, Ty6.is, tru?, gNot, gLe, gLt, gGt, gGe, gCmp, gTru, gBl, gLen, gItems, gFld, gIx, gAdd_int, gSub, gNeg, gTuple, gList, gIsN, gNotN, gPart, gtName, gtTup, gtCons, gtNil, sFor, sFor.go, frz, wipeR, fYes, startI, fnI, isNon, noer, LIM]; done) | omega | (simp [fnSem, startR, gIsi, ty6, Ty6.is, tru?, gNot, gLe, gLt, gGt, gGe, gCmp, gTru, gBl, gLen, gItems, gFld, gIx, gAdd_int, gSub, gNeg, gTuple, gList, gIsN, gNotN, gPart, gtName, gtTup, gtCons, gtNil, sFor, sFor.go, frz, wipeR, fYes, startI, fnI, isNon, noer, LIM]; omega)) [fnSem, startR, gIsi, ty6, Ty6.is, tru?, gNot, gLe, gLt, gGt, gGe, gCmp, gTru, gBl, gLen, gItems, gFld, gIx, gAdd_int, gSub, gNeg, gTuple, gList, gIsN, gNotN, gPart, gtName, gtTup, gtCons, gtNil, sFor, sFor.go, frz, wipeR, fYes, startI, fnI, isNon, noer, LIM, ite_le, ite_lt, gFdiv_ok, gMod_ok, gRange1_ok, gRange2_ok, gPow_ok, gAddL_ok, gAddT_ok, gAdd_int, fLc, rangeD0, ix0, ix1, ix2, gSl_takeL, gSl_dropL, gSl_takeT, gSl_dropT, map_int, B_law_bounds_2, atI_last hb, nextB, e1, e2]
theorem law_bounds_while {m : Nat} {t : Int} {s : Nat} (hs1 : 1 ≤ s) (hs : s ≤ 3) (hm : m ≤ 120) (S : Store) : ∀ (n : Nat) (b : List Int) (acc : List (List Int)) (x5 x6 x7 x8 : Sl), b ≠ [] → b.length + 3 * n ≤ 900 → acc.length + n ≤ 900 → m + 1 ≤ b.length + n → ∀ k,
    ∃ y4 y5 y6 y7, sWhile (n + 1 + k) T_law_bounds_1 B_law_bounds_2 [.fz (.int m), .fz (.int t), .fz (.int s), .ow (dT acc), .fz (.lst (dI b)), x5, x6, x7, x8] S =
    .mk (.nx [.fz (.int m), .fz (.int t), .fz (.int s), .ow (dT (acc ++ bgo n m t s b)), y4, y5, y6, y7, x8]) S := by
  intro n
  have e : ∀ (b : List Int) (acc : List D) x5 x6 x7 x8, T_law_bounds_1 [.fz (.int m), .fz (.int t), .fz (.int s), .ow acc, .fz (.lst (dI b)), x5, x6, x7, x8] S = .ok (decide (b.length ≤ m)) S := by
    intros
    simp (discharger := first | (simp [fnSem, startR, gIsi, ty6, Ty6.is, tru?, gNot, gLe, gLt, gGt, gGe, gCmp, gTru, gBl, gLen, gItems, gFld, gIx, gAdd_int, gSub, gNeg, gTuple, gList, gIsN, gNotN, gPart, gtName, gtTup, gtCons, gtNil, sFor, sFor.go, frz, wipeR, fYes, startI, fnI, isNon, noer, LIM]; done) | omega | (simp [fnSem, startR, gIsi, ty6, Ty6.is, tru?, gNot, gLe, gLt, gGt, gGe, gCmp, gTru, gBl, gLen, gItems, gFld, gIx, gAdd_int, gSub, gNeg, gTuple, gList, gIsN, gNotN, gPart, gtName, gtTup, gtCons, gtNil, sFor, sFor.go, frz, wipeR, fYes, startI, fnI, isNon, noer, LIM]; omega)) [fnSem, startR, gIsi, ty6, Ty6.is, tru?, gNot, gLe, gLt, gGt, gGe, gCmp, gTru, gBl, gLen, gItems, gFld, gIx, gAdd_int, gSub, gNeg, gTuple, gList, gIsN, gNotN, gPart, gtName, gtTup, gtCons, gtNil, sFor, sFor.go, frz, wipeR, fYes, startI, fnI, isNon, noer, LIM, ite_le, ite_lt, gFdiv_ok, gMod_ok, gRange1_ok, gRange2_ok, gPow_ok, gAddL_ok, gAddT_ok, gAdd_int, fLc, rangeD0, ix0, ix1, ix2, gSl_takeL, gSl_dropL, gSl_takeT, gSl_dropT, map_int, T_law_bounds_1]
  induction n with
  | zero =>
    intro b acc x5 x6 x7 x8 hb hl ha hn k
    refine ⟨.fz (.lst (dI b)), x5, x6, x7, ?_⟩
    rw [show 0 + 1 + k = k + 1 by omega]
    have : ¬ b.length ≤ m := by omega
    simp [fnSem, startR, gIsi, ty6, Ty6.is, tru?, gNot, gLe, gLt, gGt, gGe, gCmp, gTru, gBl, gLen, gItems, gFld, gIx, gAdd_int, gSub, gNeg, gTuple, gList, gIsN, gNotN, gPart, gtName, gtTup, gtCons, gtNil, sFor, sFor.go, frz, wipeR, fYes, startI, fnI, isNon, noer, LIM, sWhile, e, this, bgo]
  | succ n ih =>
    intro b acc x5 x6 x7 x8 hb hl ha hn k
    rw [show n + 1 + 1 + k = (n + 1 + k) + 1 by omega]
    by_cases h : b.length ≤ m
    · obtain ⟨y5, y6, y7, hbody⟩ := law_bounds_body (m := m) (t := t) hb (by omega) hs acc (by omega) S x5 x6 x7 x8
      obtain ⟨z4, z5, z6, z7, hw⟩ := ih (nextB t s b) (acc ++ [b]) y5 y6 y7 x8 (by intro z; have := congrArg List.length z; rw [nextB_len] at this; simp [fnSem, startR, gIsi, ty6, Ty6.is, tru?, gNot, gLe, gLt, gGt, gGe, gCmp, gTru, gBl, gLen, gItems, gFld, gIx, gAdd_int, gSub, gNeg, gTuple, gList, gIsN, gNotN, gPart, gtName, gtTup, gtCons, gtNil, sFor, sFor.go, frz, wipeR, fYes, startI, fnI, isNon, noer, LIM] at this; omega) (by rw [nextB_len]; omega) (by simp [fnSem, startR, gIsi, ty6, Ty6.is, tru?, gNot, gLe, gLt, gGt, gGe, gCmp, gTru, gBl, gLen, gItems, gFld, gIx, gAdd_int, gSub, gNeg, gTuple, gList, gIsN, gNotN, gPart, gtName, gtTup, gtCons, gtNil, sFor, sFor.go, frz, wipeR, fYes, startI, fnI, isNon, noer, LIM]; omega) (by rw [nextB_len]; omega) k
      refine ⟨z4, z5, z6, z7, ?_⟩
      simp [fnSem, startR, gIsi, ty6, Ty6.is, tru?, gNot, gLe, gLt, gGt, gGe, gCmp, gTru, gBl, gLen, gItems, gFld, gIx, gAdd_int, gSub, gNeg, gTuple, gList, gIsN, gNotN, gPart, gtName, gtTup, gtCons, gtNil, sFor, sFor.go, frz, wipeR, fYes, startI, fnI, isNon, noer, LIM, sWhile, e, h, hbody, hw, bgo]
    · exact ⟨.fz (.lst (dI b)), x5, x6, x7, by simp [fnSem, startR, gIsi, ty6, Ty6.is, tru?, gNot, gLe, gLt, gGt, gGe, gCmp, gTru, gBl, gLen, gItems, gFld, gIx, gAdd_int, gSub, gNeg, gTuple, gList, gIsN, gNotN, gPart, gtName, gtTup, gtCons, gtNil, sFor, sFor.go, frz, wipeR, fYes, startI, fnI, isNon, noer, LIM, sWhile, e, h, bgo]⟩
theorem e_law_bounds {m : Nat} {t : Int} {s : Nat} (hs1 : 1 ≤ s) (hs : s ≤ 3) (hm : m ≤ 120) (S : Store) : F_law_bounds [.int m, .int t, .int s] S = .ok (.lst (dT (bndL m t s))) S := by
  obtain ⟨y4, y5, y6, y7, h⟩ := law_bounds_while (t := t) hs1 hs hm S 150 [t] [] .un .un .un .un (by simp [fnSem, startR, gIsi, ty6, Ty6.is, tru?, gNot, gLe, gLt, gGt, gGe, gCmp, gTru, gBl, gLen, gItems, gFld, gIx, gAdd_int, gSub, gNeg, gTuple, gList, gIsN, gNotN, gPart, gtName, gtTup, gtCons, gtNil, sFor, sFor.go, frz, wipeR, fYes, startI, fnI, isNon, noer, LIM]) (by simp [fnSem, startR, gIsi, ty6, Ty6.is, tru?, gNot, gLe, gLt, gGt, gGe, gCmp, gTru, gBl, gLen, gItems, gFld, gIx, gAdd_int, gSub, gNeg, gTuple, gList, gIsN, gNotN, gPart, gtName, gtTup, gtCons, gtNil, sFor, sFor.go, frz, wipeR, fYes, startI, fnI, isNon, noer, LIM]) (by simp [fnSem, startR, gIsi, ty6, Ty6.is, tru?, gNot, gLe, gLt, gGt, gGe, gCmp, gTru, gBl, gLen, gItems, gFld, gIx, gAdd_int, gSub, gNeg, gTuple, gList, gIsN, gNotN, gPart, gtName, gtTup, gtCons, gtNil, sFor, sFor.go, frz, wipeR, fYes, startI, fnI, isNon, noer, LIM]) (by simp [fnSem, startR, gIsi, ty6, Ty6.is, tru?, gNot, gLe, gLt, gGt, gGe, gCmp, gTru, gBl, gLen, gItems, gFld, gIx, gAdd_int, gSub, gNeg, gTuple, gList, gIsN, gNotN, gPart, gtName, gtTup, gtCons, gtNil, sFor, sFor.go, frz, wipeR, fYes, startI, fnI, isNon, noer, LIM]; omega) 849
  simp only [List.nil_append, Nat.reduceAdd] at h
  have e : dI [t] = [.int t] := rfl
  rw [e] at h
  have e : dT [] = [] := rfl
  rw [e] at h
  simp [fnSem, startR, gIsi, ty6, Ty6.is, tru?, gNot, gLe, gLt, gGt, gGe, gCmp, gTru, gBl, gLen, gItems, gFld, gIx, gAdd_int, gSub, gNeg, gTuple, gList, gIsN, gNotN, gPart, gtName, gtTup, gtCons, gtNil, sFor, sFor.go, frz, wipeR, fYes, startI, fnI, isNon, noer, LIM, F_law_bounds, S_law_bounds, h, bndL]

end Bx

namespace Bx
open PySem L2
/-! ### tops, sums -/
def pre : Int → List Int → List Int
  | _, [] => []
  | w, x :: xs => (w + x) :: pre (w + x) xs
theorem pre_len : ∀ (w : Int) (l : List Int), (pre w l).length = l.length
  | _, [] => rfl
  | w, x :: xs => by simp [fnSem, startR, gIsi, ty6, Ty6.is, tru?, gNot, gLe, gLt, gGt, gGe, gCmp, gTru, gBl, gLen, gItems, gFld, gIx, gAdd_int, gSub, gNeg, gTuple, gList, gIsN, gNotN, gPart, gtName, gtTup, gtCons, gtNil, sFor, sFor.go, frz, wipeR, fYes, startI, fnI, isNon, noer, LIM, pre, pre_len]
theorem sortI_len (l : List Int) : (sortI l).length = l.length := (sortI_perm l).length_eq
theorem tops_for {x0 : Sl} (S : Store) : ∀ (l acc : List Int) (w : Int) (x3 : Sl), acc.length + l.length ≤ 1000 →
    ∃ y2 y3, sFor.go (gtName 3) B_tops_of_1 (dI l) [x0, .ow (dI acc), .fz (.int w), x3] S = .mk (.nx [x0, .ow (dI (acc ++ pre w l)), y2, y3]) S := by
  intro l
  induction l with
  | nil => exact fun acc w x3 _ => ⟨.fz (.int w), x3, by simp [fnSem, startR, gIsi, ty6, Ty6.is, tru?, gNot, gLe, gLt, gGt, gGe, gCmp, gTru, gBl, gLen, gItems, gFld, gIx, gAdd_int, gSub, gNeg, gTuple, gList, gIsN, gNotN, gPart, gtName, gtTup, gtCons, gtNil, sFor, sFor.go, frz, wipeR, fYes, startI, fnI, isNon, noer, LIM, gSortedRev, gSorted, pre_len, gRev, gSum, pre]⟩
  | cons a l ih =>
    intro acc w x3 h
    simp [fnSem, startR, gIsi, ty6, Ty6.is, tru?, gNot, gLe, gLt, gGt, gGe, gCmp, gTru, gBl, gLen, gItems, gFld, gIx, gAdd_int, gSub, gNeg, gTuple, gList, gIsN, gNotN, gPart, gtName, gtTup, gtCons, gtNil, sFor, sFor.go, frz, wipeR, fYes, startI, fnI, isNon, noer, LIM, gSortedRev, gSorted, pre_len, gRev, gSum] at h
    obtain ⟨y2, y3, hy⟩ := ih (acc ++ [w + a]) (w + a) (.fz (.int a)) (by simp [fnSem, startR, gIsi, ty6, Ty6.is, tru?, gNot, gLe, gLt, gGt, gGe, gCmp, gTru, gBl, gLen, gItems, gFld, gIx, gAdd_int, gSub, gNeg, gTuple, gList, gIsN, gNotN, gPart, gtName, gtTup, gtCons, gtNil, sFor, sFor.go, frz, wipeR, fYes, startI, fnI, isNon, noer, LIM, gSortedRev, gSorted, pre_len, gRev, gSum]; omega)
    refine ⟨y2, y3, ?_⟩
    have hb : B_tops_of_1 [x0, .ow (dI acc), .fz (.int w), .fz (.int a)] S = .mk (.nx [x0, .ow (dI (acc ++ [w + a])), .fz (.int (w + a)), .fz (.int a)]) S := by
      simp (discharger := first | (simp [fnSem, startR, gIsi, ty6, Ty6.is, tru?, gNot, gLe, gLt, gGt, gGe, gCmp, gTru, gBl, gLen, gItems, gFld, gIx, gAdd_int, gSub, gNeg, gTuple, gList, gIsN, gNotN, gPart, gtName, gtTup, gtCons, gtNil, sFor, sFor.go, frz, wipeR, fYes, startI, fnI, isNon, noer, LIM, gSortedRev, gSorted, pre_len, gRev, gSum]; done) | omega | (simp [fnSem, startR, gIsi, ty6, Ty6.is, tru?, gNot, gLe, gLt, gGt, gGe, gCmp, gTru, gBl, gLen, gItems, gFld, gIx, gAdd_int, gSub, gNeg, gTuple, gList, gIsN, gNotN, gPart, gtName, gtTup, gtCons, gtNil, sFor, sFor.go, frz, wipeR, fYes, startI, fnI, isNon, noer, LIM, gSortedRev, gSorted, pre_len, gRev, gSum]; omega)) [fnSem, startR, gIsi, ty6, Ty6.is, tru?, gNot, gLe, gLt, gGt, gGe, gCmp, gTru, gBl, gLen, gItems, gFld, gIx, gAdd_int, gSub, gNeg, gTuple, gList, gIsN, gNotN, gPart, gtName, gtTup, gtCons, gtNil, sFor, sFor.go, frz, wipeR, fYes, startI, fnI, isNon, noer, LIM, gSortedRev, gSorted, pre_len, gRev, gSum, ite_le, ite_lt, gFdiv_ok, gMod_ok, gRange1_ok, gRange2_ok, gPow_ok, gAddL_ok, gAddT_ok, gAdd_int, fLc, rangeD0, ix0, ix1, ix2, gSl_takeL, gSl_dropL, gSl_takeT, gSl_dropT, map_int, B_tops_of_1]
    simp [fnSem, startR, gIsi, ty6, Ty6.is, tru?, gNot, gLe, gLt, gGt, gGe, gCmp, gTru, gBl, gLen, gItems, gFld, gIx, gAdd_int, gSub, gNeg, gTuple, gList, gIsN, gNotN, gPart, gtName, gtTup, gtCons, gtNil, sFor, sFor.go, frz, wipeR, fYes, startI, fnI, isNon, noer, LIM, gSortedRev, gSorted, pre_len, gRev, gSum, dI_cons, hb, hy, pre]
theorem e_tops {l : List Int} (h : l.length ≤ 200) (S : Store) : F_tops_of [.lst (dI l)] S = .ok (.tup (dI (pre 0 (sortI l).reverse))) S := by
  obtain ⟨y2, y3, h⟩ := tops_for (x0 := .fz (.lst (dI l))) S (sortI l).reverse [] 0 .un (by simp [fnSem, startR, gIsi, ty6, Ty6.is, tru?, gNot, gLe, gLt, gGt, gGe, gCmp, gTru, gBl, gLen, gItems, gFld, gIx, gAdd_int, gSub, gNeg, gTuple, gList, gIsN, gNotN, gPart, gtName, gtTup, gtCons, gtNil, sFor, sFor.go, frz, wipeR, fYes, startI, fnI, isNon, noer, LIM, gSortedRev, gSorted, pre_len, gRev, gSum, sortI_len]; omega)
  simp [fnSem, startR, gIsi, ty6, Ty6.is, tru?, gNot, gLe, gLt, gGt, gGe, gCmp, gTru, gBl, gLen, gItems, gFld, gIx, gAdd_int, gSub, gNeg, gTuple, gList, gIsN, gNotN, gPart, gtName, gtTup, gtCons, gtNil, sFor, sFor.go, frz, wipeR, fYes, startI, fnI, isNon, noer, LIM, gSortedRev, gSorted, pre_len, gRev, gSum] at h
  simp (discharger := first | (simp [fnSem, startR, gIsi, ty6, Ty6.is, tru?, gNot, gLe, gLt, gGt, gGe, gCmp, gTru, gBl, gLen, gItems, gFld, gIx, gAdd_int, gSub, gNeg, gTuple, gList, gIsN, gNotN, gPart, gtName, gtTup, gtCons, gtNil, sFor, sFor.go, frz, wipeR, fYes, startI, fnI, isNon, noer, LIM, gSortedRev, gSorted, pre_len, gRev, gSum]; done) | omega | (simp [fnSem, startR, gIsi, ty6, Ty6.is, tru?, gNot, gLe, gLt, gGt, gGe, gCmp, gTru, gBl, gLen, gItems, gFld, gIx, gAdd_int, gSub, gNeg, gTuple, gList, gIsN, gNotN, gPart, gtName, gtTup, gtCons, gtNil, sFor, sFor.go, frz, wipeR, fYes, startI, fnI, isNon, noer, LIM, gSortedRev, gSorted, pre_len, gRev, gSum]; omega)) [fnSem, startR, gIsi, ty6, Ty6.is, tru?, gNot, gLe, gLt, gGt, gGe, gCmp, gTru, gBl, gLen, gItems, gFld, gIx, gAdd_int, gSub, gNeg, gTuple, gList, gIsN, gNotN, gPart, gtName, gtTup, gtCons, gtNil, sFor, sFor.go, frz, wipeR, fYes, startI, fnI, isNon, noer, LIM, gSortedRev, gSorted, pre_len, gRev, gSum, ite_le, ite_lt, gFdiv_ok, gMod_ok, gRange1_ok, gRange2_ok, gPow_ok, gAddL_ok, gAddT_ok, gAdd_int, fLc, rangeD0, ix0, ix1, ix2, gSl_takeL, gSl_dropL, gSl_takeT, gSl_dropT, map_int, F_tops_of, S_tops_of, h]
/-- the told sums -/
def rowD (l b : List Int) : D := .tup [.int b.length, .tup (dI (pre 0 (sortI (l.take b.length)).reverse)), .tup (dI b)]
theorem sums_for {l : List Int} {x1 x2 : Sl} (hl : l.length ≤ 200) (S : Store) : ∀ (B : List (List Int)) (acc : List D) (x4 : Sl), acc.length + B.length ≤ 1000 →
    ∃ y4, sFor.go (gtName 4) B_sums_of_1 (dT B) [.fz (.lst (dI l)), x1, x2, .ow acc, x4] S = .mk (.nx [.fz (.lst (dI l)), x1, x2, .ow (acc ++ B.map (rowD l)), y4]) S := by
  intro B
  induction B with
  | nil => exact fun acc x4 _ => ⟨x4, by simp [fnSem, startR, gIsi, ty6, Ty6.is, tru?, gNot, gLe, gLt, gGt, gGe, gCmp, gTru, gBl, gLen, gItems, gFld, gIx, gAdd_int, gSub, gNeg, gTuple, gList, gIsN, gNotN, gPart, gtName, gtTup, gtCons, gtNil, sFor, sFor.go, frz, wipeR, fYes, startI, fnI, isNon, noer, LIM, gSortedRev, gSorted, pre_len, gRev, gSum, dT]⟩
  | cons b B ih =>
    intro acc x4 h
    simp [fnSem, startR, gIsi, ty6, Ty6.is, tru?, gNot, gLe, gLt, gGt, gGe, gCmp, gTru, gBl, gLen, gItems, gFld, gIx, gAdd_int, gSub, gNeg, gTuple, gList, gIsN, gNotN, gPart, gtName, gtTup, gtCons, gtNil, sFor, sFor.go, frz, wipeR, fYes, startI, fnI, isNon, noer, LIM, gSortedRev, gSorted, pre_len, gRev, gSum] at h
    obtain ⟨y4, hy⟩ := ih (acc ++ [rowD l b]) (.fz (.tup (dI b))) (by simp [fnSem, startR, gIsi, ty6, Ty6.is, tru?, gNot, gLe, gLt, gGt, gGe, gCmp, gTru, gBl, gLen, gItems, gFld, gIx, gAdd_int, gSub, gNeg, gTuple, gList, gIsN, gNotN, gPart, gtName, gtTup, gtCons, gtNil, sFor, sFor.go, frz, wipeR, fYes, startI, fnI, isNon, noer, LIM, gSortedRev, gSorted, pre_len, gRev, gSum]; omega)
    refine ⟨y4, ?_⟩
    have hb : B_sums_of_1 [.fz (.lst (dI l)), x1, x2, .ow acc, .fz (.tup (dI b))] S = .mk (.nx [.fz (.lst (dI l)), x1, x2, .ow (acc ++ [rowD l b]), .fz (.tup (dI b))]) S := by
      simp (discharger := first | (simp [fnSem, startR, gIsi, ty6, Ty6.is, tru?, gNot, gLe, gLt, gGt, gGe, gCmp, gTru, gBl, gLen, gItems, gFld, gIx, gAdd_int, gSub, gNeg, gTuple, gList, gIsN, gNotN, gPart, gtName, gtTup, gtCons, gtNil, sFor, sFor.go, frz, wipeR, fYes, startI, fnI, isNon, noer, LIM, gSortedRev, gSorted, pre_len, gRev, gSum]; done) | omega | (simp [fnSem, startR, gIsi, ty6, Ty6.is, tru?, gNot, gLe, gLt, gGt, gGe, gCmp, gTru, gBl, gLen, gItems, gFld, gIx, gAdd_int, gSub, gNeg, gTuple, gList, gIsN, gNotN, gPart, gtName, gtTup, gtCons, gtNil, sFor, sFor.go, frz, wipeR, fYes, startI, fnI, isNon, noer, LIM, gSortedRev, gSorted, pre_len, gRev, gSum]; omega)) [fnSem, startR, gIsi, ty6, Ty6.is, tru?, gNot, gLe, gLt, gGt, gGe, gCmp, gTru, gBl, gLen, gItems, gFld, gIx, gAdd_int, gSub, gNeg, gTuple, gList, gIsN, gNotN, gPart, gtName, gtTup, gtCons, gtNil, sFor, sFor.go, frz, wipeR, fYes, startI, fnI, isNon, noer, LIM, gSortedRev, gSorted, pre_len, gRev, gSum, ite_le, ite_lt, gFdiv_ok, gMod_ok, gRange1_ok, gRange2_ok, gPow_ok, gAddL_ok, gAddT_ok, gAdd_int, fLc, rangeD0, ix0, ix1, ix2, gSl_takeL, gSl_dropL, gSl_takeT, gSl_dropT, map_int, B_sums_of_1, e_tops, rowD]
    simp [fnSem, startR, gIsi, ty6, Ty6.is, tru?, gNot, gLe, gLt, gGt, gGe, gCmp, gTru, gBl, gLen, gItems, gFld, gIx, gAdd_int, gSub, gNeg, gTuple, gList, gIsN, gNotN, gPart, gtName, gtTup, gtCons, gtNil, sFor, sFor.go, frz, wipeR, fYes, startI, fnI, isNon, noer, LIM, gSortedRev, gSorted, pre_len, gRev, gSum, dT, hb]
    simp [fnSem, startR, gIsi, ty6, Ty6.is, tru?, gNot, gLe, gLt, gGt, gGe, gCmp, gTru, gBl, gLen, gItems, gFld, gIx, gAdd_int, gSub, gNeg, gTuple, gList, gIsN, gNotN, gPart, gtName, gtTup, gtCons, gtNil, sFor, sFor.go, frz, wipeR, fYes, startI, fnI, isNon, noer, LIM, gSortedRev, gSorted, pre_len, gRev, gSum, dT] at hy
    exact hy
theorem bgo_len : ∀ (n m : Nat) (t : Int) (s : Nat) (b : List Int), (bgo n m t s b).length ≤ n
  | 0, _, _, _, _ => by simp [fnSem, startR, gIsi, ty6, Ty6.is, tru?, gNot, gLe, gLt, gGt, gGe, gCmp, gTru, gBl, gLen, gItems, gFld, gIx, gAdd_int, gSub, gNeg, gTuple, gList, gIsN, gNotN, gPart, gtName, gtTup, gtCons, gtNil, sFor, sFor.go, frz, wipeR, fYes, startI, fnI, isNon, noer, LIM, gSortedRev, gSorted, pre_len, gRev, gSum, bgo]
  | n + 1, m, t, s, b => by
    unfold bgo
    split
    · simp [fnSem, startR, gIsi, ty6, Ty6.is, tru?, gNot, gLe, gLt, gGt, gGe, gCmp, gTru, gBl, gLen, gItems, gFld, gIx, gAdd_int, gSub, gNeg, gTuple, gList, gIsN, gNotN, gPart, gtName, gtTup, gtCons, gtNil, sFor, sFor.go, frz, wipeR, fYes, startI, fnI, isNon, noer, LIM, gSortedRev, gSorted, pre_len, gRev, gSum]; exact bgo_len n m t s _
    · simp [fnSem, startR, gIsi, ty6, Ty6.is, tru?, gNot, gLe, gLt, gGt, gGe, gCmp, gTru, gBl, gLen, gItems, gFld, gIx, gAdd_int, gSub, gNeg, gTuple, gList, gIsN, gNotN, gPart, gtName, gtTup, gtCons, gtNil, sFor, sFor.go, frz, wipeR, fYes, startI, fnI, isNon, noer, LIM, gSortedRev, gSorted, pre_len, gRev, gSum]
theorem bnd_len (m : Nat) (t : Int) (s : Nat) : (bndL m t s).length ≤ 150 := bgo_len _ _ _ _ _
def sumsD (l : List Int) (t : Int) (s : Nat) : List D := (bndL l.length t s).map (rowD l)
theorem e_sums_of {l : List Int} {t : Int} {s : Nat} (hl : l.length ≤ 120) (hs1 : 1 ≤ s) (hs : s ≤ 3) (S : Store) : F_sums_of [.lst (dI l), .int t, .int s] S = .ok (.lst (sumsD l t s)) S := by
  have := bnd_len l.length t s
  obtain ⟨y4, h⟩ := sums_for (l := l) (x1 := .fz (.int t)) (x2 := .fz (.int s)) (by omega) S (bndL l.length t s) [] .un (by simp [fnSem, startR, gIsi, ty6, Ty6.is, tru?, gNot, gLe, gLt, gGt, gGe, gCmp, gTru, gBl, gLen, gItems, gFld, gIx, gAdd_int, gSub, gNeg, gTuple, gList, gIsN, gNotN, gPart, gtName, gtTup, gtCons, gtNil, sFor, sFor.go, frz, wipeR, fYes, startI, fnI, isNon, noer, LIM, gSortedRev, gSorted, pre_len, gRev, gSum]; omega)
  simp [fnSem, startR, gIsi, ty6, Ty6.is, tru?, gNot, gLe, gLt, gGt, gGe, gCmp, gTru, gBl, gLen, gItems, gFld, gIx, gAdd_int, gSub, gNeg, gTuple, gList, gIsN, gNotN, gPart, gtName, gtTup, gtCons, gtNil, sFor, sFor.go, frz, wipeR, fYes, startI, fnI, isNon, noer, LIM, gSortedRev, gSorted, pre_len, gRev, gSum] at h
  simp (discharger := first | (simp [fnSem, startR, gIsi, ty6, Ty6.is, tru?, gNot, gLe, gLt, gGt, gGe, gCmp, gTru, gBl, gLen, gItems, gFld, gIx, gAdd_int, gSub, gNeg, gTuple, gList, gIsN, gNotN, gPart, gtName, gtTup, gtCons, gtNil, sFor, sFor.go, frz, wipeR, fYes, startI, fnI, isNon, noer, LIM, gSortedRev, gSorted, pre_len, gRev, gSum]; done) | omega | (simp [fnSem, startR, gIsi, ty6, Ty6.is, tru?, gNot, gLe, gLt, gGt, gGe, gCmp, gTru, gBl, gLen, gItems, gFld, gIx, gAdd_int, gSub, gNeg, gTuple, gList, gIsN, gNotN, gPart, gtName, gtTup, gtCons, gtNil, sFor, sFor.go, frz, wipeR, fYes, startI, fnI, isNon, noer, LIM, gSortedRev, gSorted, pre_len, gRev, gSum]; omega)) [fnSem, startR, gIsi, ty6, Ty6.is, tru?, gNot, gLe, gLt, gGt, gGe, gCmp, gTru, gBl, gLen, gItems, gFld, gIx, gAdd_int, gSub, gNeg, gTuple, gList, gIsN, gNotN, gPart, gtName, gtTup, gtCons, gtNil, sFor, sFor.go, frz, wipeR, fYes, startI, fnI, isNon, noer, LIM, gSortedRev, gSorted, pre_len, gRev, gSum, ite_le, ite_lt, gFdiv_ok, gMod_ok, gRange1_ok, gRange2_ok, gPow_ok, gAddL_ok, gAddT_ok, gAdd_int, fLc, rangeD0, ix0, ix1, ix2, gSl_takeL, gSl_dropL, gSl_takeT, gSl_dropT, map_int, F_sums_of, S_sums_of, e_bounds hs1 hs hl, h, sumsD]
/-! the law's -/
theorem pre_get : ∀ (l : List Int) (w : Int), pre w l = (List.range l.length).map fun k => w + (l.take (k + 1)).sum
  | [], w => rfl
  | x :: l, w => by
    simp only [pre, List.length_cons, List.range_succ_eq_map, List.map_cons, List.map_map, pre_get l (w + x)]
    simp [fnSem, startR, gIsi, ty6, Ty6.is, tru?, gNot, gLe, gLt, gGt, gGe, gCmp, gTru, gBl, gLen, gItems, gFld, gIx, gAdd_int, gSub, gNeg, gTuple, gList, gIsN, gNotN, gPart, gtName, gtTup, gtCons, gtNil, sFor, sFor.go, frz, wipeR, fYes, startI, fnI, isNon, noer, LIM, gSortedRev, gSorted, pre_len, gRev, gSum]
    intro a _
    omega
theorem law_sums_body {l b : List Int} {x0 x1 x2 : Sl} (hl : l.length ≤ 200) (hs : l.Pairwise (· ≤ ·)) (acc : List D) (ha : acc.length ≤ 300) (x6 x7 : Sl) (S : Store) :
    ∃ y6, B_law_sums_1 [x0, x1, x2, .fz (.lst (dI l)), .ow acc, .fz (.tup (dI b)), x6, x7] S = .mk (.nx [x0, x1, x2, .fz (.lst (dI l)), .ow (acc ++ [rowD l b]), .fz (.tup (dI b)), y6, x7]) S := by
  refine ⟨.fz (.lst (dI (l.take b.length).reverse)), ?_⟩
  have e1 : sortI (l.take b.length) = l.take b.length := (sortI_is (.refl _) (hs.sublist (List.take_sublist _ _))).symm
  have e2 : ∀ m : List Int, m.length ≤ 200 → lcL (gtName 7) fYes E_law_sums_1 [x0, x1, x2, .fz (.lst (dI l)), .ow acc, .fz (.tup (dI b)), .fz (.lst (dI m)), .un] (dI ((List.range m.length).map fun (k : Nat) => (k : Int))) [] S = .ok (dI (pre 0 m)) S := by
    intro m hm
    rw [lc_int (fun k => (m.take (k + 1).toNat).sum) _ fun d hd => ?_]
    · rw [pre_get]
      simp [fnSem, startR, gIsi, ty6, Ty6.is, tru?, gNot, gLe, gLt, gGt, gGe, gCmp, gTru, gBl, gLen, gItems, gFld, gIx, gAdd_int, gSub, gNeg, gTuple, gList, gIsN, gNotN, gPart, gtName, gtTup, gtCons, gtNil, sFor, sFor.go, frz, wipeR, fYes, startI, fnI, isNon, noer, LIM, gSortedRev, gSorted, pre_len, gRev, gSum]
      congr 1
    · obtain ⟨k, hk, rfl⟩ := List.mem_map.mp hd
      exact ⟨_, rfl, by simp (discharger := first | (simp [fnSem, startR, gIsi, ty6, Ty6.is, tru?, gNot, gLe, gLt, gGt, gGe, gCmp, gTru, gBl, gLen, gItems, gFld, gIx, gAdd_int, gSub, gNeg, gTuple, gList, gIsN, gNotN, gPart, gtName, gtTup, gtCons, gtNil, sFor, sFor.go, frz, wipeR, fYes, startI, fnI, isNon, noer, LIM, gSortedRev, gSorted, pre_len, gRev, gSum]; done) | omega | (simp [fnSem, startR, gIsi, ty6, Ty6.is, tru?, gNot, gLe, gLt, gGt, gGe, gCmp, gTru, gBl, gLen, gItems, gFld, gIx, gAdd_int, gSub, gNeg, gTuple, gList, gIsN, gNotN, gPart, gtName, gtTup, gtCons, gtNil, sFor, sFor.go, frz, wipeR, fYes, startI, fnI, isNon, noer, LIM, gSortedRev, gSorted, pre_len, gRev, gSum]; omega)) [fnSem, startR, gIsi, ty6, Ty6.is, tru?, gNot, gLe, gLt, gGt, gGe, gCmp, gTru, gBl, gLen, gItems, gFld, gIx, gAdd_int, gSub, gNeg, gTuple, gList, gIsN, gNotN, gPart, gtName, gtTup, gtCons, gtNil, sFor, sFor.go, frz, wipeR, fYes, startI, fnI, isNon, noer, LIM, gSortedRev, gSorted, pre_len, gRev, gSum, ite_le, ite_lt, gFdiv_ok, gMod_ok, gRange1_ok, gRange2_ok, gPow_ok, gAddL_ok, gAddT_ok, gAdd_int, fLc, rangeD0, ix0, ix1, ix2, gSl_takeL, gSl_dropL, gSl_takeT, gSl_dropT, map_int, E_law_sums_1]⟩
  have e3 := e2 (l.take b.length).reverse (by simp [fnSem, startR, gIsi, ty6, Ty6.is, tru?, gNot, gLe, gLt, gGt, gGe, gCmp, gTru, gBl, gLen, gItems, gFld, gIx, gAdd_int, gSub, gNeg, gTuple, gList, gIsN, gNotN, gPart, gtName, gtTup, gtCons, gtNil, sFor, sFor.go, frz, wipeR, fYes, startI, fnI, isNon, noer, LIM, gSortedRev, gSorted, pre_len, gRev, gSum]; omega)
  simp [fnSem, startR, gIsi, ty6, Ty6.is, tru?, gNot, gLe, gLt, gGt, gGe, gCmp, gTru, gBl, gLen, gItems, gFld, gIx, gAdd_int, gSub, gNeg, gTuple, gList, gIsN, gNotN, gPart, gtName, gtTup, gtCons, gtNil, sFor, sFor.go, frz, wipeR, fYes, startI, fnI, isNon, noer, LIM, gSortedRev, gSorted, pre_len, gRev, gSum] at e3
  simp (discharger := first | (simp [fnSem, startR, gIsi, ty6, Ty6.is, tru?, gNot, gLe, gLt, gGt, gGe, gCmp, gTru, gBl, gLen, gItems, gFld, gIx, gAdd_int, gSub, gNeg, gTuple, gList, gIsN, gNotN, gPart, gtName, gtTup, gtCons, gtNil, sFor, sFor.go, frz, wipeR, fYes, startI, fnI, isNon, noer, LIM, gSortedRev, gSorted, pre_len, gRev, gSum]; done) | omega | (simp [fnSem, startR, gIsi, ty6, Ty6.is, tru?, gNot, gLe, gLt, gGt, gGe, gCmp, gTru, gBl, gLen, gItems, gFld, gIx, gAdd_int, gSub, gNeg, gTuple, gList, gIsN, gNotN, gPart, gtName, gtTup, gtCons, gtNil, sFor, sFor.go, frz, wipeR, fYes, startI, fnI, isNon, noer, LIM, gSortedRev, gSorted, pre_len, gRev, gSum]; omega)) [fnSem, startR, gIsi, ty6, Ty6.is, tru?, gNot, gLe, gLt, gGt, gGe, gCmp, gTru, gBl, gLen, gItems, gFld, gIx, gAdd_int, gSub, gNeg, gTuple, gList, gIsN, gNotN, gPart, gtName, gtTup, gtCons, gtNil, sFor, sFor.go, frz, wipeR, fYes, startI, fnI, isNon, noer, LIM, gSortedRev, gSorted, pre_len, gRev, gSum, ite_le, ite_lt, gFdiv_ok, gMod_ok, gRange1_ok, gRange2_ok, gPow_ok, gAddL_ok, gAddT_ok, gAdd_int, fLc, rangeD0, ix0, ix1, ix2, gSl_takeL, gSl_dropL, gSl_takeT, gSl_dropT, map_int, B_law_sums_1, e3, rowD, e1]
theorem law_sums_for {l : List Int} {x0 x1 x2 x7 : Sl} (hl : l.length ≤ 200) (hs : l.Pairwise (· ≤ ·)) (S : Store) : ∀ (B : List (List Int)) (acc : List D) (x5 x6 : Sl), acc.length + B.length ≤ 300 →
    ∃ y5 y6, sFor.go (gtName 5) B_law_sums_1 (dT B) [x0, x1, x2, .fz (.lst (dI l)), .ow acc, x5, x6, x7] S = .mk (.nx [x0, x1, x2, .fz (.lst (dI l)), .ow (acc ++ B.map (rowD l)), y5, y6, x7]) S := by
  intro B
  induction B with
  | nil => exact fun acc x5 x6 _ => ⟨x5, x6, by simp [fnSem, startR, gIsi, ty6, Ty6.is, tru?, gNot, gLe, gLt, gGt, gGe, gCmp, gTru, gBl, gLen, gItems, gFld, gIx, gAdd_int, gSub, gNeg, gTuple, gList, gIsN, gNotN, gPart, gtName, gtTup, gtCons, gtNil, sFor, sFor.go, frz, wipeR, fYes, startI, fnI, isNon, noer, LIM, gSortedRev, gSorted, pre_len, gRev, gSum, dT]⟩
  | cons b B ih =>
    intro acc x5 x6 h
    simp [fnSem, startR, gIsi, ty6, Ty6.is, tru?, gNot, gLe, gLt, gGt, gGe, gCmp, gTru, gBl, gLen, gItems, gFld, gIx, gAdd_int, gSub, gNeg, gTuple, gList, gIsN, gNotN, gPart, gtName, gtTup, gtCons, gtNil, sFor, sFor.go, frz, wipeR, fYes, startI, fnI, isNon, noer, LIM, gSortedRev, gSorted, pre_len, gRev, gSum] at h
    obtain ⟨z6, hb⟩ := law_sums_body (b := b) (x0 := x0) (x1 := x1) (x2 := x2) hl hs acc (by omega) x6 x7 S
    obtain ⟨y5, y6, hy⟩ := ih (acc ++ [rowD l b]) (.fz (.tup (dI b))) z6 (by simp [fnSem, startR, gIsi, ty6, Ty6.is, tru?, gNot, gLe, gLt, gGt, gGe, gCmp, gTru, gBl, gLen, gItems, gFld, gIx, gAdd_int, gSub, gNeg, gTuple, gList, gIsN, gNotN, gPart, gtName, gtTup, gtCons, gtNil, sFor, sFor.go, frz, wipeR, fYes, startI, fnI, isNon, noer, LIM, gSortedRev, gSorted, pre_len, gRev, gSum]; omega)
    refine ⟨y5, y6, ?_⟩
    simp [fnSem, startR, gIsi, ty6, Ty6.is, tru?, gNot, gLe, gLt, gGt, gGe, gCmp, gTru, gBl, gLen, gItems, gFld, gIx, gAdd_int, gSub, gNeg, gTuple, gList, gIsN, gNotN, gPart, gtName, gtTup, gtCons, gtNil, sFor, sFor.go, frz, wipeR, fYes, startI, fnI, isNon, noer, LIM, gSortedRev, gSorted, pre_len, gRev, gSum, dT, hb]
    simp [fnSem, startR, gIsi, ty6, Ty6.is, tru?, gNot, gLe, gLt, gGt, gGe, gCmp, gTru, gBl, gLen, gItems, gFld, gIx, gAdd_int, gSub, gNeg, gTuple, gList, gIsN, gNotN, gPart, gtName, gtTup, gtCons, gtNil, sFor, sFor.go, frz, wipeR, fYes, startI, fnI, isNon, noer, LIM, gSortedRev, gSorted, pre_len, gRev, gSum, dT] at hy
    exact hy
theorem e_law_sums {l : List Int} {t : Int} {s : Nat} (hl : l.length ≤ 120) (hs1 : 1 ≤ s) (hs : s ≤ 3) (S : Store) : F_law_sums [.lst (dI l), .int t, .int s] S = .ok (.lst (sumsD (sortI l) t s)) S := by
  have := bnd_len l.length t s
  obtain ⟨y5, y6, h⟩ := law_sums_for (l := sortI l) (x0 := .fz (.lst (dI l))) (x1 := .fz (.int t)) (x2 := .fz (.int s)) (x7 := .un) (by rw [sortI_len]; omega) (sortI_sorted l) S (bndL l.length t s) [] .un .un (by simp [fnSem, startR, gIsi, ty6, Ty6.is, tru?, gNot, gLe, gLt, gGt, gGe, gCmp, gTru, gBl, gLen, gItems, gFld, gIx, gAdd_int, gSub, gNeg, gTuple, gList, gIsN, gNotN, gPart, gtName, gtTup, gtCons, gtNil, sFor, sFor.go, frz, wipeR, fYes, startI, fnI, isNon, noer, LIM, gSortedRev, gSorted, pre_len, gRev, gSum]; omega)
  simp [fnSem, startR, gIsi, ty6, Ty6.is, tru?, gNot, gLe, gLt, gGt, gGe, gCmp, gTru, gBl, gLen, gItems, gFld, gIx, gAdd_int, gSub, gNeg, gTuple, gList, gIsN, gNotN, gPart, gtName, gtTup, gtCons, gtNil, sFor, sFor.go, frz, wipeR, fYes, startI, fnI, isNon, noer, LIM, gSortedRev, gSorted, pre_len, gRev, gSum] at h
  simp (discharger := first | (simp [fnSem, startR, gIsi, ty6, Ty6.is, tru?, gNot, gLe, gLt, gGt, gGe, gCmp, gTru, gBl, gLen, gItems, gFld, gIx, gAdd_int, gSub, gNeg, gTuple, gList, gIsN, gNotN, gPart, gtName, gtTup, gtCons, gtNil, sFor, sFor.go, frz, wipeR, fYes, startI, fnI, isNon, noer, LIM, gSortedRev, gSorted, pre_len, gRev, gSum]; done) | omega | (simp [fnSem, startR, gIsi, ty6, Ty6.is, tru?, gNot, gLe, gLt, gGt, gGe, gCmp, gTru, gBl, gLen, gItems, gFld, gIx, gAdd_int, gSub, gNeg, gTuple, gList, gIsN, gNotN, gPart, gtName, gtTup, gtCons, gtNil, sFor, sFor.go, frz, wipeR, fYes, startI, fnI, isNon, noer, LIM, gSortedRev, gSorted, pre_len, gRev, gSum]; omega)) [fnSem, startR, gIsi, ty6, Ty6.is, tru?, gNot, gLe, gLt, gGt, gGe, gCmp, gTru, gBl, gLen, gItems, gFld, gIx, gAdd_int, gSub, gNeg, gTuple, gList, gIsN, gNotN, gPart, gtName, gtTup, gtCons, gtNil, sFor, sFor.go, frz, wipeR, fYes, startI, fnI, isNon, noer, LIM, gSortedRev, gSorted, pre_len, gRev, gSum, ite_le, ite_lt, gFdiv_ok, gMod_ok, gRange1_ok, gRange2_ok, gPow_ok, gAddL_ok, gAddT_ok, gAdd_int, fLc, rangeD0, ix0, ix1, ix2, gSl_takeL, gSl_dropL, gSl_takeT, gSl_dropT, map_int, F_law_sums, S_law_sums, sortI_len, e_law_bounds hs1 hs hl, h, sumsD]

end Bx

namespace Bx
open PySem L2
/-! ### turns -/
def ovr (a b : List Int) : Int := maxL (0 :: List.zipWith (fun x y => x - y) a b)
theorem getD_get {l : List Int} {j : Nat} (h : j < l.length) : l.getD j 0 = l[j] := by
  rw [List.getD_eq_getElem?_getD, List.getElem?_eq_getElem h]
  rfl
theorem zip_sub : ∀ a b : List Int, (((dI a).zip (dI b)).map fun p => D.tup [p.1, p.2]).map (fun d => match d with | .tup [.int x, .int y] => D.int (x - y) | d => d) = dI (List.zipWith (fun x y => x - y) a b)
  | [], b => by simp [fnSem, startR, gIsi, ty6, Ty6.is, tru?, gNot, gLe, gLt, gGt, gGe, gCmp, gTru, gBl, gLen, gItems, gFld, gIx, gAdd_int, gSub, gNeg, gTuple, gList, gIsN, gNotN, gPart, gtName, gtTup, gtCons, gtNil, sFor, sFor.go, frz, wipeR, fYes, startI, fnI, isNon, noer, LIM, gSortedRev, gSorted, pre_len, gRev, gSum, gZip, gEnumA, gMax]
  | a :: as, [] => by simp [fnSem, startR, gIsi, ty6, Ty6.is, tru?, gNot, gLe, gLt, gGt, gGe, gCmp, gTru, gBl, gLen, gItems, gFld, gIx, gAdd_int, gSub, gNeg, gTuple, gList, gIsN, gNotN, gPart, gtName, gtTup, gtCons, gtNil, sFor, sFor.go, frz, wipeR, fYes, startI, fnI, isNon, noer, LIM, gSortedRev, gSorted, pre_len, gRev, gSum, gZip, gEnumA, gMax]
  | a :: as, b :: bs => by
    rw [dI_cons, dI_cons, List.zip_cons_cons, List.map_cons, List.map_cons, zip_sub as bs]
    rfl
theorem e_over {a b : List Int} (ha : a.length ≤ 200) (S : Store) : F_over [.tup (dI a), .tup (dI b)] S = .ok (.int (ovr a b)) S := by
  have e : lcL (gtTup 2 (gtCons (gtName 2) (gtCons (gtName 3) gtNil))) fYes E_over_1 [.fz (.tup (dI a)), .fz (.tup (dI b)), .un, .un] (((dI a).zip (dI b)).map fun p => .tup [p.1, p.2]) [] S = .ok (dI (List.zipWith (fun x y => x - y) a b)) S := by
    rw [lc_map (fun d => match d with | .tup [.int x, .int y] => D.int (x - y) | d => d) _ _ fun d hd => ?_]
    · rw [zip_sub, List.nil_append]
    · obtain ⟨p, hp, rfl⟩ := List.mem_map.mp hd
      obtain ⟨x, y⟩ := p
      have h1 := List.of_mem_zip hp
      obtain ⟨x', _, e1⟩ := List.mem_map.mp h1.1
      obtain ⟨y', _, e2⟩ := List.mem_map.mp h1.2
      subst e1 e2
      exact ⟨_, rfl, by simp (discharger := first | (simp [fnSem, startR, gIsi, ty6, Ty6.is, tru?, gNot, gLe, gLt, gGt, gGe, gCmp, gTru, gBl, gLen, gItems, gFld, gIx, gAdd_int, gSub, gNeg, gTuple, gList, gIsN, gNotN, gPart, gtName, gtTup, gtCons, gtNil, sFor, sFor.go, frz, wipeR, fYes, startI, fnI, isNon, noer, LIM, gSortedRev, gSorted, pre_len, gRev, gSum, gZip, gEnumA, gMax]; done) | omega | (simp [fnSem, startR, gIsi, ty6, Ty6.is, tru?, gNot, gLe, gLt, gGt, gGe, gCmp, gTru, gBl, gLen, gItems, gFld, gIx, gAdd_int, gSub, gNeg, gTuple, gList, gIsN, gNotN, gPart, gtName, gtTup, gtCons, gtNil, sFor, sFor.go, frz, wipeR, fYes, startI, fnI, isNon, noer, LIM, gSortedRev, gSorted, pre_len, gRev, gSum, gZip, gEnumA, gMax]; omega)) [fnSem, startR, gIsi, ty6, Ty6.is, tru?, gNot, gLe, gLt, gGt, gGe, gCmp, gTru, gBl, gLen, gItems, gFld, gIx, gAdd_int, gSub, gNeg, gTuple, gList, gIsN, gNotN, gPart, gtName, gtTup, gtCons, gtNil, sFor, sFor.go, frz, wipeR, fYes, startI, fnI, isNon, noer, LIM, gSortedRev, gSorted, pre_len, gRev, gSum, gZip, gEnumA, gMax, ite_le, ite_lt, gFdiv_ok, gMod_ok, gRange1_ok, gRange2_ok, gPow_ok, gAddL_ok, gAddT_ok, gAdd_int, fLc, rangeD0, ix0, ix1, ix2, gSl_takeL, gSl_dropL, gSl_takeT, gSl_dropT, map_int, E_over_1]⟩
  have c : ((dI a).zip (dI b)).length ≤ 200 := by simp [fnSem, startR, gIsi, ty6, Ty6.is, tru?, gNot, gLe, gLt, gGt, gGe, gCmp, gTru, gBl, gLen, gItems, gFld, gIx, gAdd_int, gSub, gNeg, gTuple, gList, gIsN, gNotN, gPart, gtName, gtTup, gtCons, gtNil, sFor, sFor.go, frz, wipeR, fYes, startI, fnI, isNon, noer, LIM, gSortedRev, gSorted, pre_len, gRev, gSum, gZip, gEnumA, gMax]; omega
  simp [fnSem, startR, gIsi, ty6, Ty6.is, tru?, gNot, gLe, gLt, gGt, gGe, gCmp, gTru, gBl, gLen, gItems, gFld, gIx, gAdd_int, gSub, gNeg, gTuple, gList, gIsN, gNotN, gPart, gtName, gtTup, gtCons, gtNil, sFor, sFor.go, frz, wipeR, fYes, startI, fnI, isNon, noer, LIM, gSortedRev, gSorted, pre_len, gRev, gSum, gZip, gEnumA, gMax] at c
  have e0 : D.int 0 :: dI (List.zipWith (fun x y => x - y) a b) = dI (0 :: List.zipWith (fun x y => x - y) a b) := rfl
  simp (discharger := first | (simp [fnSem, startR, gIsi, ty6, Ty6.is, tru?, gNot, gLe, gLt, gGt, gGe, gCmp, gTru, gBl, gLen, gItems, gFld, gIx, gAdd_int, gSub, gNeg, gTuple, gList, gIsN, gNotN, gPart, gtName, gtTup, gtCons, gtNil, sFor, sFor.go, frz, wipeR, fYes, startI, fnI, isNon, noer, LIM, gSortedRev, gSorted, pre_len, gRev, gSum, gZip, gEnumA, gMax]; done) | omega | (simp [fnSem, startR, gIsi, ty6, Ty6.is, tru?, gNot, gLe, gLt, gGt, gGe, gCmp, gTru, gBl, gLen, gItems, gFld, gIx, gAdd_int, gSub, gNeg, gTuple, gList, gIsN, gNotN, gPart, gtName, gtTup, gtCons, gtNil, sFor, sFor.go, frz, wipeR, fYes, startI, fnI, isNon, noer, LIM, gSortedRev, gSorted, pre_len, gRev, gSum, gZip, gEnumA, gMax]; omega)) [fnSem, startR, gIsi, ty6, Ty6.is, tru?, gNot, gLe, gLt, gGt, gGe, gCmp, gTru, gBl, gLen, gItems, gFld, gIx, gAdd_int, gSub, gNeg, gTuple, gList, gIsN, gNotN, gPart, gtName, gtTup, gtCons, gtNil, sFor, sFor.go, frz, wipeR, fYes, startI, fnI, isNon, noer, LIM, gSortedRev, gSorted, pre_len, gRev, gSum, gZip, gEnumA, gMax, ite_le, ite_lt, gFdiv_ok, gMod_ok, gRange1_ok, gRange2_ok, gPow_ok, gAddL_ok, gAddT_ok, gAdd_int, fLc, rangeD0, ix0, ix1, ix2, gSl_takeL, gSl_dropL, gSl_takeT, gSl_dropT, map_int, F_over, S_over, e, e0, ovr]
theorem ovr_zero {a b : List Int} (h : a.length = b.length) : ovr a b = 0 ↔ ∀ j, j < a.length → a.getD j 0 ≤ b.getD j 0 := by
  constructor
  · intro e j hj
    have h1 : (List.zipWith (fun x y => x - y) a b)[j]'(by simp [fnSem, startR, gIsi, ty6, Ty6.is, tru?, gNot, gLe, gLt, gGt, gGe, gCmp, gTru, gBl, gLen, gItems, gFld, gIx, gAdd_int, gSub, gNeg, gTuple, gList, gIsN, gNotN, gPart, gtName, gtTup, gtCons, gtNil, sFor, sFor.go, frz, wipeR, fYes, startI, fnI, isNon, noer, LIM, gSortedRev, gSorted, pre_len, gRev, gSum, gZip, gEnumA, gMax]; omega) ∈ (0 :: List.zipWith (fun x y => x - y) a b) := List.mem_cons_of_mem _ (List.getElem_mem _)
    have h2 := maxL_ge _ h1
    unfold ovr at e
    rw [e] at h2
    simp [fnSem, startR, gIsi, ty6, Ty6.is, tru?, gNot, gLe, gLt, gGt, gGe, gCmp, gTru, gBl, gLen, gItems, gFld, gIx, gAdd_int, gSub, gNeg, gTuple, gList, gIsN, gNotN, gPart, gtName, gtTup, gtCons, gtNil, sFor, sFor.go, frz, wipeR, fYes, startI, fnI, isNon, noer, LIM, gSortedRev, gSorted, pre_len, gRev, gSum, gZip, gEnumA, gMax] at h2
    rw [getD_get hj, getD_get (by omega)]
    omega
  · intro k
    have h1 : 0 ≤ ovr a b := maxL_ge _ (List.mem_cons_self ..)
    have h2 := maxL_mem (l := 0 :: List.zipWith (fun x y => x - y) a b) (by simp [fnSem, startR, gIsi, ty6, Ty6.is, tru?, gNot, gLe, gLt, gGt, gGe, gCmp, gTru, gBl, gLen, gItems, gFld, gIx, gAdd_int, gSub, gNeg, gTuple, gList, gIsN, gNotN, gPart, gtName, gtTup, gtCons, gtNil, sFor, sFor.go, frz, wipeR, fYes, startI, fnI, isNon, noer, LIM, gSortedRev, gSorted, pre_len, gRev, gSum, gZip, gEnumA, gMax])
    unfold ovr at h1 ⊢
    rcases List.mem_cons.mp h2 with z | z
    · exact z
    · obtain ⟨j, hj, e⟩ := List.getElem_of_mem z
      have hj2 : j < a.length := by simp [fnSem, startR, gIsi, ty6, Ty6.is, tru?, gNot, gLe, gLt, gGt, gGe, gCmp, gTru, gBl, gLen, gItems, gFld, gIx, gAdd_int, gSub, gNeg, gTuple, gList, gIsN, gNotN, gPart, gtName, gtTup, gtCons, gtNil, sFor, sFor.go, frz, wipeR, fYes, startI, fnI, isNon, noer, LIM, gSortedRev, gSorted, pre_len, gRev, gSum, gZip, gEnumA, gMax] at hj; omega
      have := k j hj2
      rw [getD_get hj2, getD_get (by omega)] at this
      simp [fnSem, startR, gIsi, ty6, Ty6.is, tru?, gNot, gLe, gLt, gGt, gGe, gCmp, gTru, gBl, gLen, gItems, gFld, gIx, gAdd_int, gSub, gNeg, gTuple, gList, gIsN, gNotN, gPart, gtName, gtTup, gtCons, gtNil, sFor, sFor.go, frz, wipeR, fYes, startI, fnI, isNon, noer, LIM, gSortedRev, gSorted, pre_len, gRev, gSum, gZip, gEnumA, gMax] at e
      omega
def topsL (l b : List Int) : List Int := pre 0 (sortI (l.take b.length)).reverse
def fits (l b : List Int) : Bool := decide (ovr (topsL l b) b = 0)
def fstF (l : List Int) : Nat → List (List Int) → Option Nat
  | _, [] => none
  | k, b :: B => if fits l b then some k else fstF l (k + 1) B
def resD : Option Nat → D
  | none => .non
  | some k => .int ((k : Int) + 1)
theorem rowD_eq (l b : List Int) : rowD l b = .tup [.int b.length, .tup (dI (topsL l b)), .tup (dI b)] := rfl
theorem topsL_len (l b : List Int) : (topsL l b).length = min b.length l.length := by
  unfold topsL
  simp [fnSem, startR, gIsi, ty6, Ty6.is, tru?, gNot, gLe, gLt, gGt, gGe, gCmp, gTru, gBl, gLen, gItems, gFld, gIx, gAdd_int, gSub, gNeg, gTuple, gList, gIsN, gNotN, gPart, gtName, gtTup, gtCons, gtNil, sFor, sFor.go, frz, wipeR, fYes, startI, fnI, isNon, noer, LIM, gSortedRev, gSorted, pre_len, gRev, gSum, gZip, gEnumA, gMax, sortI_len]
theorem turns_for {l : List Int} {x0 x1 x2 : Sl} (hl : l.length ≤ 200) (S : Store) : ∀ (B : List (List Int)) (k : Nat) (x3 x4 : Sl),
    ∃ y3 y4, sFor.go (gtTup 2 (gtCons (gtName 3) (gtCons (gtName 4) gtNil))) B_turns_of_1 (((B.map (rowD l)).zipIdx k).map fun p => .tup [.int p.2, p.1]) [x0, x1, x2, x3, x4] S =
      (match fstF l k B with
      | none => .mk (.nx [x0, x1, x2, y3, y4]) S
      | some j => .mk (.rt (.int ((j : Int) + 1))) S) := by
  intro B
  induction B with
  | nil => exact fun k x3 x4 => ⟨x3, x4, by simp [fnSem, startR, gIsi, ty6, Ty6.is, tru?, gNot, gLe, gLt, gGt, gGe, gCmp, gTru, gBl, gLen, gItems, gFld, gIx, gAdd_int, gSub, gNeg, gTuple, gList, gIsN, gNotN, gPart, gtName, gtTup, gtCons, gtNil, sFor, sFor.go, frz, wipeR, fYes, startI, fnI, isNon, noer, LIM, gSortedRev, gSorted, pre_len, gRev, gSum, gZip, gEnumA, gMax, fstF]⟩
  | cons b B ih =>
    intro k x3 x4
    have ht := topsL_len l b
    have hb : B_turns_of_1 [x0, x1, x2, .fz (.int k), .fz (rowD l b)] S = if fits l b then .mk (.rt (.int ((k : Int) + 1))) S else .mk (.nx [x0, x1, x2, .fz (.int k), .fz (rowD l b)]) S := by
      rw [rowD_eq]
      simp (discharger := first | (simp [fnSem, startR, gIsi, ty6, Ty6.is, tru?, gNot, gLe, gLt, gGt, gGe, gCmp, gTru, gBl, gLen, gItems, gFld, gIx, gAdd_int, gSub, gNeg, gTuple, gList, gIsN, gNotN, gPart, gtName, gtTup, gtCons, gtNil, sFor, sFor.go, frz, wipeR, fYes, startI, fnI, isNon, noer, LIM, gSortedRev, gSorted, pre_len, gRev, gSum, gZip, gEnumA, gMax]; done) | omega | (simp [fnSem, startR, gIsi, ty6, Ty6.is, tru?, gNot, gLe, gLt, gGt, gGe, gCmp, gTru, gBl, gLen, gItems, gFld, gIx, gAdd_int, gSub, gNeg, gTuple, gList, gIsN, gNotN, gPart, gtName, gtTup, gtCons, gtNil, sFor, sFor.go, frz, wipeR, fYes, startI, fnI, isNon, noer, LIM, gSortedRev, gSorted, pre_len, gRev, gSum, gZip, gEnumA, gMax]; omega)) [fnSem, startR, gIsi, ty6, Ty6.is, tru?, gNot, gLe, gLt, gGt, gGe, gCmp, gTru, gBl, gLen, gItems, gFld, gIx, gAdd_int, gSub, gNeg, gTuple, gList, gIsN, gNotN, gPart, gtName, gtTup, gtCons, gtNil, sFor, sFor.go, frz, wipeR, fYes, startI, fnI, isNon, noer, LIM, gSortedRev, gSorted, pre_len, gRev, gSum, gZip, gEnumA, gMax, ite_le, ite_lt, gFdiv_ok, gMod_ok, gRange1_ok, gRange2_ok, gPow_ok, gAddL_ok, gAddT_ok, gAdd_int, fLc, rangeD0, ix0, ix1, ix2, gSl_takeL, gSl_dropL, gSl_takeT, gSl_dropT, map_int, B_turns_of_1, e_over, fits]
    obtain ⟨y3, y4, hy⟩ := ih (k + 1) (.fz (.int k)) (.fz (rowD l b))
    refine ⟨y3, y4, ?_⟩
    simp only [List.map_cons, List.zipIdx_cons]
    by_cases hf : fits l b
    · simp [fnSem, startR, gIsi, ty6, Ty6.is, tru?, gNot, gLe, gLt, gGt, gGe, gCmp, gTru, gBl, gLen, gItems, gFld, gIx, gAdd_int, gSub, gNeg, gTuple, gList, gIsN, gNotN, gPart, gtName, gtTup, gtCons, gtNil, sFor, sFor.go, frz, wipeR, fYes, startI, fnI, isNon, noer, LIM, gSortedRev, gSorted, pre_len, gRev, gSum, gZip, gEnumA, gMax, hb, hf, fstF]
    · simp [fnSem, startR, gIsi, ty6, Ty6.is, tru?, gNot, gLe, gLt, gGt, gGe, gCmp, gTru, gBl, gLen, gItems, gFld, gIx, gAdd_int, gSub, gNeg, gTuple, gList, gIsN, gNotN, gPart, gtName, gtTup, gtCons, gtNil, sFor, sFor.go, frz, wipeR, fYes, startI, fnI, isNon, noer, LIM, gSortedRev, gSorted, pre_len, gRev, gSum, gZip, gEnumA, gMax, hb, hf, fstF]
      exact hy
def turnsO (l : List Int) (t : Int) (s : Nat) : Option Nat := fstF l 0 (bndL l.length t s)
theorem e_turns_of {l : List Int} {t : Int} {s : Nat} (hl : l.length ≤ 120) (hs1 : 1 ≤ s) (hs : s ≤ 3) (S : Store) : F_turns_of [.lst (dI l), .int t, .int s] S = .ok (resD (turnsO (sortI l) t s)) S := by
  obtain ⟨y3, y4, h⟩ := turns_for (l := sortI l) (x0 := .fz (.lst (dI l))) (x1 := .fz (.int t)) (x2 := .fz (.int s)) (by rw [sortI_len]; omega) S (bndL (sortI l).length t s) 0 .un .un
  have e := e_sums_of (l := sortI l) (t := t) (s := s) (by rw [sortI_len]; exact hl) hs1 hs S
  unfold sumsD at e
  simp (discharger := first | (simp [fnSem, startR, gIsi, ty6, Ty6.is, tru?, gNot, gLe, gLt, gGt, gGe, gCmp, gTru, gBl, gLen, gItems, gFld, gIx, gAdd_int, gSub, gNeg, gTuple, gList, gIsN, gNotN, gPart, gtName, gtTup, gtCons, gtNil, sFor, sFor.go, frz, wipeR, fYes, startI, fnI, isNon, noer, LIM, gSortedRev, gSorted, pre_len, gRev, gSum, gZip, gEnumA, gMax]; done) | omega | (simp [fnSem, startR, gIsi, ty6, Ty6.is, tru?, gNot, gLe, gLt, gGt, gGe, gCmp, gTru, gBl, gLen, gItems, gFld, gIx, gAdd_int, gSub, gNeg, gTuple, gList, gIsN, gNotN, gPart, gtName, gtTup, gtCons, gtNil, sFor, sFor.go, frz, wipeR, fYes, startI, fnI, isNon, noer, LIM, gSortedRev, gSorted, pre_len, gRev, gSum, gZip, gEnumA, gMax]; omega)) [fnSem, startR, gIsi, ty6, Ty6.is, tru?, gNot, gLe, gLt, gGt, gGe, gCmp, gTru, gBl, gLen, gItems, gFld, gIx, gAdd_int, gSub, gNeg, gTuple, gList, gIsN, gNotN, gPart, gtName, gtTup, gtCons, gtNil, sFor, sFor.go, frz, wipeR, fYes, startI, fnI, isNon, noer, LIM, gSortedRev, gSorted, pre_len, gRev, gSum, gZip, gEnumA, gMax, ite_le, ite_lt, gFdiv_ok, gMod_ok, gRange1_ok, gRange2_ok, gPow_ok, gAddL_ok, gAddT_ok, gAdd_int, fLc, rangeD0, ix0, ix1, ix2, gSl_takeL, gSl_dropL, gSl_takeT, gSl_dropT, map_int, F_turns_of, S_turns_of, e, h]
  unfold turnsO
  cases fstF (sortI l) 0 (bndL (sortI l).length t s) <;> simp [fnSem, startR, gIsi, ty6, Ty6.is, tru?, gNot, gLe, gLt, gGt, gGe, gCmp, gTru, gBl, gLen, gItems, gFld, gIx, gAdd_int, gSub, gNeg, gTuple, gList, gIsN, gNotN, gPart, gtName, gtTup, gtCons, gtNil, sFor, sFor.go, frz, wipeR, fYes, startI, fnI, isNon, noer, LIM, gSortedRev, gSorted, pre_len, gRev, gSum, gZip, gEnumA, gMax, resD]

end Bx

namespace Bx
open PySem L2
/-! ### the law's turns -/
theorem bgo_mem : ∀ (n m : Nat) (t : Int) (s : Nat) (b c : List Int), c ∈ bgo n m t s b → c.length ≤ m
  | 0, _, _, _, _, _ => by simp [fnSem, startR, gIsi, ty6, Ty6.is, tru?, gNot, gLe, gLt, gGt, gGe, gCmp, gTru, gBl, gLen, gItems, gFld, gIx, gAdd_int, gSub, gNeg, gTuple, gList, gIsN, gNotN, gPart, gtName, gtTup, gtCons, gtNil, sFor, sFor.go, frz, wipeR, fYes, startI, fnI, isNon, noer, LIM, gSortedRev, gSorted, pre_len, gRev, gSum, gZip, gEnumA, gMax, bgo]
  | n + 1, m, t, s, b, c => by
    unfold bgo
    split
    · rename_i h
      intro hc
      rcases List.mem_cons.mp hc with rfl | hc
      · exact h
      · exact bgo_mem n m t s _ c hc
    · simp [fnSem, startR, gIsi, ty6, Ty6.is, tru?, gNot, gLe, gLt, gGt, gGe, gCmp, gTru, gBl, gLen, gItems, gFld, gIx, gAdd_int, gSub, gNeg, gTuple, gList, gIsN, gNotN, gPart, gtName, gtTup, gtCons, gtNil, sFor, sFor.go, frz, wipeR, fYes, startI, fnI, isNon, noer, LIM, gSortedRev, gSorted, pre_len, gRev, gSum, gZip, gEnumA, gMax]
theorem bnd_mem {m : Nat} {t : Int} {s : Nat} {b : List Int} (h : b ∈ bndL m t s) : b.length ≤ m := bgo_mem _ _ _ _ _ _ h
theorem fits_filter {l b : List Int} (h : b.length ≤ l.length) : (((List.range b.length).map fun (k : Nat) => (k : Int)).filter fun j => decide (b.getD j.toNat 0 < (topsL l b).getD j.toNat 0)) = [] ↔ fits l b = true := by
  have ht := topsL_len l b
  unfold fits
  rw [decide_eq_true_iff, ovr_zero (by omega), List.filter_eq_nil_iff]
  constructor
  · intro k j hj
    have := k (j : Int) (List.mem_map.mpr ⟨j, List.mem_range.mpr (by omega), rfl⟩)
    simp [fnSem, startR, gIsi, ty6, Ty6.is, tru?, gNot, gLe, gLt, gGt, gGe, gCmp, gTru, gBl, gLen, gItems, gFld, gIx, gAdd_int, gSub, gNeg, gTuple, gList, gIsN, gNotN, gPart, gtName, gtTup, gtCons, gtNil, sFor, sFor.go, frz, wipeR, fYes, startI, fnI, isNon, noer, LIM, gSortedRev, gSorted, pre_len, gRev, gSum, gZip, gEnumA, gMax] at this
    simpa [fnSem, startR, gIsi, ty6, Ty6.is, tru?, gNot, gLe, gLt, gGt, gGe, gCmp, gTru, gBl, gLen, gItems, gFld, gIx, gAdd_int, gSub, gNeg, gTuple, gList, gIsN, gNotN, gPart, gtName, gtTup, gtCons, gtNil, sFor, sFor.go, frz, wipeR, fYes, startI, fnI, isNon, noer, LIM, gSortedRev, gSorted, pre_len, gRev, gSum, gZip, gEnumA, gMax] using this
  · intro k j hj
    obtain ⟨i, hi, rfl⟩ := List.mem_map.mp hj
    have := k i (by have := List.mem_range.mp hi; omega)
    simp [fnSem, startR, gIsi, ty6, Ty6.is, tru?, gNot, gLe, gLt, gGt, gGe, gCmp, gTru, gBl, gLen, gItems, gFld, gIx, gAdd_int, gSub, gNeg, gTuple, gList, gIsN, gNotN, gPart, gtName, gtTup, gtCons, gtNil, sFor, sFor.go, frz, wipeR, fYes, startI, fnI, isNon, noer, LIM, gSortedRev, gSorted, pre_len, gRev, gSum, gZip, gEnumA, gMax] at this ⊢
    exact this
theorem law_turns_body {l b : List Int} {P Q : List D} {x0 x1 x2 x3 x4 : Sl} (hb : b.length ≤ l.length) (hl : l.length ≤ 200) (x7 x8 x9 x10 : Sl) (S : Store) :
    ∃ y7 y8 y9, B_law_turns_1 [x0, x1, x2, x3, x4, .fz (.lst (P ++ rowD l b :: Q)), .fz (.int P.length), x7, x8, x9, x10] S =
      if fits l b then .mk (.rt (.int ((P.length : Int) + 1))) S else .mk (.nx [x0, x1, x2, x3, x4, .fz (.lst (P ++ rowD l b :: Q)), .fz (.int P.length), y7, y8, y9, x10]) S := by
  have ht := topsL_len l b
  refine ⟨.fz (.int b.length), .fz (.tup (dI (topsL l b))), .fz (.tup (dI b)), ?_⟩
  have e0 : atI (P ++ rowD l b :: Q) (P.length : Int) = some (rowD l b) := by
    rw [atI_nat (by omega) (by simp [fnSem, startR, gIsi, ty6, Ty6.is, tru?, gNot, gLe, gLt, gGt, gGe, gCmp, gTru, gBl, gLen, gItems, gFld, gIx, gAdd_int, gSub, gNeg, gTuple, gList, gIsN, gNotN, gPart, gtName, gtTup, gtCons, gtNil, sFor, sFor.go, frz, wipeR, fYes, startI, fnI, isNon, noer, LIM, gSortedRev, gSorted, pre_len, gRev, gSum, gZip, gEnumA, gMax]; omega)]
    simp [fnSem, startR, gIsi, ty6, Ty6.is, tru?, gNot, gLe, gLt, gGt, gGe, gCmp, gTru, gBl, gLen, gItems, gFld, gIx, gAdd_int, gSub, gNeg, gTuple, gList, gIsN, gNotN, gPart, gtName, gtTup, gtCons, gtNil, sFor, sFor.go, frz, wipeR, fYes, startI, fnI, isNon, noer, LIM, gSortedRev, gSorted, pre_len, gRev, gSum, gZip, gEnumA, gMax]
  have e1 : lcL (gtName 10) T_law_turns_1 E_law_turns_1 [x0, x1, x2, x3, x4, .fz (.lst (P ++ rowD l b :: Q)), .fz (.int P.length), .fz (.int b.length), .fz (.tup (dI (topsL l b))), .fz (.tup (dI b)), .un] (dI ((List.range b.length).map fun (k : Nat) => (k : Int))) [] S =
      .ok (dI (((List.range b.length).map fun (k : Nat) => (k : Int)).filter fun j => decide (b.getD j.toNat 0 < (topsL l b).getD j.toNat 0))) S := by
    rw [lc_intF (fun j => decide (b.getD j.toNat 0 < (topsL l b).getD j.toNat 0)) (fun j => j) _ fun d hd => ?_]
    · simp [fnSem, startR, gIsi, ty6, Ty6.is, tru?, gNot, gLe, gLt, gGt, gGe, gCmp, gTru, gBl, gLen, gItems, gFld, gIx, gAdd_int, gSub, gNeg, gTuple, gList, gIsN, gNotN, gPart, gtName, gtTup, gtCons, gtNil, sFor, sFor.go, frz, wipeR, fYes, startI, fnI, isNon, noer, LIM, gSortedRev, gSorted, pre_len, gRev, gSum, gZip, gEnumA, gMax]
    · obtain ⟨k, hk, rfl⟩ := List.mem_map.mp hd
      have hk := List.mem_range.mp hk
      refine ⟨_, rfl, ?_, ?_⟩
      · simp [fnSem, startR, gIsi, ty6, Ty6.is, tru?, gNot, gLe, gLt, gGt, gGe, gCmp, gTru, gBl, gLen, gItems, gFld, gIx, gAdd_int, gSub, gNeg, gTuple, gList, gIsN, gNotN, gPart, gtName, gtTup, gtCons, gtNil, sFor, sFor.go, frz, wipeR, fYes, startI, fnI, isNon, noer, LIM, gSortedRev, gSorted, pre_len, gRev, gSum, gZip, gEnumA, gMax, T_law_turns_1, atI_dI (l := topsL l b) (i := (k : Int)) (by omega) (by omega), atI_dI (l := b) (i := (k : Int)) (by omega) (by omega)]
      · simp [fnSem, startR, gIsi, ty6, Ty6.is, tru?, gNot, gLe, gLt, gGt, gGe, gCmp, gTru, gBl, gLen, gItems, gFld, gIx, gAdd_int, gSub, gNeg, gTuple, gList, gIsN, gNotN, gPart, gtName, gtTup, gtCons, gtNil, sFor, sFor.go, frz, wipeR, fYes, startI, fnI, isNon, noer, LIM, gSortedRev, gSorted, pre_len, gRev, gSum, gZip, gEnumA, gMax, E_law_turns_1]
  have e2 : ∀ f : List Int, gEq (.lst (dI f)) (.lst []) S = .ok (.bl (decide (f = []))) S := fun f => gEq_lsts f [] S
  rw [rowD_eq] at e0 e1
  simp only [rowD_eq]
  simp (discharger := first | (simp [fnSem, startR, gIsi, ty6, Ty6.is, tru?, gNot, gLe, gLt, gGt, gGe, gCmp, gTru, gBl, gLen, gItems, gFld, gIx, gAdd_int, gSub, gNeg, gTuple, gList, gIsN, gNotN, gPart, gtName, gtTup, gtCons, gtNil, sFor, sFor.go, frz, wipeR, fYes, startI, fnI, isNon, noer, LIM, gSortedRev, gSorted, pre_len, gRev, gSum, gZip, gEnumA, gMax]; done) | omega | (simp [fnSem, startR, gIsi, ty6, Ty6.is, tru?, gNot, gLe, gLt, gGt, gGe, gCmp, gTru, gBl, gLen, gItems, gFld, gIx, gAdd_int, gSub, gNeg, gTuple, gList, gIsN, gNotN, gPart, gtName, gtTup, gtCons, gtNil, sFor, sFor.go, frz, wipeR, fYes, startI, fnI, isNon, noer, LIM, gSortedRev, gSorted, pre_len, gRev, gSum, gZip, gEnumA, gMax]; omega)) [fnSem, startR, gIsi, ty6, Ty6.is, tru?, gNot, gLe, gLt, gGt, gGe, gCmp, gTru, gBl, gLen, gItems, gFld, gIx, gAdd_int, gSub, gNeg, gTuple, gList, gIsN, gNotN, gPart, gtName, gtTup, gtCons, gtNil, sFor, sFor.go, frz, wipeR, fYes, startI, fnI, isNon, noer, LIM, gSortedRev, gSorted, pre_len, gRev, gSum, gZip, gEnumA, gMax, ite_le, ite_lt, gFdiv_ok, gMod_ok, gRange1_ok, gRange2_ok, gPow_ok, gAddL_ok, gAddT_ok, gAdd_int, fLc, rangeD0, ix0, ix1, ix2, gSl_takeL, gSl_dropL, gSl_takeT, gSl_dropT, map_int, B_law_turns_1, e0, e1, e2]
  by_cases hf : fits l b = true
  · have := (fits_filter hb).mpr hf
    rw [if_pos hf]
    rw [if_pos (by simpa [fnSem, startR, gIsi, ty6, Ty6.is, tru?, gNot, gLe, gLt, gGt, gGe, gCmp, gTru, gBl, gLen, gItems, gFld, gIx, gAdd_int, gSub, gNeg, gTuple, gList, gIsN, gNotN, gPart, gtName, gtTup, gtCons, gtNil, sFor, sFor.go, frz, wipeR, fYes, startI, fnI, isNon, noer, LIM, gSortedRev, gSorted, pre_len, gRev, gSum, gZip, gEnumA, gMax] using this)]
  · have : ¬ _ := fun z => hf ((fits_filter hb).mp z)
    rw [if_neg hf]
    rw [if_neg (by simpa [fnSem, startR, gIsi, ty6, Ty6.is, tru?, gNot, gLe, gLt, gGt, gGe, gCmp, gTru, gBl, gLen, gItems, gFld, gIx, gAdd_int, gSub, gNeg, gTuple, gList, gIsN, gNotN, gPart, gtName, gtTup, gtCons, gtNil, sFor, sFor.go, frz, wipeR, fYes, startI, fnI, isNon, noer, LIM, gSortedRev, gSorted, pre_len, gRev, gSum, gZip, gEnumA, gMax] using this)]
theorem law_turns_for {l : List Int} {x0 x1 x2 x3 x4 x10 : Sl} {R : List D} (hl : l.length ≤ 200) (S : Store) : ∀ (B : List (List Int)) (P : List D) (x6 x7 x8 x9 : Sl), (∀ b ∈ B, b.length ≤ l.length) → R = P ++ B.map (rowD l) →
    ∃ y6 y7 y8 y9, sFor.go (gtName 6) B_law_turns_1 (dI ((List.range' P.length B.length).map fun (k : Nat) => (k : Int))) [x0, x1, x2, x3, x4, .fz (.lst R), x6, x7, x8, x9, x10] S =
      (match fstF l P.length B with
      | none => .mk (.nx [x0, x1, x2, x3, x4, .fz (.lst R), y6, y7, y8, y9, x10]) S
      | some j => .mk (.rt (.int ((j : Int) + 1))) S) := by
  intro B
  induction B with
  | nil => exact fun P x6 x7 x8 x9 _ _ => ⟨x6, x7, x8, x9, by simp [fnSem, startR, gIsi, ty6, Ty6.is, tru?, gNot, gLe, gLt, gGt, gGe, gCmp, gTru, gBl, gLen, gItems, gFld, gIx, gAdd_int, gSub, gNeg, gTuple, gList, gIsN, gNotN, gPart, gtName, gtTup, gtCons, gtNil, sFor, sFor.go, frz, wipeR, fYes, startI, fnI, isNon, noer, LIM, gSortedRev, gSorted, pre_len, gRev, gSum, gZip, gEnumA, gMax, fstF]⟩
  | cons b B ih =>
    intro P x6 x7 x8 x9 h e
    simp only [List.map_cons] at e
    obtain ⟨z7, z8, z9, hb⟩ := law_turns_body (l := l) (b := b) (P := P) (Q := B.map (rowD l)) (x0 := x0) (x1 := x1) (x2 := x2) (x3 := x3) (x4 := x4) (h b (List.mem_cons_self ..)) hl x7 x8 x9 x10 S
    obtain ⟨y6, y7, y8, y9, hy⟩ := ih (P ++ [rowD l b]) (.fz (.int P.length)) z7 z8 z9 (fun c hc => h c (List.mem_cons_of_mem _ hc)) (by simp [fnSem, startR, gIsi, ty6, Ty6.is, tru?, gNot, gLe, gLt, gGt, gGe, gCmp, gTru, gBl, gLen, gItems, gFld, gIx, gAdd_int, gSub, gNeg, gTuple, gList, gIsN, gNotN, gPart, gtName, gtTup, gtCons, gtNil, sFor, sFor.go, frz, wipeR, fYes, startI, fnI, isNon, noer, LIM, gSortedRev, gSorted, pre_len, gRev, gSum, gZip, gEnumA, gMax, e])
    refine ⟨y6, y7, y8, y9, ?_⟩
    rw [← e] at hb
    simp only [List.length_cons, List.range'_succ, List.map_cons, dI_cons]
    by_cases hf : fits l b
    · simp [fnSem, startR, gIsi, ty6, Ty6.is, tru?, gNot, gLe, gLt, gGt, gGe, gCmp, gTru, gBl, gLen, gItems, gFld, gIx, gAdd_int, gSub, gNeg, gTuple, gList, gIsN, gNotN, gPart, gtName, gtTup, gtCons, gtNil, sFor, sFor.go, frz, wipeR, fYes, startI, fnI, isNon, noer, LIM, gSortedRev, gSorted, pre_len, gRev, gSum, gZip, gEnumA, gMax, hb, hf, fstF]
    · simp [fnSem, startR, gIsi, ty6, Ty6.is, tru?, gNot, gLe, gLt, gGt, gGe, gCmp, gTru, gBl, gLen, gItems, gFld, gIx, gAdd_int, gSub, gNeg, gTuple, gList, gIsN, gNotN, gPart, gtName, gtTup, gtCons, gtNil, sFor, sFor.go, frz, wipeR, fYes, startI, fnI, isNon, noer, LIM, gSortedRev, gSorted, pre_len, gRev, gSum, gZip, gEnumA, gMax, hb, hf, fstF]
      simp [fnSem, startR, gIsi, ty6, Ty6.is, tru?, gNot, gLe, gLt, gGt, gGe, gCmp, gTru, gBl, gLen, gItems, gFld, gIx, gAdd_int, gSub, gNeg, gTuple, gList, gIsN, gNotN, gPart, gtName, gtTup, gtCons, gtNil, sFor, sFor.go, frz, wipeR, fYes, startI, fnI, isNon, noer, LIM, gSortedRev, gSorted, pre_len, gRev, gSum, gZip, gEnumA, gMax] at hy
      exact hy
/-- what is left -/
def leftL (bx : List Int) (s : Nat) (w : Bool) : List Int := if w then (sortI bx).drop s else sortI bx
def who (w : Bool) : D := .str (if w then "striker" else "taker")
theorem leftL_sorted (bx : List Int) (s : Nat) (w : Bool) : (leftL bx s w).Pairwise (· ≤ ·) := by
  unfold leftL
  split
  · exact (sortI_sorted bx).sublist (List.drop_sublist _ _)
  · exact sortI_sorted bx
theorem leftL_len (bx : List Int) (s : Nat) (w : Bool) : (leftL bx s w).length ≤ bx.length := by
  unfold leftL
  split <;> simp [fnSem, startR, gIsi, ty6, Ty6.is, tru?, gNot, gLe, gLt, gGt, gGe, gCmp, gTru, gBl, gLen, gItems, gFld, gIx, gAdd_int, gSub, gNeg, gTuple, gList, gIsN, gNotN, gPart, gtName, gtTup, gtCons, gtNil, sFor, sFor.go, frz, wipeR, fYes, startI, fnI, isNon, noer, LIM, gSortedRev, gSorted, pre_len, gRev, gSum, gZip, gEnumA, gMax, sortI_len]
theorem sort_left (bx : List Int) (s : Nat) (w : Bool) : sortI (leftL bx s w) = leftL bx s w := (sortI_is (.refl _) (leftL_sorted bx s w)).symm
theorem ok_taker : PyData.strOk "taker" = true := by decide +kernel
theorem ok_striker : PyData.strOk "striker" = true := by decide +kernel
theorem who_eq (w : Bool) (S : Store) : gEq (who w) (.str "striker") S = .ok (.bl w) S := by
  unfold who
  cases w
  · exact (gEq_str ok_taker ok_striker S).trans (by congr)
  · exact (gEq_str ok_striker ok_striker S).trans (by simp [fnSem, startR, gIsi, ty6, Ty6.is, tru?, gNot, gLe, gLt, gGt, gGe, gCmp, gTru, gBl, gLen, gItems, gFld, gIx, gAdd_int, gSub, gNeg, gTuple, gList, gIsN, gNotN, gPart, gtName, gtTup, gtCons, gtNil, sFor, sFor.go, frz, wipeR, fYes, startI, fnI, isNon, noer, LIM, gSortedRev, gSorted, pre_len, gRev, gSum, gZip, gEnumA, gMax])
theorem e_law_turns {bx : List Int} {t : Int} {s : Nat} (w : Bool) (hl : bx.length ≤ 120) (hs1 : 1 ≤ s) (hs : s ≤ 3) (S : Store) : F_law_turns [.tup (dI bx), .int t, .int s, who w] S = .ok (resD (turnsO (leftL bx s w) t s)) S := by
  have hn := leftL_len bx s w
  have e := e_law_sums (l := leftL bx s w) (t := t) (s := s) (by omega) hs1 hs S
  rw [sort_left] at e
  unfold sumsD at e
  obtain ⟨y6, y7, y8, y9, h⟩ := law_turns_for (l := leftL bx s w) (x0 := .fz (.tup (dI bx))) (x1 := .fz (.int t)) (x2 := .fz (.int s)) (x3 := .fz (who w)) (x4 := .fz (.lst (dI (leftL bx s w)))) (x10 := .un) (by omega) S (bndL (leftL bx s w).length t s) [] .un .un .un .un (fun b hb => bnd_mem hb) rfl
  have hbl := bnd_len (leftL bx s w).length t s
  simp [fnSem, startR, gIsi, ty6, Ty6.is, tru?, gNot, gLe, gLt, gGt, gGe, gCmp, gTru, gBl, gLen, gItems, gFld, gIx, gAdd_int, gSub, gNeg, gTuple, gList, gIsN, gNotN, gPart, gtName, gtTup, gtCons, gtNil, sFor, sFor.go, frz, wipeR, fYes, startI, fnI, isNon, noer, LIM, gSortedRev, gSorted, pre_len, gRev, gSum, gZip, gEnumA, gMax, ← List.range_eq_range'] at h
  have hc := who_eq w S
  cases w
  · have el : leftL bx s false = sortI bx := rfl
    rw [el] at e h hbl ⊢
    simp (discharger := first | (simp [fnSem, startR, gIsi, ty6, Ty6.is, tru?, gNot, gLe, gLt, gGt, gGe, gCmp, gTru, gBl, gLen, gItems, gFld, gIx, gAdd_int, gSub, gNeg, gTuple, gList, gIsN, gNotN, gPart, gtName, gtTup, gtCons, gtNil, sFor, sFor.go, frz, wipeR, fYes, startI, fnI, isNon, noer, LIM, gSortedRev, gSorted, pre_len, gRev, gSum, gZip, gEnumA, gMax]; done) | omega | (simp [fnSem, startR, gIsi, ty6, Ty6.is, tru?, gNot, gLe, gLt, gGt, gGe, gCmp, gTru, gBl, gLen, gItems, gFld, gIx, gAdd_int, gSub, gNeg, gTuple, gList, gIsN, gNotN, gPart, gtName, gtTup, gtCons, gtNil, sFor, sFor.go, frz, wipeR, fYes, startI, fnI, isNon, noer, LIM, gSortedRev, gSorted, pre_len, gRev, gSum, gZip, gEnumA, gMax]; omega)) [fnSem, startR, gIsi, ty6, Ty6.is, tru?, gNot, gLe, gLt, gGt, gGe, gCmp, gTru, gBl, gLen, gItems, gFld, gIx, gAdd_int, gSub, gNeg, gTuple, gList, gIsN, gNotN, gPart, gtName, gtTup, gtCons, gtNil, sFor, sFor.go, frz, wipeR, fYes, startI, fnI, isNon, noer, LIM, gSortedRev, gSorted, pre_len, gRev, gSum, gZip, gEnumA, gMax, ite_le, ite_lt, gFdiv_ok, gMod_ok, gRange1_ok, gRange2_ok, gPow_ok, gAddL_ok, gAddT_ok, gAdd_int, fLc, rangeD0, ix0, ix1, ix2, gSl_takeL, gSl_dropL, gSl_takeT, gSl_dropT, map_int, F_law_turns, S_law_turns, hc, e, h]
    unfold turnsO
    cases fstF (sortI bx) 0 (bndL (sortI bx).length t s) <;> simp [fnSem, startR, gIsi, ty6, Ty6.is, tru?, gNot, gLe, gLt, gGt, gGe, gCmp, gTru, gBl, gLen, gItems, gFld, gIx, gAdd_int, gSub, gNeg, gTuple, gList, gIsN, gNotN, gPart, gtName, gtTup, gtCons, gtNil, sFor, sFor.go, frz, wipeR, fYes, startI, fnI, isNon, noer, LIM, gSortedRev, gSorted, pre_len, gRev, gSum, gZip, gEnumA, gMax, resD]
  · have el : leftL bx s true = (sortI bx).drop s := rfl
    rw [el] at e h hbl ⊢
    unfold turnsO
    simp only [List.length_drop] at e h hbl ⊢
    simp (discharger := first | (simp [fnSem, startR, gIsi, ty6, Ty6.is, tru?, gNot, gLe, gLt, gGt, gGe, gCmp, gTru, gBl, gLen, gItems, gFld, gIx, gAdd_int, gSub, gNeg, gTuple, gList, gIsN, gNotN, gPart, gtName, gtTup, gtCons, gtNil, sFor, sFor.go, frz, wipeR, fYes, startI, fnI, isNon, noer, LIM, gSortedRev, gSorted, pre_len, gRev, gSum, gZip, gEnumA, gMax]; done) | omega | (simp [fnSem, startR, gIsi, ty6, Ty6.is, tru?, gNot, gLe, gLt, gGt, gGe, gCmp, gTru, gBl, gLen, gItems, gFld, gIx, gAdd_int, gSub, gNeg, gTuple, gList, gIsN, gNotN, gPart, gtName, gtTup, gtCons, gtNil, sFor, sFor.go, frz, wipeR, fYes, startI, fnI, isNon, noer, LIM, gSortedRev, gSorted, pre_len, gRev, gSum, gZip, gEnumA, gMax]; omega)) [fnSem, startR, gIsi, ty6, Ty6.is, tru?, gNot, gLe, gLt, gGt, gGe, gCmp, gTru, gBl, gLen, gItems, gFld, gIx, gAdd_int, gSub, gNeg, gTuple, gList, gIsN, gNotN, gPart, gtName, gtTup, gtCons, gtNil, sFor, sFor.go, frz, wipeR, fYes, startI, fnI, isNon, noer, LIM, gSortedRev, gSorted, pre_len, gRev, gSum, gZip, gEnumA, gMax, ite_le, ite_lt, gFdiv_ok, gMod_ok, gRange1_ok, gRange2_ok, gPow_ok, gAddL_ok, gAddT_ok, gAdd_int, fLc, rangeD0, ix0, ix1, ix2, gSl_takeL, gSl_dropL, gSl_takeT, gSl_dropT, map_int, F_law_turns, S_law_turns, hc, e, h]
    cases fstF ((sortI bx).drop s) 0 (bndL ((sortI bx).length - s) t s) <;> simp [fnSem, startR, gIsi, ty6, Ty6.is, tru?, gNot, gLe, gLt, gGt, gGe, gCmp, gTru, gBl, gLen, gItems, gFld, gIx, gAdd_int, gSub, gNeg, gTuple, gList, gIsN, gNotN, gPart, gtName, gtTup, gtCons, gtNil, sFor, sFor.go, frz, wipeR, fYes, startI, fnI, isNon, noer, LIM, gSortedRev, gSorted, pre_len, gRev, gSum, gZip, gEnumA, gMax, resD]
theorem e_law_turnsL {bx : List Int} {t : Int} {s : Nat} (w : Bool) (hl : bx.length ≤ 120) (hs1 : 1 ≤ s) (hs : s ≤ 3) (S : Store) : F_law_turns [.lst (dI bx), .int t, .int s, who w] S = .ok (resD (turnsO (leftL bx s w) t s)) S := by
  have hn := leftL_len bx s w
  have e := e_law_sums (l := leftL bx s w) (t := t) (s := s) (by omega) hs1 hs S
  rw [sort_left] at e
  unfold sumsD at e
  obtain ⟨y6, y7, y8, y9, h⟩ := law_turns_for (l := leftL bx s w) (x0 := .fz (.lst (dI bx))) (x1 := .fz (.int t)) (x2 := .fz (.int s)) (x3 := .fz (who w)) (x4 := .fz (.lst (dI (leftL bx s w)))) (x10 := .un) (by omega) S (bndL (leftL bx s w).length t s) [] .un .un .un .un (fun b hb => bnd_mem hb) rfl
  have hbl := bnd_len (leftL bx s w).length t s
  simp [fnSem, startR, gIsi, ty6, Ty6.is, tru?, gNot, gLe, gLt, gGt, gGe, gCmp, gTru, gBl, gLen, gItems, gFld, gIx, gAdd_int, gSub, gNeg, gTuple, gList, gIsN, gNotN, gPart, gtName, gtTup, gtCons, gtNil, sFor, sFor.go, frz, wipeR, fYes, startI, fnI, isNon, noer, LIM, gSortedRev, gSorted, pre_len, gRev, gSum, gZip, gEnumA, gMax, ← List.range_eq_range'] at h
  have hc := who_eq w S
  cases w
  · have el : leftL bx s false = sortI bx := rfl
    rw [el] at e h hbl ⊢
    simp (discharger := first | (simp [fnSem, startR, gIsi, ty6, Ty6.is, tru?, gNot, gLe, gLt, gGt, gGe, gCmp, gTru, gBl, gLen, gItems, gFld, gIx, gAdd_int, gSub, gNeg, gTuple, gList, gIsN, gNotN, gPart, gtName, gtTup, gtCons, gtNil, sFor, sFor.go, frz, wipeR, fYes, startI, fnI, isNon, noer, LIM, gSortedRev, gSorted, pre_len, gRev, gSum, gZip, gEnumA, gMax]; done) | omega | (simp [fnSem, startR, gIsi, ty6, Ty6.is, tru?, gNot, gLe, gLt, gGt, gGe, gCmp, gTru, gBl, gLen, gItems, gFld, gIx, gAdd_int, gSub, gNeg, gTuple, gList, gIsN, gNotN, gPart, gtName, gtTup, gtCons, gtNil, sFor, sFor.go, frz, wipeR, fYes, startI, fnI, isNon, noer, LIM, gSortedRev, gSorted, pre_len, gRev, gSum, gZip, gEnumA, gMax]; omega)) [fnSem, startR, gIsi, ty6, Ty6.is, tru?, gNot, gLe, gLt, gGt, gGe, gCmp, gTru, gBl, gLen, gItems, gFld, gIx, gAdd_int, gSub, gNeg, gTuple, gList, gIsN, gNotN, gPart, gtName, gtTup, gtCons, gtNil, sFor, sFor.go, frz, wipeR, fYes, startI, fnI, isNon, noer, LIM, gSortedRev, gSorted, pre_len, gRev, gSum, gZip, gEnumA, gMax, ite_le, ite_lt, gFdiv_ok, gMod_ok, gRange1_ok, gRange2_ok, gPow_ok, gAddL_ok, gAddT_ok, gAdd_int, fLc, rangeD0, ix0, ix1, ix2, gSl_takeL, gSl_dropL, gSl_takeT, gSl_dropT, map_int, F_law_turns, S_law_turns, hc, e, h]
    unfold turnsO
    cases fstF (sortI bx) 0 (bndL (sortI bx).length t s) <;> simp [fnSem, startR, gIsi, ty6, Ty6.is, tru?, gNot, gLe, gLt, gGt, gGe, gCmp, gTru, gBl, gLen, gItems, gFld, gIx, gAdd_int, gSub, gNeg, gTuple, gList, gIsN, gNotN, gPart, gtName, gtTup, gtCons, gtNil, sFor, sFor.go, frz, wipeR, fYes, startI, fnI, isNon, noer, LIM, gSortedRev, gSorted, pre_len, gRev, gSum, gZip, gEnumA, gMax, resD]
  · have el : leftL bx s true = (sortI bx).drop s := rfl
    rw [el] at e h hbl ⊢
    unfold turnsO
    simp only [List.length_drop] at e h hbl ⊢
    simp (discharger := first | (simp [fnSem, startR, gIsi, ty6, Ty6.is, tru?, gNot, gLe, gLt, gGt, gGe, gCmp, gTru, gBl, gLen, gItems, gFld, gIx, gAdd_int, gSub, gNeg, gTuple, gList, gIsN, gNotN, gPart, gtName, gtTup, gtCons, gtNil, sFor, sFor.go, frz, wipeR, fYes, startI, fnI, isNon, noer, LIM, gSortedRev, gSorted, pre_len, gRev, gSum, gZip, gEnumA, gMax]; done) | omega | (simp [fnSem, startR, gIsi, ty6, Ty6.is, tru?, gNot, gLe, gLt, gGt, gGe, gCmp, gTru, gBl, gLen, gItems, gFld, gIx, gAdd_int, gSub, gNeg, gTuple, gList, gIsN, gNotN, gPart, gtName, gtTup, gtCons, gtNil, sFor, sFor.go, frz, wipeR, fYes, startI, fnI, isNon, noer, LIM, gSortedRev, gSorted, pre_len, gRev, gSum, gZip, gEnumA, gMax]; omega)) [fnSem, startR, gIsi, ty6, Ty6.is, tru?, gNot, gLe, gLt, gGt, gGe, gCmp, gTru, gBl, gLen, gItems, gFld, gIx, gAdd_int, gSub, gNeg, gTuple, gList, gIsN, gNotN, gPart, gtName, gtTup, gtCons, gtNil, sFor, sFor.go, frz, wipeR, fYes, startI, fnI, isNon, noer, LIM, gSortedRev, gSorted, pre_len, gRev, gSum, gZip, gEnumA, gMax, ite_le, ite_lt, gFdiv_ok, gMod_ok, gRange1_ok, gRange2_ok, gPow_ok, gAddL_ok, gAddT_ok, gAdd_int, fLc, rangeD0, ix0, ix1, ix2, gSl_takeL, gSl_dropL, gSl_takeT, gSl_dropT, map_int, F_law_turns, S_law_turns, hc, e, h]
    cases fstF ((sortI bx).drop s) 0 (bndL ((sortI bx).length - s) t s) <;> simp [fnSem, startR, gIsi, ty6, Ty6.is, tru?, gNot, gLe, gLt, gGt, gGe, gCmp, gTru, gBl, gLen, gItems, gFld, gIx, gAdd_int, gSub, gNeg, gTuple, gList, gIsN, gNotN, gPart, gtName, gtTup, gtCons, gtNil, sFor, sFor.go, frz, wipeR, fYes, startI, fnI, isNon, noer, LIM, gSortedRev, gSorted, pre_len, gRev, gSum, gZip, gEnumA, gMax, resD]

end Bx

namespace Bx
open PySem L2
/-! ### the questions -/
theorem e_left (bx : List Int) (s : Nat) (w : Bool) (S : Store) : F_left_for [.tup (dI bx), .int s, who w] S = .ok (.lst (dI (leftL bx s w))) S := by
  have hc := who_eq w S
  cases w
  · simp (discharger := first | (simp [fnSem, startR, gIsi, ty6, Ty6.is, tru?, gNot, gLe, gLt, gGt, gGe, gCmp, gTru, gBl, gLen, gItems, gFld, gIx, gAdd_int, gSub, gNeg, gTuple, gList, gIsN, gNotN, gPart, gtName, gtTup, gtCons, gtNil, sFor, sFor.go, frz, wipeR, fYes, startI, fnI, isNon, noer, LIM, gSortedRev, gSorted, pre_len, gRev, gSum, gZip, gEnumA, gMax]; done) | omega | (simp [fnSem, startR, gIsi, ty6, Ty6.is, tru?, gNot, gLe, gLt, gGt, gGe, gCmp, gTru, gBl, gLen, gItems, gFld, gIx, gAdd_int, gSub, gNeg, gTuple, gList, gIsN, gNotN, gPart, gtName, gtTup, gtCons, gtNil, sFor, sFor.go, frz, wipeR, fYes, startI, fnI, isNon, noer, LIM, gSortedRev, gSorted, pre_len, gRev, gSum, gZip, gEnumA, gMax]; omega)) [fnSem, startR, gIsi, ty6, Ty6.is, tru?, gNot, gLe, gLt, gGt, gGe, gCmp, gTru, gBl, gLen, gItems, gFld, gIx, gAdd_int, gSub, gNeg, gTuple, gList, gIsN, gNotN, gPart, gtName, gtTup, gtCons, gtNil, sFor, sFor.go, frz, wipeR, fYes, startI, fnI, isNon, noer, LIM, gSortedRev, gSorted, pre_len, gRev, gSum, gZip, gEnumA, gMax, ite_le, ite_lt, gFdiv_ok, gMod_ok, gRange1_ok, gRange2_ok, gPow_ok, gAddL_ok, gAddT_ok, gAdd_int, fLc, rangeD0, ix0, ix1, ix2, gSl_takeL, gSl_dropL, gSl_takeT, gSl_dropT, map_int, F_left_for, S_left_for, hc, leftL]
  · simp (discharger := first | (simp [fnSem, startR, gIsi, ty6, Ty6.is, tru?, gNot, gLe, gLt, gGt, gGe, gCmp, gTru, gBl, gLen, gItems, gFld, gIx, gAdd_int, gSub, gNeg, gTuple, gList, gIsN, gNotN, gPart, gtName, gtTup, gtCons, gtNil, sFor, sFor.go, frz, wipeR, fYes, startI, fnI, isNon, noer, LIM, gSortedRev, gSorted, pre_len, gRev, gSum, gZip, gEnumA, gMax]; done) | omega | (simp [fnSem, startR, gIsi, ty6, Ty6.is, tru?, gNot, gLe, gLt, gGt, gGe, gCmp, gTru, gBl, gLen, gItems, gFld, gIx, gAdd_int, gSub, gNeg, gTuple, gList, gIsN, gNotN, gPart, gtName, gtTup, gtCons, gtNil, sFor, sFor.go, frz, wipeR, fYes, startI, fnI, isNon, noer, LIM, gSortedRev, gSorted, pre_len, gRev, gSum, gZip, gEnumA, gMax]; omega)) [fnSem, startR, gIsi, ty6, Ty6.is, tru?, gNot, gLe, gLt, gGt, gGe, gCmp, gTru, gBl, gLen, gItems, gFld, gIx, gAdd_int, gSub, gNeg, gTuple, gList, gIsN, gNotN, gPart, gtName, gtTup, gtCons, gtNil, sFor, sFor.go, frz, wipeR, fYes, startI, fnI, isNon, noer, LIM, gSortedRev, gSorted, pre_len, gRev, gSum, gZip, gEnumA, gMax, ite_le, ite_lt, gFdiv_ok, gMod_ok, gRange1_ok, gRange2_ok, gPow_ok, gAddL_ok, gAddT_ok, gAdd_int, fLc, rangeD0, ix0, ix1, ix2, gSl_takeL, gSl_dropL, gSl_takeT, gSl_dropT, map_int, F_left_for, S_left_for, hc, leftL]
theorem e_turns_by {bx : List Int} {t : Int} {s : Nat} (w : Bool) (hl : bx.length ≤ 120) (hs1 : 1 ≤ s) (hs : s ≤ 3) (S : Store) : F_turns_by [.tup (dI bx), .int t, .int s, who w] S = .ok (resD (turnsO (leftL bx s w) t s)) S := by
  have hn := leftL_len bx s w
  have e := e_turns_of (l := leftL bx s w) (t := t) (s := s) (by omega) hs1 hs S
  rw [sort_left] at e
  simp [fnSem, startR, gIsi, ty6, Ty6.is, tru?, gNot, gLe, gLt, gGt, gGe, gCmp, gTru, gBl, gLen, gItems, gFld, gIx, gAdd_int, gSub, gNeg, gTuple, gList, gIsN, gNotN, gPart, gtName, gtTup, gtCons, gtNil, sFor, sFor.go, frz, wipeR, fYes, startI, fnI, isNon, noer, LIM, gSortedRev, gSorted, pre_len, gRev, gSum, gZip, gEnumA, gMax, F_turns_by, S_turns_by, e_left, e]
theorem resD_non (o : Option Nat) (S : Store) : gIsN (resD o) .non S = .ok (.bl o.isNone) S := by cases o <;> rfl
theorem resD_notN (o : Option Nat) (S : Store) : gNotN (resD o) .non S = .ok (.bl o.isSome) S := by cases o <;> rfl
def winD (o : Option Nat) : D := .str (if o.isNone then "striker" else "taker")
end Bx

namespace Bx
open PySem L2
/-! ### groups -/
def okNext (row : List Int) (x : Int) : Bool := row.isEmpty || decide (lastI row < x)
def grpStep (items : List Int) (found : List (List Int)) : List (List Int) := found.flatMap fun row => (items.filter (okNext row)).map fun x => row ++ [x]
def grp (items : List Int) : Nat → List (List Int)
  | 0 => [[]]
  | k + 1 => grpStep items (grp items k)
theorem grp_len (items : List Int) : ∀ k, (grp items k).length ≤ items.length ^ k
  | 0 => by simp [fnSem, startR, gIsi, ty6, Ty6.is, tru?, gNot, gLe, gLt, gGt, gGe, gCmp, gTru, gBl, gLen, gItems, gFld, gIx, gAdd_int, gSub, gNeg, gTuple, gList, gIsN, gNotN, gPart, gtName, gtTup, gtCons, gtNil, sFor, sFor.go, frz, wipeR, fYes, startI, fnI, isNon, noer, LIM, gSortedRev, gSorted, pre_len, gRev, gSum, gZip, gEnumA, gMax, grp]
  | k + 1 => by
    have h := grp_len items k
    have : ∀ l : List (List Int), (grpStep items l).length ≤ l.length * items.length := by
      intro l
      induction l with
      | nil => simp [fnSem, startR, gIsi, ty6, Ty6.is, tru?, gNot, gLe, gLt, gGt, gGe, gCmp, gTru, gBl, gLen, gItems, gFld, gIx, gAdd_int, gSub, gNeg, gTuple, gList, gIsN, gNotN, gPart, gtName, gtTup, gtCons, gtNil, sFor, sFor.go, frz, wipeR, fYes, startI, fnI, isNon, noer, LIM, gSortedRev, gSorted, pre_len, gRev, gSum, gZip, gEnumA, gMax, grpStep]
      | cons a l ih =>
        simp only [grpStep, List.flatMap_cons, List.length_append, List.length_map, List.length_cons] at *
        have := List.length_filter_le (okNext a) items
        rw [Nat.add_mul]
        omega
    show (grpStep items (grp items k)).length ≤ _
    refine Nat.le_trans (this _) ?_
    rw [Nat.pow_succ]
    exact Nat.mul_le_mul_right _ h
theorem last_mem {row : List Int} (h : row ≠ []) : lastI row ∈ row := by
  obtain ⟨c, x, rfl⟩ : ∃ c x, row = c ++ [x] := ⟨row.dropLast, row.getLast h, (List.dropLast_concat_getLast h).symm⟩
  simp [fnSem, startR, gIsi, ty6, Ty6.is, tru?, gNot, gLe, gLt, gGt, gGe, gCmp, gTru, gBl, gLen, gItems, gFld, gIx, gAdd_int, gSub, gNeg, gTuple, gList, gIsN, gNotN, gPart, gtName, gtTup, gtCons, gtNil, sFor, sFor.go, frz, wipeR, fYes, startI, fnI, isNon, noer, LIM, gSortedRev, gSorted, pre_len, gRev, gSum, gZip, gEnumA, gMax, lastI]
theorem grp_mem (items : List Int) : ∀ k st, st ∈ grp items k → st.length = k ∧ (∀ x ∈ st, x ∈ items) ∧ st.Pairwise (· < ·)
  | 0, st, h => by
    simp [fnSem, startR, gIsi, ty6, Ty6.is, tru?, gNot, gLe, gLt, gGt, gGe, gCmp, gTru, gBl, gLen, gItems, gFld, gIx, gAdd_int, gSub, gNeg, gTuple, gList, gIsN, gNotN, gPart, gtName, gtTup, gtCons, gtNil, sFor, sFor.go, frz, wipeR, fYes, startI, fnI, isNon, noer, LIM, gSortedRev, gSorted, pre_len, gRev, gSum, gZip, gEnumA, gMax, grp] at h
    subst h
    simp [fnSem, startR, gIsi, ty6, Ty6.is, tru?, gNot, gLe, gLt, gGt, gGe, gCmp, gTru, gBl, gLen, gItems, gFld, gIx, gAdd_int, gSub, gNeg, gTuple, gList, gIsN, gNotN, gPart, gtName, gtTup, gtCons, gtNil, sFor, sFor.go, frz, wipeR, fYes, startI, fnI, isNon, noer, LIM, gSortedRev, gSorted, pre_len, gRev, gSum, gZip, gEnumA, gMax]
  | k + 1, st, h => by
    obtain ⟨row, hr, hx⟩ := List.mem_flatMap.mp (show st ∈ (grp items k).flatMap _ from h)
    obtain ⟨x, hx1, rfl⟩ := List.mem_map.mp hx
    obtain ⟨h1, h2⟩ := List.mem_filter.mp hx1
    obtain ⟨a, b, c⟩ := grp_mem items k row hr
    refine ⟨by simp [fnSem, startR, gIsi, ty6, Ty6.is, tru?, gNot, gLe, gLt, gGt, gGe, gCmp, gTru, gBl, gLen, gItems, gFld, gIx, gAdd_int, gSub, gNeg, gTuple, gList, gIsN, gNotN, gPart, gtName, gtTup, gtCons, gtNil, sFor, sFor.go, frz, wipeR, fYes, startI, fnI, isNon, noer, LIM, gSortedRev, gSorted, pre_len, gRev, gSum, gZip, gEnumA, gMax, a], fun y hy => ?_, ?_⟩
    · rcases List.mem_append.mp hy with hy | hy
      · exact b y hy
      · simp [fnSem, startR, gIsi, ty6, Ty6.is, tru?, gNot, gLe, gLt, gGt, gGe, gCmp, gTru, gBl, gLen, gItems, gFld, gIx, gAdd_int, gSub, gNeg, gTuple, gList, gIsN, gNotN, gPart, gtName, gtTup, gtCons, gtNil, sFor, sFor.go, frz, wipeR, fYes, startI, fnI, isNon, noer, LIM, gSortedRev, gSorted, pre_len, gRev, gSum, gZip, gEnumA, gMax] at hy; subst hy; exact h1
    · rw [List.pairwise_append]
      refine ⟨c, by simp [fnSem, startR, gIsi, ty6, Ty6.is, tru?, gNot, gLe, gLt, gGt, gGe, gCmp, gTru, gBl, gLen, gItems, gFld, gIx, gAdd_int, gSub, gNeg, gTuple, gList, gIsN, gNotN, gPart, gtName, gtTup, gtCons, gtNil, sFor, sFor.go, frz, wipeR, fYes, startI, fnI, isNon, noer, LIM, gSortedRev, gSorted, pre_len, gRev, gSum, gZip, gEnumA, gMax], fun y hy z hz => ?_⟩
      simp [fnSem, startR, gIsi, ty6, Ty6.is, tru?, gNot, gLe, gLt, gGt, gGe, gCmp, gTru, gBl, gLen, gItems, gFld, gIx, gAdd_int, gSub, gNeg, gTuple, gList, gIsN, gNotN, gPart, gtName, gtTup, gtCons, gtNil, sFor, sFor.go, frz, wipeR, fYes, startI, fnI, isNon, noer, LIM, gSortedRev, gSorted, pre_len, gRev, gSum, gZip, gEnumA, gMax] at hz
      subst hz
      have hne : row ≠ [] := fun e => by rw [e] at hy; cases hy
      obtain ⟨d, w, rfl⟩ : ∃ c x, row = c ++ [x] := ⟨row.dropLast, row.getLast hne, (List.dropLast_concat_getLast hne).symm⟩
      have hl : lastI (d ++ [w]) < z := by
        unfold okNext at h2
        simpa [fnSem, startR, gIsi, ty6, Ty6.is, tru?, gNot, gLe, gLt, gGt, gGe, gCmp, gTru, gBl, gLen, gItems, gFld, gIx, gAdd_int, gSub, gNeg, gTuple, gList, gIsN, gNotN, gPart, gtName, gtTup, gtCons, gtNil, sFor, sFor.go, frz, wipeR, fYes, startI, fnI, isNon, noer, LIM, gSortedRev, gSorted, pre_len, gRev, gSum, gZip, gEnumA, gMax] using h2
      have hw : lastI (d ++ [w]) = w := by simp [fnSem, startR, gIsi, ty6, Ty6.is, tru?, gNot, gLe, gLt, gGt, gGe, gCmp, gTru, gBl, gLen, gItems, gFld, gIx, gAdd_int, gSub, gNeg, gTuple, gList, gIsN, gNotN, gPart, gtName, gtTup, gtCons, gtNil, sFor, sFor.go, frz, wipeR, fYes, startI, fnI, isNon, noer, LIM, gSortedRev, gSorted, pre_len, gRev, gSum, gZip, gEnumA, gMax, lastI]
      rw [hw] at hl
      rw [List.pairwise_append] at c
      rcases List.mem_append.mp hy with hy | hy
      · have := c.2.2 y hy w (by simp [fnSem, startR, gIsi, ty6, Ty6.is, tru?, gNot, gLe, gLt, gGt, gGe, gCmp, gTru, gBl, gLen, gItems, gFld, gIx, gAdd_int, gSub, gNeg, gTuple, gList, gIsN, gNotN, gPart, gtName, gtTup, gtCons, gtNil, sFor, sFor.go, frz, wipeR, fYes, startI, fnI, isNon, noer, LIM, gSortedRev, gSorted, pre_len, gRev, gSum, gZip, gEnumA, gMax])
        omega
      · simp [fnSem, startR, gIsi, ty6, Ty6.is, tru?, gNot, gLe, gLt, gGt, gGe, gCmp, gTru, gBl, gLen, gItems, gFld, gIx, gAdd_int, gSub, gNeg, gTuple, gList, gIsN, gNotN, gPart, gtName, gtTup, gtCons, gtNil, sFor, sFor.go, frz, wipeR, fYes, startI, fnI, isNon, noer, LIM, gSortedRev, gSorted, pre_len, gRev, gSum, gZip, gEnumA, gMax] at hy; omega
theorem mem_grp (items : List Int) (st : List Int) : (∀ x ∈ st, x ∈ items) → st.Pairwise (· < ·) → st ∈ grp items st.length := by
  induction h : st.length generalizing st with
  | zero =>
    intro _ _
    rw [List.length_eq_zero_iff.mp h]
    simp [fnSem, startR, gIsi, ty6, Ty6.is, tru?, gNot, gLe, gLt, gGt, gGe, gCmp, gTru, gBl, gLen, gItems, gFld, gIx, gAdd_int, gSub, gNeg, gTuple, gList, gIsN, gNotN, gPart, gtName, gtTup, gtCons, gtNil, sFor, sFor.go, frz, wipeR, fYes, startI, fnI, isNon, noer, LIM, gSortedRev, gSorted, pre_len, gRev, gSum, gZip, gEnumA, gMax, grp]
  | succ k ih =>
    intro hi hp
    have hne : st ≠ [] := fun e => by rw [e] at h; cases h
    obtain ⟨c, x, rfl⟩ : ∃ c x, st = c ++ [x] := ⟨st.dropLast, st.getLast hne, (List.dropLast_concat_getLast hne).symm⟩
    rw [List.pairwise_append] at hp
    have hc := ih c (by simpa [fnSem, startR, gIsi, ty6, Ty6.is, tru?, gNot, gLe, gLt, gGt, gGe, gCmp, gTru, gBl, gLen, gItems, gFld, gIx, gAdd_int, gSub, gNeg, gTuple, gList, gIsN, gNotN, gPart, gtName, gtTup, gtCons, gtNil, sFor, sFor.go, frz, wipeR, fYes, startI, fnI, isNon, noer, LIM, gSortedRev, gSorted, pre_len, gRev, gSum, gZip, gEnumA, gMax] using h) (fun y hy => hi y (List.mem_append_left _ hy)) hp.1
    show c ++ [x] ∈ (grp items k).flatMap _
    refine List.mem_flatMap.mpr ⟨c, hc, List.mem_map.mpr ⟨x, List.mem_filter.mpr ⟨hi x (by simp [fnSem, startR, gIsi, ty6, Ty6.is, tru?, gNot, gLe, gLt, gGt, gGe, gCmp, gTru, gBl, gLen, gItems, gFld, gIx, gAdd_int, gSub, gNeg, gTuple, gList, gIsN, gNotN, gPart, gtName, gtTup, gtCons, gtNil, sFor, sFor.go, frz, wipeR, fYes, startI, fnI, isNon, noer, LIM, gSortedRev, gSorted, pre_len, gRev, gSum, gZip, gEnumA, gMax]), ?_⟩, rfl⟩⟩
    unfold okNext
    cases c with
    | nil => rfl
    | cons a c =>
      have := hp.2.2 _ (last_mem (row := a :: c) (by simp [fnSem, startR, gIsi, ty6, Ty6.is, tru?, gNot, gLe, gLt, gGt, gGe, gCmp, gTru, gBl, gLen, gItems, gFld, gIx, gAdd_int, gSub, gNeg, gTuple, gList, gIsN, gNotN, gPart, gtName, gtTup, gtCons, gtNil, sFor, sFor.go, frz, wipeR, fYes, startI, fnI, isNon, noer, LIM, gSortedRev, gSorted, pre_len, gRev, gSum, gZip, gEnumA, gMax])) x (by simp [fnSem, startR, gIsi, ty6, Ty6.is, tru?, gNot, gLe, gLt, gGt, gGe, gCmp, gTru, gBl, gLen, gItems, gFld, gIx, gAdd_int, gSub, gNeg, gTuple, gList, gIsN, gNotN, gPart, gtName, gtTup, gtCons, gtNil, sFor, sFor.go, frz, wipeR, fYes, startI, fnI, isNon, noer, LIM, gSortedRev, gSorted, pre_len, gRev, gSum, gZip, gEnumA, gMax])
      simp [fnSem, startR, gIsi, ty6, Ty6.is, tru?, gNot, gLe, gLt, gGt, gGe, gCmp, gTru, gBl, gLen, gItems, gFld, gIx, gAdd_int, gSub, gNeg, gTuple, gList, gIsN, gNotN, gPart, gtName, gtTup, gtCons, gtNil, sFor, sFor.go, frz, wipeR, fYes, startI, fnI, isNon, noer, LIM, gSortedRev, gSorted, pre_len, gRev, gSum, gZip, gEnumA, gMax, this]
theorem okNext_t (row : List Int) (x : Int) (ρ : Rho) (i j : Nat) (hi : ρ[i]? = some (.fz (.tup (dI row)))) (hj : ρ[j]? = some (.fz (.int x))) (S : Store) :
    (fOrT (fNotT (fUn gTru (fVar i))) (fUn gBl (fBin gGt (fVar j) (fBin gIx (fVar i) (fUn gNeg (fC (.int 1))))))) ρ S = .ok (okNext row x) S := by
  cases row with
  | nil => simp [fnSem, startR, gIsi, ty6, Ty6.is, tru?, gNot, gLe, gLt, gGt, gGe, gCmp, gTru, gBl, gLen, gItems, gFld, gIx, gAdd_int, gSub, gNeg, gTuple, gList, gIsN, gNotN, gPart, gtName, gtTup, gtCons, gtNil, sFor, sFor.go, frz, wipeR, fYes, startI, fnI, isNon, noer, LIM, gSortedRev, gSorted, pre_len, gRev, gSum, gZip, gEnumA, gMax, gEnumA, hi, okNext]
  | cons a row =>
    have := atI_last (b := a :: row) (by simp [fnSem, startR, gIsi, ty6, Ty6.is, tru?, gNot, gLe, gLt, gGt, gGe, gCmp, gTru, gBl, gLen, gItems, gFld, gIx, gAdd_int, gSub, gNeg, gTuple, gList, gIsN, gNotN, gPart, gtName, gtTup, gtCons, gtNil, sFor, sFor.go, frz, wipeR, fYes, startI, fnI, isNon, noer, LIM, gSortedRev, gSorted, pre_len, gRev, gSum, gZip, gEnumA, gMax, gEnumA])
    rw [dI_cons] at this hi
    simp [fnSem, startR, gIsi, ty6, Ty6.is, tru?, gNot, gLe, gLt, gGt, gGe, gCmp, gTru, gBl, gLen, gItems, gFld, gIx, gAdd_int, gSub, gNeg, gTuple, gList, gIsN, gNotN, gPart, gtName, gtTup, gtCons, gtNil, sFor, sFor.go, frz, wipeR, fYes, startI, fnI, isNon, noer, LIM, gSortedRev, gSorted, pre_len, gRev, gSum, gZip, gEnumA, gMax, gEnumA, hi, hj, okNext, this]
theorem okNext_t2 (row : List Int) (x : Int) (ρ : Rho) (i j : Nat) (hi : ρ[i]? = some (.fz (.tup (dI row)))) (hj : ρ[j]? = some (.fz (.int x))) (S : Store) :
    (fOrT (fUn gBl (fBin gEq (fVar i) (fTup fNil))) (fUn gBl (fBin gGt (fVar j) (fBin gIx (fVar i) (fUn gNeg (fC (.int 1))))))) ρ S = .ok (okNext row x) S := by
  have e := gEq_tups row [] S
  cases row with
  | nil =>
    have e : gEq (.tup []) (.tup []) S = .ok (.bl true) S := by simpa [fnSem, startR, gIsi, ty6, Ty6.is, tru?, gNot, gLe, gLt, gGt, gGe, gCmp, gTru, gBl, gLen, gItems, gFld, gIx, gAdd_int, gSub, gNeg, gTuple, gList, gIsN, gNotN, gPart, gtName, gtTup, gtCons, gtNil, sFor, sFor.go, frz, wipeR, fYes, startI, fnI, isNon, noer, LIM, gSortedRev, gSorted, pre_len, gRev, gSum, gZip, gEnumA, gMax, gEnumA] using e
    simp [fnSem, startR, gIsi, ty6, Ty6.is, tru?, gNot, gLe, gLt, gGt, gGe, gCmp, gTru, gBl, gLen, gItems, gFld, gIx, gAdd_int, gSub, gNeg, gTuple, gList, gIsN, gNotN, gPart, gtName, gtTup, gtCons, gtNil, sFor, sFor.go, frz, wipeR, fYes, startI, fnI, isNon, noer, LIM, gSortedRev, gSorted, pre_len, gRev, gSum, gZip, gEnumA, gMax, gEnumA, hi, okNext, e]
  | cons a row =>
    have h2 := atI_last (b := a :: row) (by simp [fnSem, startR, gIsi, ty6, Ty6.is, tru?, gNot, gLe, gLt, gGt, gGe, gCmp, gTru, gBl, gLen, gItems, gFld, gIx, gAdd_int, gSub, gNeg, gTuple, gList, gIsN, gNotN, gPart, gtName, gtTup, gtCons, gtNil, sFor, sFor.go, frz, wipeR, fYes, startI, fnI, isNon, noer, LIM, gSortedRev, gSorted, pre_len, gRev, gSum, gZip, gEnumA, gMax, gEnumA])
    have e : gEq (.tup (dI (a :: row))) (.tup []) S = .ok (.bl false) S := e
    simp [fnSem, startR, gIsi, ty6, Ty6.is, tru?, gNot, gLe, gLt, gGt, gGe, gCmp, gTru, gBl, gLen, gItems, gFld, gIx, gAdd_int, gSub, gNeg, gTuple, gList, gIsN, gNotN, gPart, gtName, gtTup, gtCons, gtNil, sFor, sFor.go, frz, wipeR, fYes, startI, fnI, isNon, noer, LIM, gSortedRev, gSorted, pre_len, gRev, gSum, gZip, gEnumA, gMax, gEnumA, hi, hj, okNext, h2, e]
theorem grp_inner {T : Fn Bool} {E : Fn D} {ρ : Rho} {i : Nat} {items row : List Int} (hr : row.length ≤ 1000) (hi : ρ[i]? = some (.fz (.tup (dI row)))) (S : Store) {j : Nat} (hj : j = 5 ∨ j = 6) (hlen : j < ρ.length) (hne : i ≠ j)
    (hT : ∀ x ρ, ρ[i]? = some (.fz (.tup (dI row))) → ρ[j]? = some (.fz (.int x)) → T ρ S = .ok (okNext row x) S)
    (hE : E = fBin gAdd (fVar i) (fTup (fCons (fVar j) fNil))) (acc : List D) : lcL (gtName j) T E ρ (dI items) acc S = .ok (acc ++ dT ((items.filter (okNext row)).map fun x => row ++ [x])) S := by
  refine lc_enc (S := S) D.int (fun b : List Int => D.tup (dI b)) (okNext row) (fun x => row ++ [x]) items acc (fun a ha => ⟨ρ.set j (.fz (.int a)), if_pos hlen, ?_, fun _ => ?_⟩)
  · exact hT a _ (by rw [List.getElem?_set_ne (Ne.symm hne)]; exact hi) (List.getElem?_set_self hlen)
  · have e1 := gAddT_ok (a := dI row) (b := [.int a]) (S := S) (by simp [fnSem, startR, gIsi, ty6, Ty6.is, tru?, gNot, gLe, gLt, gGt, gGe, gCmp, gTru, gBl, gLen, gItems, gFld, gIx, gAdd_int, gSub, gNeg, gTuple, gList, gIsN, gNotN, gPart, gtName, gtTup, gtCons, gtNil, sFor, sFor.go, frz, wipeR, fYes, startI, fnI, isNon, noer, LIM, gSortedRev, gSorted, pre_len, gRev, gSum, gZip, gEnumA, gMax, gEnumA]; omega)
    subst hE
    have h1 : (ρ.set j (.fz (.int a)))[i]? = some (.fz (.tup (dI row))) := by rw [List.getElem?_set_ne (Ne.symm hne)]; exact hi
    have h2 : (ρ.set j (Sl.fz (.int a)))[j]? = some (.fz (.int a)) := List.getElem?_set_self hlen
    simp only [fBin, fVar, fTup, fCons, fNil, h1, h2, R.bind]
    simp [fnSem, startR, gIsi, ty6, Ty6.is, tru?, gNot, gLe, gLt, gGt, gGe, gCmp, gTru, gBl, gLen, gItems, gFld, gIx, gAdd_int, gSub, gNeg, gTuple, gList, gIsN, gNotN, gPart, gtName, gtTup, gtCons, gtNil, sFor, sFor.go, frz, wipeR, fYes, startI, fnI, isNon, noer, LIM, gSortedRev, gSorted, pre_len, gRev, gSum, gZip, gEnumA, gMax, gEnumA, e1]
theorem grpStep_nil (items : List Int) : grpStep items [] = [] := rfl
theorem grpStep_cons (items row : List Int) (l : List (List Int)) : grpStep items (row :: l) = (items.filter (okNext row)).map (fun x => row ++ [x]) ++ grpStep items l := rfl
theorem grp_row_len {items : List Int} {k : Nat} {st : List Int} (h : st ∈ grp items k) : st.length = k := (grp_mem items k st h).1
/-! the law's -/
end Bx

namespace Bx
open PySem L2
theorem win_str (o : Option Nat) (S : Store) : gEq (winD o) (.str "striker") S = .ok (.bl o.isNone) S := by
  cases o
  · exact (gEq_str ok_striker ok_striker S).trans (by simp [fnSem, startR, gIsi, ty6, Ty6.is, tru?, gNot, gLe, gLt, gGt, gGe, gCmp, gTru, gBl, gLen, gItems, gFld, gIx, gAdd_int, gSub, gNeg, gTuple, gList, gIsN, gNotN, gPart, gtName, gtTup, gtCons, gtNil, sFor, sFor.go, frz, wipeR, fYes, startI, fnI, isNon, noer, LIM, gSortedRev, gSorted, pre_len, gRev, gSum, gZip, gEnumA, gMax, gEnumA])
  · exact (gEq_str ok_taker ok_striker S).trans (by congr)
theorem win_tak (o : Option Nat) (S : Store) : gEq (winD o) (.str "taker") S = .ok (.bl o.isSome) S := by
  cases o
  · exact (gEq_str ok_striker ok_taker S).trans (by congr)
  · exact (gEq_str ok_taker ok_taker S).trans (by simp [fnSem, startR, gIsi, ty6, Ty6.is, tru?, gNot, gLe, gLt, gGt, gGe, gCmp, gTru, gBl, gLen, gItems, gFld, gIx, gAdd_int, gSub, gNeg, gTuple, gList, gIsN, gNotN, gPart, gtName, gtTup, gtCons, gtNil, sFor, sFor.go, frz, wipeR, fYes, startI, fnI, isNon, noer, LIM, gSortedRev, gSorted, pre_len, gRev, gSum, gZip, gEnumA, gMax, gEnumA])
def wins (bx : List Int) (t : Int) (s : Nat) (w : Bool) : Bool := (turnsO (leftL bx s w) t s).isSome
theorem fst_some (l : List Int) : ∀ (B : List (List Int)) (k : Nat), (fstF l k B).isSome = B.any (fits l)
  | [], _ => rfl
  | b :: B, k => by
    unfold fstF
    split
    · rename_i h
      simp [fnSem, startR, gIsi, ty6, Ty6.is, tru?, gNot, gLe, gLt, gGt, gGe, gCmp, gTru, gBl, gLen, gItems, gFld, gIx, gAdd_int, gSub, gNeg, gTuple, gList, gIsN, gNotN, gPart, gtName, gtTup, gtCons, gtNil, sFor, sFor.go, frz, wipeR, fYes, startI, fnI, isNon, noer, LIM, gSortedRev, gSorted, pre_len, gRev, gSum, gZip, gEnumA, gMax, gEnumA, h]
    · rename_i h
      simp [fnSem, startR, gIsi, ty6, Ty6.is, tru?, gNot, gLe, gLt, gGt, gGe, gCmp, gTru, gBl, gLen, gItems, gFld, gIx, gAdd_int, gSub, gNeg, gTuple, gList, gIsN, gNotN, gPart, gtName, gtTup, gtCons, gtNil, sFor, sFor.go, frz, wipeR, fYes, startI, fnI, isNon, noer, LIM, gSortedRev, gSorted, pre_len, gRev, gSum, gZip, gEnumA, gMax, gEnumA, h, fst_some l B]
theorem wins_any (bx : List Int) (t : Int) (s : Nat) (w : Bool) : wins bx t s w = (bndL (leftL bx s w).length t s).any (fits (leftL bx s w)) := by
  unfold wins turnsO
  rw [fst_some]

end Bx

namespace Bx
open PySem L2
/-! ### what the boxes hold -/
def dO : Option Int → D
  | none => .non
  | some n => .int n
def dL (l : List (Option Int)) : List D := l.map dO
@[simp] theorem dL_length (l : List (Option Int)) : (dL l).length = l.length := by simp [fnSem, startR, gIsi, ty6, Ty6.is, tru?, gNot, gLe, gLt, gGt, gGe, gCmp, gTru, gBl, gLen, gItems, gFld, gIx, gAdd_int, gSub, gNeg, gTuple, gList, gIsN, gNotN, gPart, gtName, gtTup, gtCons, gtNil, sFor, sFor.go, frz, wipeR, fYes, startI, fnI, isNon, noer, LIM, gSortedRev, gSorted, pre_len, gRev, gSum, gZip, gEnumA, gMax, gEnumA, dL]
theorem dL_some (l : List Int) : dL (l.map some) = dI l := by simp [fnSem, startR, gIsi, ty6, Ty6.is, tru?, gNot, gLe, gLt, gGt, gGe, gCmp, gTru, gBl, gLen, gItems, gFld, gIx, gAdd_int, gSub, gNeg, gTuple, gList, gIsN, gNotN, gPart, gtName, gtTup, gtCons, gtNil, sFor, sFor.go, frz, wipeR, fYes, startI, fnI, isNon, noer, LIM, gSortedRev, gSorted, pre_len, gRev, gSum, gZip, gEnumA, gMax, gEnumA, dL, dI, dO, Function.comp_def]
def openL (l : List (Option Int)) : List Int := (l.zipIdx.filter fun p => p.1.isSome).map fun p => ((p.2 : Nat) : Int)
def restL (l : List (Option Int)) : List Int := l.filterMap id
def withoutL (l : List (Option Int)) (st : List Int) : List (Option Int) := l.zipIdx.map fun p => if ((p.2 : Nat) : Int) ∈ st then none else p.1
theorem enum_dL (l : List (Option Int)) : ((dL l).zipIdx.map fun p => D.tup [.int p.2, p.1]) = l.zipIdx.map fun p => D.tup [.int p.2, dO p.1] := by
  unfold dL
  rw [List.zipIdx_map, List.map_map]
  rfl
theorem isNon_dO (o : Option Int) : isNon (dO o) = o.isNone := by cases o <;> rfl
theorem restL_eq (l : List (Option Int)) : ((l.filter Option.isSome).map fun o => o.getD 0) = restL l := by
  unfold restL
  induction l with
  | nil => rfl
  | cons a l ih => cases a <;> simp [fnSem, startR, gIsi, ty6, Ty6.is, tru?, gNot, gLe, gLt, gGt, gGe, gCmp, gTru, gBl, gLen, gItems, gFld, gIx, gAdd_int, gSub, gNeg, gTuple, gList, gIsN, gNotN, gPart, gtName, gtTup, gtCons, gtNil, sFor, sFor.go, frz, wipeR, fYes, startI, fnI, isNon, noer, LIM, gSortedRev, gSorted, pre_len, gRev, gSum, gZip, gEnumA, gMax, gEnumA, ih]
theorem flats_dI (l : List Int) : flats? (dI l) = some (l.map V.int) := by
  induction l with
  | nil => rfl
  | cons a l ih => rw [dI_cons]; simp [fnSem, startR, gIsi, ty6, Ty6.is, tru?, gNot, gLe, gLt, gGt, gGe, gCmp, gTru, gBl, gLen, gItems, gFld, gIx, gAdd_int, gSub, gNeg, gTuple, gList, gIsN, gNotN, gPart, gtName, gtTup, gtCons, gtNil, sFor, sFor.go, frz, wipeR, fYes, startI, fnI, isNon, noer, LIM, gSortedRev, gSorted, pre_len, gRev, gSum, gZip, gEnumA, gMax, gEnumA, flats?, flatV?, ih]
theorem inV_ints (x : Int) (l : List Int) : inV (.int x) (l.map V.int) = decide (x ∈ l) := by
  induction l with
  | nil => rfl
  | cons a l ih =>
    rw [List.map_cons]
    unfold inV at *
    rw [List.any_cons, ih]
    have : eqV (.int a) (.int x) = decide (x = a) := by
      simp [fnSem, startR, gIsi, ty6, Ty6.is, tru?, gNot, gLe, gLt, gGt, gGe, gCmp, gTru, gBl, gLen, gItems, gFld, gIx, gAdd_int, gSub, gNeg, gTuple, gList, gIsN, gNotN, gPart, gtName, gtTup, gtCons, gtNil, sFor, sFor.go, frz, wipeR, fYes, startI, fnI, isNon, noer, LIM, gSortedRev, gSorted, pre_len, gRev, gSum, gZip, gEnumA, gMax, gEnumA, eqV]
      by_cases h : a = x
      · simp [fnSem, startR, gIsi, ty6, Ty6.is, tru?, gNot, gLe, gLt, gGt, gGe, gCmp, gTru, gBl, gLen, gItems, gFld, gIx, gAdd_int, gSub, gNeg, gTuple, gList, gIsN, gNotN, gPart, gtName, gtTup, gtCons, gtNil, sFor, sFor.go, frz, wipeR, fYes, startI, fnI, isNon, noer, LIM, gSortedRev, gSorted, pre_len, gRev, gSum, gZip, gEnumA, gMax, gEnumA, h]
      · simp [fnSem, startR, gIsi, ty6, Ty6.is, tru?, gNot, gLe, gLt, gGt, gGe, gCmp, gTru, gBl, gLen, gItems, gFld, gIx, gAdd_int, gSub, gNeg, gTuple, gList, gIsN, gNotN, gPart, gtName, gtTup, gtCons, gtNil, sFor, sFor.go, frz, wipeR, fYes, startI, fnI, isNon, noer, LIM, gSortedRev, gSorted, pre_len, gRev, gSum, gZip, gEnumA, gMax, gEnumA, h, Ne.symm h]
    rw [this]
    simp [fnSem, startR, gIsi, ty6, Ty6.is, tru?, gNot, gLe, gLt, gGt, gGe, gCmp, gTru, gBl, gLen, gItems, gFld, gIx, gAdd_int, gSub, gNeg, gTuple, gList, gIsN, gNotN, gPart, gtName, gtTup, gtCons, gtNil, sFor, sFor.go, frz, wipeR, fYes, startI, fnI, isNon, noer, LIM, gSortedRev, gSorted, pre_len, gRev, gSum, gZip, gEnumA, gMax, gEnumA]
theorem gIn_tup (x : Int) (l : List Int) (S : Store) : gIn false (.int x) (.tup (dI l)) S = .ok (.bl (decide (x ∈ l))) S := by
  simp [fnSem, startR, gIsi, ty6, Ty6.is, tru?, gNot, gLe, gLt, gGt, gGe, gCmp, gTru, gBl, gLen, gItems, gFld, gIx, gAdd_int, gSub, gNeg, gTuple, gList, gIsN, gNotN, gPart, gtName, gtTup, gtCons, gtNil, sFor, sFor.go, frz, wipeR, fYes, startI, fnI, isNon, noer, LIM, gSortedRev, gSorted, pre_len, gRev, gSum, gZip, gEnumA, gMax, gEnumA, gIn, flatV?, flats_dI, inV_ints]
theorem gIn_lst (x : Int) (l : List Int) (S : Store) : gIn false (.int x) (.lst (dI l)) S = .ok (.bl (decide (x ∈ l))) S := by
  simp [fnSem, startR, gIsi, ty6, Ty6.is, tru?, gNot, gLe, gLt, gGt, gGe, gCmp, gTru, gBl, gLen, gItems, gFld, gIx, gAdd_int, gSub, gNeg, gTuple, gList, gIsN, gNotN, gPart, gtName, gtTup, gtCons, gtNil, sFor, sFor.go, frz, wipeR, fYes, startI, fnI, isNon, noer, LIM, gSortedRev, gSorted, pre_len, gRev, gSum, gZip, gEnumA, gMax, gEnumA, gIn, flatV?, flats_dI, inV_ints]
theorem gNin_tup (x : Int) (l : List Int) (S : Store) : gIn true (.int x) (.tup (dI l)) S = .ok (.bl (!decide (x ∈ l))) S := by
  simp [fnSem, startR, gIsi, ty6, Ty6.is, tru?, gNot, gLe, gLt, gGt, gGe, gCmp, gTru, gBl, gLen, gItems, gFld, gIx, gAdd_int, gSub, gNeg, gTuple, gList, gIsN, gNotN, gPart, gtName, gtTup, gtCons, gtNil, sFor, sFor.go, frz, wipeR, fYes, startI, fnI, isNon, noer, LIM, gSortedRev, gSorted, pre_len, gRev, gSum, gZip, gEnumA, gMax, gEnumA, gIn, flatV?, flats_dI, inV_ints]
theorem gNin_lst (x : Int) (l : List Int) (S : Store) : gIn true (.int x) (.lst (dI l)) S = .ok (.bl (!decide (x ∈ l))) S := by
  simp [fnSem, startR, gIsi, ty6, Ty6.is, tru?, gNot, gLe, gLt, gGt, gGe, gCmp, gTru, gBl, gLen, gItems, gFld, gIx, gAdd_int, gSub, gNeg, gTuple, gList, gIsN, gNotN, gPart, gtName, gtTup, gtCons, gtNil, sFor, sFor.go, frz, wipeR, fYes, startI, fnI, isNon, noer, LIM, gSortedRev, gSorted, pre_len, gRev, gSum, gZip, gEnumA, gMax, gEnumA, gIn, flatV?, flats_dI, inV_ints]
theorem withoutL_len (l : List (Option Int)) (st : List Int) : (withoutL l st).length = l.length := by simp [fnSem, startR, gIsi, ty6, Ty6.is, tru?, gNot, gLe, gLt, gGt, gGe, gCmp, gTru, gBl, gLen, gItems, gFld, gIx, gAdd_int, gSub, gNeg, gTuple, gList, gIsN, gNotN, gPart, gtName, gtTup, gtCons, gtNil, sFor, sFor.go, frz, wipeR, fYes, startI, fnI, isNon, noer, LIM, gSortedRev, gSorted, pre_len, gRev, gSum, gZip, gEnumA, gMax, gEnumA, withoutL]
theorem restL_len (l : List (Option Int)) : (restL l).length ≤ l.length := List.length_filterMap_le ..
theorem openL_len (l : List (Option Int)) : (openL l).length = (restL l).length := by
  have : ∀ (l : List (Option Int)) (k : Nat), ((l.zipIdx k).filter fun p => p.1.isSome).length = (restL l).length := by
    intro l
    induction l with
    | nil => intro k; rfl
    | cons a l ih =>
      intro k
      cases a with
      | none => simpa [fnSem, startR, gIsi, ty6, Ty6.is, tru?, gNot, gLe, gLt, gGt, gGe, gCmp, gTru, gBl, gLen, gItems, gFld, gIx, gAdd_int, gSub, gNeg, gTuple, gList, gIsN, gNotN, gPart, gtName, gtTup, gtCons, gtNil, sFor, sFor.go, frz, wipeR, fYes, startI, fnI, isNon, noer, LIM, gSortedRev, gSorted, pre_len, gRev, gSum, gZip, gEnumA, gMax, gEnumA, restL, List.zipIdx_cons] using ih (k + 1)
      | some a => simpa [fnSem, startR, gIsi, ty6, Ty6.is, tru?, gNot, gLe, gLt, gGt, gGe, gCmp, gTru, gBl, gLen, gItems, gFld, gIx, gAdd_int, gSub, gNeg, gTuple, gList, gIsN, gNotN, gPart, gtName, gtTup, gtCons, gtNil, sFor, sFor.go, frz, wipeR, fYes, startI, fnI, isNon, noer, LIM, gSortedRev, gSorted, pre_len, gRev, gSum, gZip, gEnumA, gMax, gEnumA, restL, List.zipIdx_cons] using ih (k + 1)
  unfold openL
  rw [List.length_map]
  exact this l 0
/-! the taker's win by a list -/
theorem e_leftL (bx : List Int) (s : Nat) (w : Bool) (S : Store) : F_left_for [.lst (dI bx), .int s, who w] S = .ok (.lst (dI (leftL bx s w))) S := by
  have hc := who_eq w S
  cases w
  · simp (discharger := first | (simp [fnSem, startR, gIsi, ty6, Ty6.is, tru?, gNot, gLe, gLt, gGt, gGe, gCmp, gTru, gBl, gLen, gItems, gFld, gIx, gAdd_int, gSub, gNeg, gTuple, gList, gIsN, gNotN, gPart, gtName, gtTup, gtCons, gtNil, sFor, sFor.go, frz, wipeR, fYes, startI, fnI, isNon, noer, LIM, gSortedRev, gSorted, pre_len, gRev, gSum, gZip, gEnumA, gMax, gEnumA]; done) | omega | (simp [fnSem, startR, gIsi, ty6, Ty6.is, tru?, gNot, gLe, gLt, gGt, gGe, gCmp, gTru, gBl, gLen, gItems, gFld, gIx, gAdd_int, gSub, gNeg, gTuple, gList, gIsN, gNotN, gPart, gtName, gtTup, gtCons, gtNil, sFor, sFor.go, frz, wipeR, fYes, startI, fnI, isNon, noer, LIM, gSortedRev, gSorted, pre_len, gRev, gSum, gZip, gEnumA, gMax, gEnumA]; omega)) [fnSem, startR, gIsi, ty6, Ty6.is, tru?, gNot, gLe, gLt, gGt, gGe, gCmp, gTru, gBl, gLen, gItems, gFld, gIx, gAdd_int, gSub, gNeg, gTuple, gList, gIsN, gNotN, gPart, gtName, gtTup, gtCons, gtNil, sFor, sFor.go, frz, wipeR, fYes, startI, fnI, isNon, noer, LIM, gSortedRev, gSorted, pre_len, gRev, gSum, gZip, gEnumA, gMax, gEnumA, ite_le, ite_lt, gFdiv_ok, gMod_ok, gRange1_ok, gRange2_ok, gPow_ok, gAddL_ok, gAddT_ok, gAdd_int, fLc, rangeD0, ix0, ix1, ix2, gSl_takeL, gSl_dropL, gSl_takeT, gSl_dropT, map_int, F_left_for, S_left_for, hc, leftL]
  · simp (discharger := first | (simp [fnSem, startR, gIsi, ty6, Ty6.is, tru?, gNot, gLe, gLt, gGt, gGe, gCmp, gTru, gBl, gLen, gItems, gFld, gIx, gAdd_int, gSub, gNeg, gTuple, gList, gIsN, gNotN, gPart, gtName, gtTup, gtCons, gtNil, sFor, sFor.go, frz, wipeR, fYes, startI, fnI, isNon, noer, LIM, gSortedRev, gSorted, pre_len, gRev, gSum, gZip, gEnumA, gMax, gEnumA]; done) | omega | (simp [fnSem, startR, gIsi, ty6, Ty6.is, tru?, gNot, gLe, gLt, gGt, gGe, gCmp, gTru, gBl, gLen, gItems, gFld, gIx, gAdd_int, gSub, gNeg, gTuple, gList, gIsN, gNotN, gPart, gtName, gtTup, gtCons, gtNil, sFor, sFor.go, frz, wipeR, fYes, startI, fnI, isNon, noer, LIM, gSortedRev, gSorted, pre_len, gRev, gSum, gZip, gEnumA, gMax, gEnumA]; omega)) [fnSem, startR, gIsi, ty6, Ty6.is, tru?, gNot, gLe, gLt, gGt, gGe, gCmp, gTru, gBl, gLen, gItems, gFld, gIx, gAdd_int, gSub, gNeg, gTuple, gList, gIsN, gNotN, gPart, gtName, gtTup, gtCons, gtNil, sFor, sFor.go, frz, wipeR, fYes, startI, fnI, isNon, noer, LIM, gSortedRev, gSorted, pre_len, gRev, gSum, gZip, gEnumA, gMax, gEnumA, ite_le, ite_lt, gFdiv_ok, gMod_ok, gRange1_ok, gRange2_ok, gPow_ok, gAddL_ok, gAddT_ok, gAdd_int, fLc, rangeD0, ix0, ix1, ix2, gSl_takeL, gSl_dropL, gSl_takeT, gSl_dropT, map_int, F_left_for, S_left_for, hc, leftL]
theorem e_turns_byL {bx : List Int} {t : Int} {s : Nat} (w : Bool) (hl : bx.length ≤ 120) (hs1 : 1 ≤ s) (hs : s ≤ 3) (S : Store) : F_turns_by [.lst (dI bx), .int t, .int s, who w] S = .ok (resD (turnsO (leftL bx s w) t s)) S := by
  have hn := leftL_len bx s w
  have e := e_turns_of (l := leftL bx s w) (t := t) (s := s) (by omega) hs1 hs S
  rw [sort_left] at e
  simp [fnSem, startR, gIsi, ty6, Ty6.is, tru?, gNot, gLe, gLt, gGt, gGe, gCmp, gTru, gBl, gLen, gItems, gFld, gIx, gAdd_int, gSub, gNeg, gTuple, gList, gIsN, gNotN, gPart, gtName, gtTup, gtCons, gtNil, sFor, sFor.go, frz, wipeR, fYes, startI, fnI, isNon, noer, LIM, gSortedRev, gSorted, pre_len, gRev, gSum, gZip, gEnumA, gMax, gEnumA, F_turns_by, S_turns_by, e_leftL, e]
/-- strikings behind which the taker does not win -/
def holds (l : List (Option Int)) (t : Int) (s : Nat) (st : List Int) : Bool := !wins (restL (withoutL l st)) t s false
def allS (l : List (Option Int)) (s : Nat) : List (List Int) := grp (openL l) (min s (openL l).length)
def goodS (l : List (Option Int)) (t : Int) (s : Nat) : List (List Int) := (allS l s).filter (holds l t s)
theorem allS_len {l : List (Option Int)} (hl : l.length ≤ 8) {s : Nat} (hs : s ≤ 3) : ∀ j, j ≤ min s (openL l).length → (grp (openL l) j).length ≤ 600 := by
  intro j hj
  have h1 := grp_len (openL l) j
  have h2 := openL_len l
  have h3 := restL_len l
  have h4 : (openL l).length ^ j ≤ 8 ^ j := Nat.pow_le_pow_left (by omega) j
  have h5 : 8 ^ j ≤ 8 ^ 3 := Nat.pow_le_pow_right (by omega) (by omega)
  omega
theorem min_int (a b : Nat) (S : Store) : gMin [.int a, .int b] S = .ok (.int (min a b : Nat)) S := by
  simp [fnSem, startR, gIsi, ty6, Ty6.is, tru?, gNot, gLe, gLt, gGt, gGe, gCmp, gTru, gBl, gLen, gItems, gFld, gIx, gAdd_int, gSub, gNeg, gTuple, gList, gIsN, gNotN, gPart, gtName, gtTup, gtCons, gtNil, sFor, sFor.go, frz, wipeR, fYes, startI, fnI, isNon, noer, LIM, gSortedRev, gSorted, pre_len, gRev, gSum, gZip, gEnumA, gMax, gEnumA, gMin]
  split <;> omega
end Bx

namespace Bx
open PySem L2
/-! ### all takings -/
def dP (p : List Int × Int) : D := .tup [.tup (dI p.1), .int p.2]
def tkRow (x : Int) (p : List Int × Int) : List (List Int × Int) := (List.range ((min x p.2).toNat + 1)).map fun (k : Nat) => (p.1 ++ [(k : Int)], p.2 - (k : Int))
def tkStep (F : List (List Int × Int)) (x : Int) : List (List Int × Int) := F.flatMap (tkRow x)
def tkAll (l : List Int) (t : Int) : List (List Int × Int) := l.foldl tkStep [([], t)]
/-- how many rows of so many boxes, of so much in all at most -/
def cnt : Nat → Nat → Nat
  | 0, _ => 1
  | i + 1, r => ((List.range (r + 1)).map fun s => cnt i (r - s)).sum
def cntF (i : Nat) (F : List (List Int × Int)) : Nat := (F.map fun p => cnt i p.2.toNat).sum
theorem cnt_pos : ∀ i r, 1 ≤ cnt i r
  | 0, _ => Nat.le_refl _
  | i + 1, r => by
    unfold cnt
    rw [List.range_succ_eq_map, List.map_cons, List.sum_cons]
    have := cnt_pos i (r - 0)
    omega
theorem cntF_len (i : Nat) : ∀ F : List (List Int × Int), F.length ≤ cntF i F
  | [] => by simp [fnSem, startR, gIsi, ty6, Ty6.is, tru?, gNot, gLe, gLt, gGt, gGe, gCmp, gTru, gBl, gLen, gItems, gFld, gIx, gAdd_int, gSub, gNeg, gTuple, gList, gIsN, gNotN, gPart, gtName, gtTup, gtCons, gtNil, sFor, sFor.go, frz, wipeR, fYes, startI, fnI, isNon, noer, LIM, gSortedRev, gSorted, pre_len, gRev, gSum, gZip, gEnumA, gMax, gEnumA, gMin, cntF]
  | p :: F => by
    have h := cntF_len i F
    have h1 := cnt_pos i p.2.toNat
    simp only [cntF, List.map_cons, List.sum_cons, List.length_cons] at *
    omega
theorem sum_le {f : Nat → Nat} : ∀ n m, n ≤ m → ((List.range n).map f).sum ≤ ((List.range m).map f).sum := by
  intro n m h
  obtain ⟨d, rfl⟩ := Nat.exists_eq_add_of_le h
  rw [List.range_add, List.map_append, List.sum_append]
  omega
theorem cntF_row (i : Nat) (x : Int) (p : List Int × Int) (hx : 0 ≤ x) (hp : 0 ≤ p.2) : cntF i (tkRow x p) ≤ cnt (i + 1) p.2.toNat := by
  unfold cntF tkRow
  rw [List.map_map]
  have e : (List.range ((min x p.2).toNat + 1)).map ((fun p : List Int × Int => cnt i p.2.toNat) ∘ fun (k : Nat) => (p.1 ++ [(k : Int)], p.2 - (k : Int))) = (List.range ((min x p.2).toNat + 1)).map fun s => cnt i (p.2.toNat - s) := by
    refine List.map_congr_left fun k _ => ?_
    show cnt i (p.2 - (k : Int)).toNat = _
    rw [show (p.2 - (k : Int)).toNat = p.2.toNat - k by omega]
  rw [e]
  exact sum_le _ _ (by omega)
theorem tk_rest {x : Int} {p q : List Int × Int} (hx : 0 ≤ x) (hp : 0 ≤ p.2) (h : q ∈ tkRow x p) : 0 ≤ q.2 := by
  obtain ⟨k, hk, rfl⟩ := List.mem_map.mp h
  have := List.mem_range.mp hk
  simp only
  omega
theorem step_rest {x : Int} {F : List (List Int × Int)} (hx : 0 ≤ x) (hF : ∀ p ∈ F, 0 ≤ p.2) : ∀ p ∈ tkStep F x, 0 ≤ p.2 := fun q hq => by
  obtain ⟨p, hp, h⟩ := List.mem_flatMap.mp hq
  exact tk_rest hx (hF p hp) h
theorem cntF_step (i : Nat) (x : Int) (hx : 0 ≤ x) : ∀ F : List (List Int × Int), (∀ p ∈ F, 0 ≤ p.2) → cntF i (tkStep F x) ≤ cntF (i + 1) F
  | [], _ => by simp [fnSem, startR, gIsi, ty6, Ty6.is, tru?, gNot, gLe, gLt, gGt, gGe, gCmp, gTru, gBl, gLen, gItems, gFld, gIx, gAdd_int, gSub, gNeg, gTuple, gList, gIsN, gNotN, gPart, gtName, gtTup, gtCons, gtNil, sFor, sFor.go, frz, wipeR, fYes, startI, fnI, isNon, noer, LIM, gSortedRev, gSorted, pre_len, gRev, gSum, gZip, gEnumA, gMax, gEnumA, gMin, cntF, tkStep]
  | p :: F, h => by
    have h1 := cntF_row i x p hx (h p (List.mem_cons_self ..))
    have h2 := cntF_step i x hx F fun q hq => h q (List.mem_cons_of_mem _ hq)
    have e : cntF i (tkStep (p :: F) x) = cntF i (tkRow x p) + cntF i (tkStep F x) := by
      unfold cntF tkStep
      rw [List.flatMap_cons, List.map_append, List.sum_append]
    have e2 : cntF (i + 1) (p :: F) = cnt (i + 1) p.2.toNat + cntF (i + 1) F := by
      simp [fnSem, startR, gIsi, ty6, Ty6.is, tru?, gNot, gLe, gLt, gGt, gGe, gCmp, gTru, gBl, gLen, gItems, gFld, gIx, gAdd_int, gSub, gNeg, gTuple, gList, gIsN, gNotN, gPart, gtName, gtTup, gtCons, gtNil, sFor, sFor.go, frz, wipeR, fYes, startI, fnI, isNon, noer, LIM, gSortedRev, gSorted, pre_len, gRev, gSum, gZip, gEnumA, gMax, gEnumA, gMin, cntF]
    omega
/-- each list on the way is no longer than what is told -/
theorem tk_bound : ∀ (l : List Int) (F : List (List Int × Int)), (∀ x ∈ l, 0 ≤ x) → (∀ p ∈ F, 0 ≤ p.2) → (l.foldl tkStep F).length ≤ cntF l.length F ∧ F.length ≤ cntF l.length F
  | [], F, _, _ => ⟨cntF_len 0 F, cntF_len 0 F⟩
  | x :: l, F, hl, hF => by
    have h1 := cntF_step l.length x (hl x (List.mem_cons_self ..)) F hF
    have h2 := tk_bound l (tkStep F x) (fun y hy => hl y (List.mem_cons_of_mem _ hy)) (step_rest (hl x (List.mem_cons_self ..)) hF)
    refine ⟨Nat.le_trans h2.1 h1, cntF_len _ F⟩
theorem takings_b1 {x0 x1 x2 x3 : Sl} {am : List Int} {r : Int} (ha : am.length ≤ 100) (S : Store) : ∀ (l : List Int) (acc : List (List Int × Int)) (x7 : Sl), acc.length + l.length ≤ 900000 → ∃ y7,
    sFor.go (gtName 7) B_all_takings_1 (dI l) [x0, x1, x2, x3, .ow (acc.map dP), .fz (.tup (dI am)), .fz (.int r), x7] S = .mk (.nx [x0, x1, x2, x3, .ow ((acc ++ l.map fun k => (am ++ [k], r - k)).map dP), .fz (.tup (dI am)), .fz (.int r), y7]) S := by
  intro l
  induction l with
  | nil => exact fun acc x7 _ => ⟨x7, by simp [fnSem, startR, gIsi, ty6, Ty6.is, tru?, gNot, gLe, gLt, gGt, gGe, gCmp, gTru, gBl, gLen, gItems, gFld, gIx, gAdd_int, gSub, gNeg, gTuple, gList, gIsN, gNotN, gPart, gtName, gtTup, gtCons, gtNil, sFor, sFor.go, frz, wipeR, fYes, startI, fnI, isNon, noer, LIM, gSortedRev, gSorted, pre_len, gRev, gSum, gZip, gEnumA, gMax, gEnumA, gMin]⟩
  | cons k l ih =>
    intro acc x7 h
    simp [fnSem, startR, gIsi, ty6, Ty6.is, tru?, gNot, gLe, gLt, gGt, gGe, gCmp, gTru, gBl, gLen, gItems, gFld, gIx, gAdd_int, gSub, gNeg, gTuple, gList, gIsN, gNotN, gPart, gtName, gtTup, gtCons, gtNil, sFor, sFor.go, frz, wipeR, fYes, startI, fnI, isNon, noer, LIM, gSortedRev, gSorted, pre_len, gRev, gSum, gZip, gEnumA, gMax, gEnumA, gMin] at h
    obtain ⟨y7, hy⟩ := ih (acc ++ [(am ++ [k], r - k)]) (.fz (.int k)) (by simp [fnSem, startR, gIsi, ty6, Ty6.is, tru?, gNot, gLe, gLt, gGt, gGe, gCmp, gTru, gBl, gLen, gItems, gFld, gIx, gAdd_int, gSub, gNeg, gTuple, gList, gIsN, gNotN, gPart, gtName, gtTup, gtCons, gtNil, sFor, sFor.go, frz, wipeR, fYes, startI, fnI, isNon, noer, LIM, gSortedRev, gSorted, pre_len, gRev, gSum, gZip, gEnumA, gMax, gEnumA, gMin]; omega)
    refine ⟨y7, ?_⟩
    have hlt : acc.length < 1000000 := by omega
    have hB : B_all_takings_1 [x0, x1, x2, x3, .ow (acc.map dP), .fz (.tup (dI am)), .fz (.int r), .fz (.int k)] S = .mk (.nx [x0, x1, x2, x3, .ow ((acc ++ [(am ++ [k], r - k)]).map dP), .fz (.tup (dI am)), .fz (.int r), .fz (.int k)]) S := by
      have e1 := gAddT_ok (a := dI am) (b := [.int k]) (S := S) (by simp [fnSem, startR, gIsi, ty6, Ty6.is, tru?, gNot, gLe, gLt, gGt, gGe, gCmp, gTru, gBl, gLen, gItems, gFld, gIx, gAdd_int, gSub, gNeg, gTuple, gList, gIsN, gNotN, gPart, gtName, gtTup, gtCons, gtNil, sFor, sFor.go, frz, wipeR, fYes, startI, fnI, isNon, noer, LIM, gSortedRev, gSorted, pre_len, gRev, gSum, gZip, gEnumA, gMax, gEnumA, gMin]; omega)
      simp [fnSem, startR, gIsi, ty6, Ty6.is, tru?, gNot, gLe, gLt, gGt, gGe, gCmp, gTru, gBl, gLen, gItems, gFld, gIx, gAdd_int, gSub, gNeg, gTuple, gList, gIsN, gNotN, gPart, gtName, gtTup, gtCons, gtNil, sFor, sFor.go, frz, wipeR, fYes, startI, fnI, isNon, noer, LIM, gSortedRev, gSorted, pre_len, gRev, gSum, gZip, gEnumA, gMax, gEnumA, gMin, B_all_takings_1, e1, hlt, dP]
    simp [fnSem, startR, gIsi, ty6, Ty6.is, tru?, gNot, gLe, gLt, gGt, gGe, gCmp, gTru, gBl, gLen, gItems, gFld, gIx, gAdd_int, gSub, gNeg, gTuple, gList, gIsN, gNotN, gPart, gtName, gtTup, gtCons, gtNil, sFor, sFor.go, frz, wipeR, fYes, startI, fnI, isNon, noer, LIM, gSortedRev, gSorted, pre_len, gRev, gSum, gZip, gEnumA, gMax, gEnumA, gMin, dI_cons, hB]
    simp [fnSem, startR, gIsi, ty6, Ty6.is, tru?, gNot, gLe, gLt, gGt, gGe, gCmp, gTru, gBl, gLen, gItems, gFld, gIx, gAdd_int, gSub, gNeg, gTuple, gList, gIsN, gNotN, gPart, gtName, gtTup, gtCons, gtNil, sFor, sFor.go, frz, wipeR, fYes, startI, fnI, isNon, noer, LIM, gSortedRev, gSorted, pre_len, gRev, gSum, gZip, gEnumA, gMax, gEnumA, gMin] at hy
    exact hy
theorem takings_b2 {x0 x1 x2 x7 : Sl} {x r : Int} {am : List Int} {acc : List (List Int × Int)} (ha : am.length ≤ 100) (hx : 0 ≤ x) (hr : 0 ≤ r) (hl : (acc ++ tkRow x (am, r)).length ≤ 3000) (S : Store) : ∃ y7,
    B_all_takings_2 [x0, x1, x2, .fz (.int x), .ow (acc.map dP), .fz (.tup (dI am)), .fz (.int r), x7] S = .mk (.nx [x0, x1, x2, .fz (.int x), .ow ((acc ++ tkRow x (am, r)).map dP), .fz (.tup (dI am)), .fz (.int r), y7]) S := by
  have hmin : (if r < x then r else x) = min x r := by
    split <;> omega
  have hl' : acc.length + ((min x r).toNat + 1) ≤ 3000 := by
    unfold tkRow at hl
    simpa [fnSem, startR, gIsi, ty6, Ty6.is, tru?, gNot, gLe, gLt, gGt, gGe, gCmp, gTru, gBl, gLen, gItems, gFld, gIx, gAdd_int, gSub, gNeg, gTuple, gList, gIsN, gNotN, gPart, gtName, gtTup, gtCons, gtNil, sFor, sFor.go, frz, wipeR, fYes, startI, fnI, isNon, noer, LIM, gSortedRev, gSorted, pre_len, gRev, gSum, gZip, gEnumA, gMax, gEnumA, gMin] using hl
  obtain ⟨y7, h⟩ := takings_b1 (x0 := x0) (x1 := x1) (x2 := x2) (x3 := .fz (.int x)) (r := r) ha S ((List.range ((min x r).toNat + 1)).map fun (k : Nat) => (k : Int)) acc x7 (by simp [fnSem, startR, gIsi, ty6, Ty6.is, tru?, gNot, gLe, gLt, gGt, gGe, gCmp, gTru, gBl, gLen, gItems, gFld, gIx, gAdd_int, gSub, gNeg, gTuple, gList, gIsN, gNotN, gPart, gtName, gtTup, gtCons, gtNil, sFor, sFor.go, frz, wipeR, fYes, startI, fnI, isNon, noer, LIM, gSortedRev, gSorted, pre_len, gRev, gSum, gZip, gEnumA, gMax, gEnumA, gMin]; omega)
  refine ⟨y7, ?_⟩
  have e : ((List.range ((min x r).toNat + 1)).map fun (k : Nat) => (k : Int)).map (fun k => (am ++ [k], r - k)) = tkRow x (am, r) := by
    unfold tkRow
    rw [List.map_map]
    rfl
  rw [e] at h
  have c : ¬ (3000 : Int) < (acc.length : Int) + min x r + 1 := by omega
  have c2 : (min x r + 1).toNat = (min x r).toNat + 1 := by omega
  unfold B_all_takings_2
  refine seq_go (if_n (by simp [fnSem, startR, gIsi, ty6, Ty6.is, tru?, gNot, gLe, gLt, gGt, gGe, gCmp, gTru, gBl, gLen, gItems, gFld, gIx, gAdd_int, gSub, gNeg, gTuple, gList, gIsN, gNotN, gPart, gtName, gtTup, gtCons, gtNil, sFor, sFor.go, frz, wipeR, fYes, startI, fnI, isNon, noer, LIM, gSortedRev, gSorted, pre_len, gRev, gSum, gZip, gEnumA, gMax, gEnumA, gMin, frzS, hmin, c]; rfl) rfl) ?_
  refine sFor_ok (ds := dI ((List.range ((min x r).toNat + 1)).map fun (k : Nat) => (k : Int))) (S1 := S) ?_ h
  have c3 : -1000000 ≤ min x r + 1 ∧ min x r + 1 ≤ 1000000 := by omega
  simp [fnSem, startR, gIsi, ty6, Ty6.is, tru?, gNot, gLe, gLt, gGt, gGe, gCmp, gTru, gBl, gLen, gItems, gFld, gIx, gAdd_int, gSub, gNeg, gTuple, gList, gIsN, gNotN, gPart, gtName, gtTup, gtCons, gtNil, sFor, sFor.go, frz, wipeR, fYes, startI, fnI, isNon, noer, LIM, gSortedRev, gSorted, pre_len, gRev, gSum, gZip, gEnumA, gMax, gEnumA, gMin, hmin, gRange1, c3, c2, rangeD0]
theorem takings_b2for {x0 x1 x2 : Sl} {x : Int} (hx : 0 ≤ x) (S : Store) : ∀ (F acc : List (List Int × Int)) (x5 x6 x7 : Sl), (∀ p ∈ F, p.1.length ≤ 100 ∧ 0 ≤ p.2) → (acc ++ tkStep F x).length ≤ 3000 → ∃ y5 y6 y7,
    sFor.go (gtTup 2 (gtCons (gtName 5) (gtCons (gtName 6) gtNil))) B_all_takings_2 (F.map dP) [x0, x1, x2, .fz (.int x), .ow (acc.map dP), x5, x6, x7] S = .mk (.nx [x0, x1, x2, .fz (.int x), .ow ((acc ++ tkStep F x).map dP), y5, y6, y7]) S := by
  intro F
  induction F with
  | nil => exact fun acc x5 x6 x7 _ _ => ⟨x5, x6, x7, by simp [fnSem, startR, gIsi, ty6, Ty6.is, tru?, gNot, gLe, gLt, gGt, gGe, gCmp, gTru, gBl, gLen, gItems, gFld, gIx, gAdd_int, gSub, gNeg, gTuple, gList, gIsN, gNotN, gPart, gtName, gtTup, gtCons, gtNil, sFor, sFor.go, frz, wipeR, fYes, startI, fnI, isNon, noer, LIM, gSortedRev, gSorted, pre_len, gRev, gSum, gZip, gEnumA, gMax, gEnumA, gMin, tkStep]⟩
  | cons p F ih =>
    intro acc x5 x6 x7 hp hl
    obtain ⟨am, r⟩ := p
    have hp0 := hp (am, r) (List.mem_cons_self ..)
    have e : tkStep ((am, r) :: F) x = tkRow x (am, r) ++ tkStep F x := rfl
    rw [e] at hl ⊢
    obtain ⟨z7, hB⟩ := takings_b2 (x0 := x0) (x1 := x1) (x2 := x2) (x7 := x7) (x := x) (acc := acc) hp0.1 hx hp0.2 (by simp [fnSem, startR, gIsi, ty6, Ty6.is, tru?, gNot, gLe, gLt, gGt, gGe, gCmp, gTru, gBl, gLen, gItems, gFld, gIx, gAdd_int, gSub, gNeg, gTuple, gList, gIsN, gNotN, gPart, gtName, gtTup, gtCons, gtNil, sFor, sFor.go, frz, wipeR, fYes, startI, fnI, isNon, noer, LIM, gSortedRev, gSorted, pre_len, gRev, gSum, gZip, gEnumA, gMax, gEnumA, gMin] at hl ⊢; omega) S
    obtain ⟨y5, y6, y7, hy⟩ := ih (acc ++ tkRow x (am, r)) (.fz (.tup (dI am))) (.fz (.int r)) z7 (fun q hq => hp q (List.mem_cons_of_mem _ hq)) (by rw [List.append_assoc]; exact hl)
    rw [List.append_assoc] at hy
    refine ⟨y5, y6, y7, ?_⟩
    rw [List.map_cons]
    unfold sFor.go
    simp only [dP, gtTup, gtCons, gtName, gtNil, List.length_cons, List.length_nil, Nat.reduceAdd, Nat.reduceLT, if_true, List.set_cons_succ, List.set_cons_zero, Option.bind_some]
    rw [hB]
    exact hy
theorem tk_len : ∀ (l : List Int) (F : List (List Int × Int)) (n : Nat), (∀ p ∈ F, p.1.length = n) → ∀ p ∈ l.foldl tkStep F, p.1.length = n + l.length
  | [], F, n, h => by simpa [fnSem, startR, gIsi, ty6, Ty6.is, tru?, gNot, gLe, gLt, gGt, gGe, gCmp, gTru, gBl, gLen, gItems, gFld, gIx, gAdd_int, gSub, gNeg, gTuple, gList, gIsN, gNotN, gPart, gtName, gtTup, gtCons, gtNil, sFor, sFor.go, frz, wipeR, fYes, startI, fnI, isNon, noer, LIM, gSortedRev, gSorted, pre_len, gRev, gSum, gZip, gEnumA, gMax, gEnumA, gMin] using h
  | x :: l, F, n, h => by
    intro p hp
    have := tk_len l (tkStep F x) (n + 1) (fun q hq => by
      obtain ⟨p', hp', hq'⟩ := List.mem_flatMap.mp hq
      obtain ⟨k, _, rfl⟩ := List.mem_map.mp hq'
      simp [fnSem, startR, gIsi, ty6, Ty6.is, tru?, gNot, gLe, gLt, gGt, gGe, gCmp, gTru, gBl, gLen, gItems, gFld, gIx, gAdd_int, gSub, gNeg, gTuple, gList, gIsN, gNotN, gPart, gtName, gtTup, gtCons, gtNil, sFor, sFor.go, frz, wipeR, fYes, startI, fnI, isNon, noer, LIM, gSortedRev, gSorted, pre_len, gRev, gSum, gZip, gEnumA, gMax, gEnumA, gMin, h p' hp']) p hp
    simp [fnSem, startR, gIsi, ty6, Ty6.is, tru?, gNot, gLe, gLt, gGt, gGe, gCmp, gTru, gBl, gLen, gItems, gFld, gIx, gAdd_int, gSub, gNeg, gTuple, gList, gIsN, gNotN, gPart, gtName, gtTup, gtCons, gtNil, sFor, sFor.go, frz, wipeR, fYes, startI, fnI, isNon, noer, LIM, gSortedRev, gSorted, pre_len, gRev, gSum, gZip, gEnumA, gMax, gEnumA, gMin]
    omega
theorem takings_for {x0 x1 : Sl} (S : Store) : ∀ (l : List Int) (F : List (List Int × Int)) (n : Nat) (x3 x4 x5 x6 x7 : Sl), (∀ x ∈ l, 0 ≤ x) → (∀ p ∈ F, p.1.length = n ∧ 0 ≤ p.2) → n + l.length ≤ 100 → cntF l.length F ≤ 3000 → ∃ y3 y4 y5 y6 y7,
    sFor.go (gtName 3) B_all_takings_3 (dI l) [x0, x1, .fz (.lst (F.map dP)), x3, x4, x5, x6, x7] S = .mk (.nx [x0, x1, .fz (.lst ((l.foldl tkStep F).map dP)), y3, y4, y5, y6, y7]) S := by
  intro l
  induction l with
  | nil => exact fun F n x3 x4 x5 x6 x7 _ _ _ _ => ⟨x3, x4, x5, x6, x7, by simp [fnSem, startR, gIsi, ty6, Ty6.is, tru?, gNot, gLe, gLt, gGt, gGe, gCmp, gTru, gBl, gLen, gItems, gFld, gIx, gAdd_int, gSub, gNeg, gTuple, gList, gIsN, gNotN, gPart, gtName, gtTup, gtCons, gtNil, sFor, sFor.go, frz, wipeR, fYes, startI, fnI, isNon, noer, LIM, gSortedRev, gSorted, pre_len, gRev, gSum, gZip, gEnumA, gMax, gEnumA, gMin]⟩
  | cons x l ih =>
    intro F n x3 x4 x5 x6 x7 hl hF hn hc
    have hx := hl x (List.mem_cons_self ..)
    have hF2 : ∀ p ∈ F, 0 ≤ p.2 := fun p hp => (hF p hp).2
    have h1 := cntF_step l.length x hx F hF2
    have h2 := cntF_len l.length (tkStep F x)
    simp only [List.length_cons] at hn hc
    obtain ⟨y5, y6, y7, hB⟩ := takings_b2for (x0 := x0) (x1 := x1) (x2 := .fz (.lst (F.map dP))) hx S F [] x5 x6 x7 (fun p hp => ⟨by rw [(hF p hp).1]; omega, hF2 p hp⟩) (by simp [fnSem, startR, gIsi, ty6, Ty6.is, tru?, gNot, gLe, gLt, gGt, gGe, gCmp, gTru, gBl, gLen, gItems, gFld, gIx, gAdd_int, gSub, gNeg, gTuple, gList, gIsN, gNotN, gPart, gtName, gtTup, gtCons, gtNil, sFor, sFor.go, frz, wipeR, fYes, startI, fnI, isNon, noer, LIM, gSortedRev, gSorted, pre_len, gRev, gSum, gZip, gEnumA, gMax, gEnumA, gMin]; omega)
    rw [List.nil_append, List.map_nil] at hB
    obtain ⟨z3, z4, z5, z6, z7, hy⟩ := ih (tkStep F x) (n + 1) (.fz (.int x)) (.fz (.lst ((tkStep F x).map dP))) y5 y6 y7 (fun y hy => hl y (List.mem_cons_of_mem _ hy)) (fun q hq => ⟨by
      obtain ⟨p', hp', hq'⟩ := List.mem_flatMap.mp hq
      obtain ⟨k, _, rfl⟩ := List.mem_map.mp hq'
      simp [fnSem, startR, gIsi, ty6, Ty6.is, tru?, gNot, gLe, gLt, gGt, gGe, gCmp, gTru, gBl, gLen, gItems, gFld, gIx, gAdd_int, gSub, gNeg, gTuple, gList, gIsN, gNotN, gPart, gtName, gtTup, gtCons, gtNil, sFor, sFor.go, frz, wipeR, fYes, startI, fnI, isNon, noer, LIM, gSortedRev, gSorted, pre_len, gRev, gSum, gZip, gEnumA, gMax, gEnumA, gMin, (hF p' hp').1], step_rest hx hF2 q hq⟩) (by omega) (by omega)
    refine ⟨z3, z4, z5, z6, z7, ?_⟩
    have hB3 : B_all_takings_3 [x0, x1, .fz (.lst (F.map dP)), .fz (.int x), x4, x5, x6, x7] S = .mk (.nx [x0, x1, .fz (.lst ((tkStep F x).map dP)), .fz (.int x), .fz (.lst ((tkStep F x).map dP)), y5, y6, y7]) S := by
      unfold B_all_takings_3
      refine seq_go (by ((conv => (lhs; simp (discharger := first | (simp [fnSem, startR, gIsi, ty6, Ty6.is, tru?, gNot, gLe, gLt, gGt, gGe, gCmp, gTru, gBl, gLen, gItems, gFld, gIx, gAdd_int, gSub, gNeg, gTuple, gList, gIsN, gNotN, gPart, gtName, gtTup, gtCons, gtNil, sFor, sFor.go, frz, wipeR, fYes, startI, fnI, isNon, noer, LIM, gSortedRev, gSorted, pre_len, gRev, gSum, gZip, gEnumA, gMax, gEnumA, gMin]; done) | omega | (simp [fnSem, startR, gIsi, ty6, Ty6.is, tru?, gNot, gLe, gLt, gGt, gGe, gCmp, gTru, gBl, gLen, gItems, gFld, gIx, gAdd_int, gSub, gNeg, gTuple, gList, gIsN, gNotN, gPart, gtName, gtTup, gtCons, gtNil, sFor, sFor.go, frz, wipeR, fYes, startI, fnI, isNon, noer, LIM, gSortedRev, gSorted, pre_len, gRev, gSum, gZip, gEnumA, gMax, gEnumA, gMin]; omega)) [fnSem, startR, gIsi, ty6, Ty6.is, tru?, gNot, gLe, gLt, gGt, gGe, gCmp, gTru, gBl, gLen, gItems, gFld, gIx, gAdd_int, gSub, gNeg, gTuple, gList, gIsN, gNotN, gPart, gtName, gtTup, gtCons, gtNil, sFor, sFor.go, frz, wipeR, fYes, startI, fnI, isNon, noer, LIM, gSortedRev, gSorted, pre_len, gRev, gSum, gZip, gEnumA, gMax, gEnumA, gMin, ite_le, ite_lt, gFdiv_ok, gMod_ok, gRange1_ok, gRange2_ok, gPow_ok, gAddL_ok, gAddT_ok, gAdd_int, fLc, rangeD0, ix0, ix1, ix2, gSl_takeL, gSl_dropL, gSl_takeT, gSl_dropT, map_int])) <;> exact rfl)) ?_
      refine seq_go (sFor_ok (ds := F.map dP) (S1 := S) (by simp [fnSem, startR, gIsi, ty6, Ty6.is, tru?, gNot, gLe, gLt, gGt, gGe, gCmp, gTru, gBl, gLen, gItems, gFld, gIx, gAdd_int, gSub, gNeg, gTuple, gList, gIsN, gNotN, gPart, gtName, gtTup, gtCons, gtNil, sFor, sFor.go, frz, wipeR, fYes, startI, fnI, isNon, noer, LIM, gSortedRev, gSorted, pre_len, gRev, gSum, gZip, gEnumA, gMax, gEnumA, gMin]) hB) ?_
      simp [fnSem, startR, gIsi, ty6, Ty6.is, tru?, gNot, gLe, gLt, gGt, gGe, gCmp, gTru, gBl, gLen, gItems, gFld, gIx, gAdd_int, gSub, gNeg, gTuple, gList, gIsN, gNotN, gPart, gtName, gtTup, gtCons, gtNil, sFor, sFor.go, frz, wipeR, fYes, startI, fnI, isNon, noer, LIM, gSortedRev, gSorted, pre_len, gRev, gSum, gZip, gEnumA, gMax, gEnumA, gMin]
    rw [dI_cons]
    unfold sFor.go
    simp only [gtName, List.length_cons, List.length_nil, Nat.reduceAdd, Nat.reduceLT, if_true, List.set_cons_succ, List.set_cons_zero]
    rw [hB3]
    exact hy
theorem e_all_takings {l : List Int} {t : Int} (hl : ∀ x ∈ l, 0 ≤ x) (h8 : l.length ≤ 8) (ht : 0 ≤ t) (hc : cnt l.length t.toNat ≤ 3000) (S : Store) : F_all_takings [.tup (dI l), .int t] S = .ok (.lst ((tkAll l t).map fun p => .tup (dI p.1))) S := by
  obtain ⟨y3, y4, y5, y6, y7, h⟩ := takings_for (x0 := .fz (.tup (dI l))) (x1 := .fz (.int t)) S l [([], t)] 0 .un .un .un .un .un hl (by simp [fnSem, startR, gIsi, ty6, Ty6.is, tru?, gNot, gLe, gLt, gGt, gGe, gCmp, gTru, gBl, gLen, gItems, gFld, gIx, gAdd_int, gSub, gNeg, gTuple, gList, gIsN, gNotN, gPart, gtName, gtTup, gtCons, gtNil, sFor, sFor.go, frz, wipeR, fYes, startI, fnI, isNon, noer, LIM, gSortedRev, gSorted, pre_len, gRev, gSum, gZip, gEnumA, gMax, gEnumA, gMin]; exact ht) (by omega) (by simpa [fnSem, startR, gIsi, ty6, Ty6.is, tru?, gNot, gLe, gLt, gGt, gGe, gCmp, gTru, gBl, gLen, gItems, gFld, gIx, gAdd_int, gSub, gNeg, gTuple, gList, gIsN, gNotN, gPart, gtName, gtTup, gtCons, gtNil, sFor, sFor.go, frz, wipeR, fYes, startI, fnI, isNon, noer, LIM, gSortedRev, gSorted, pre_len, gRev, gSum, gZip, gEnumA, gMax, gEnumA, gMin, cntF] using hc)
  have hb := (tk_bound l [([], t)] hl (by simp [fnSem, startR, gIsi, ty6, Ty6.is, tru?, gNot, gLe, gLt, gGt, gGe, gCmp, gTru, gBl, gLen, gItems, gFld, gIx, gAdd_int, gSub, gNeg, gTuple, gList, gIsN, gNotN, gPart, gtName, gtTup, gtCons, gtNil, sFor, sFor.go, frz, wipeR, fYes, startI, fnI, isNon, noer, LIM, gSortedRev, gSorted, pre_len, gRev, gSum, gZip, gEnumA, gMax, gEnumA, gMin]; exact ht)).1
  have hb : (tkAll l t).length ≤ 3000 := Nat.le_trans hb (by simpa [fnSem, startR, gIsi, ty6, Ty6.is, tru?, gNot, gLe, gLt, gGt, gGe, gCmp, gTru, gBl, gLen, gItems, gFld, gIx, gAdd_int, gSub, gNeg, gTuple, gList, gIsN, gNotN, gPart, gtName, gtTup, gtCons, gtNil, sFor, sFor.go, frz, wipeR, fYes, startI, fnI, isNon, noer, LIM, gSortedRev, gSorted, pre_len, gRev, gSum, gZip, gEnumA, gMax, gEnumA, gMin, cntF] using hc)
  have e1 := lc_encM (g := gtTup 2 (gtCons (gtName 5) (gtCons (gtName 6) gtNil))) (e := E_all_takings_1) (ρ := [.fz (.tup (dI l)), .fz (.int t), .fz (.lst ((tkAll l t).map dP)), y3, y4, .un, .un, y7]) (S := S) dP (fun p : List Int × Int => D.tup (dI p.1)) (fun p => p) (tkAll l t) []
    (fun a ha => ⟨[.fz (.tup (dI l)), .fz (.int t), .fz (.lst ((tkAll l t).map dP)), y3, y4, .fz (.tup (dI a.1)), .fz (.int a.2), y7], by simp [fnSem, startR, gIsi, ty6, Ty6.is, tru?, gNot, gLe, gLt, gGt, gGe, gCmp, gTru, gBl, gLen, gItems, gFld, gIx, gAdd_int, gSub, gNeg, gTuple, gList, gIsN, gNotN, gPart, gtName, gtTup, gtCons, gtNil, sFor, sFor.go, frz, wipeR, fYes, startI, fnI, isNon, noer, LIM, gSortedRev, gSorted, pre_len, gRev, gSum, gZip, gEnumA, gMax, gEnumA, gMin, dP], by simp [fnSem, startR, gIsi, ty6, Ty6.is, tru?, gNot, gLe, gLt, gGt, gGe, gCmp, gTru, gBl, gLen, gItems, gFld, gIx, gAdd_int, gSub, gNeg, gTuple, gList, gIsN, gNotN, gPart, gtName, gtTup, gtCons, gtNil, sFor, sFor.go, frz, wipeR, fYes, startI, fnI, isNon, noer, LIM, gSortedRev, gSorted, pre_len, gRev, gSum, gZip, gEnumA, gMax, gEnumA, gMin, E_all_takings_1]⟩)
  rw [List.nil_append, List.map_id'] at e1
  unfold F_all_takings S_all_takings
  refine fn_rt ?_
  simp only [startR, List.map_cons, List.map_nil, List.length_cons, List.length_nil, Nat.reduceAdd, Nat.reduceSub, List.replicate, List.cons_append, List.nil_append]
  refine seq_go (by ((conv => (lhs; simp (discharger := first | (simp [fnSem, startR, gIsi, ty6, Ty6.is, tru?, gNot, gLe, gLt, gGt, gGe, gCmp, gTru, gBl, gLen, gItems, gFld, gIx, gAdd_int, gSub, gNeg, gTuple, gList, gIsN, gNotN, gPart, gtName, gtTup, gtCons, gtNil, sFor, sFor.go, frz, wipeR, fYes, startI, fnI, isNon, noer, LIM, gSortedRev, gSorted, pre_len, gRev, gSum, gZip, gEnumA, gMax, gEnumA, gMin]; done) | omega | (simp [fnSem, startR, gIsi, ty6, Ty6.is, tru?, gNot, gLe, gLt, gGt, gGe, gCmp, gTru, gBl, gLen, gItems, gFld, gIx, gAdd_int, gSub, gNeg, gTuple, gList, gIsN, gNotN, gPart, gtName, gtTup, gtCons, gtNil, sFor, sFor.go, frz, wipeR, fYes, startI, fnI, isNon, noer, LIM, gSortedRev, gSorted, pre_len, gRev, gSum, gZip, gEnumA, gMax, gEnumA, gMin]; omega)) [fnSem, startR, gIsi, ty6, Ty6.is, tru?, gNot, gLe, gLt, gGt, gGe, gCmp, gTru, gBl, gLen, gItems, gFld, gIx, gAdd_int, gSub, gNeg, gTuple, gList, gIsN, gNotN, gPart, gtName, gtTup, gtCons, gtNil, sFor, sFor.go, frz, wipeR, fYes, startI, fnI, isNon, noer, LIM, gSortedRev, gSorted, pre_len, gRev, gSum, gZip, gEnumA, gMax, gEnumA, gMin, ite_le, ite_lt, gFdiv_ok, gMod_ok, gRange1_ok, gRange2_ok, gPow_ok, gAddL_ok, gAddT_ok, gAdd_int, fLc, rangeD0, ix0, ix1, ix2, gSl_takeL, gSl_dropL, gSl_takeT, gSl_dropT, map_int])) <;> exact rfl)) ?_
  refine seq_go (sFor_ok (ds := dI l) (S1 := S) (by simp [fnSem, startR, gIsi, ty6, Ty6.is, tru?, gNot, gLe, gLt, gGt, gGe, gCmp, gTru, gBl, gLen, gItems, gFld, gIx, gAdd_int, gSub, gNeg, gTuple, gList, gIsN, gNotN, gPart, gtName, gtTup, gtCons, gtNil, sFor, sFor.go, frz, wipeR, fYes, startI, fnI, isNon, noer, LIM, gSortedRev, gSorted, pre_len, gRev, gSum, gZip, gEnumA, gMax, gEnumA, gMin]) h) ?_
  have hlen : (tkAll l t).length ≤ 1000000 := by omega
  have e2 : l.foldl tkStep [([], t)] = tkAll l t := rfl
  rw [e2]
  simp [fnSem, startR, gIsi, ty6, Ty6.is, tru?, gNot, gLe, gLt, gGt, gGe, gCmp, gTru, gBl, gLen, gItems, gFld, gIx, gAdd_int, gSub, gNeg, gTuple, gList, gIsN, gNotN, gPart, gtName, gtTup, gtCons, gtNil, sFor, sFor.go, frz, wipeR, fYes, startI, fnI, isNon, noer, LIM, gSortedRev, gSorted, pre_len, gRev, gSum, gZip, gEnumA, gMax, gEnumA, gMin, fLc, e1, hlen]

end Bx

namespace Bx
open PySem L2
/-! ### the draws -/
theorem pick4 {a b c d v : Int} (h0 : 0 ≤ v) (h : v < 4) : ∃ x, atI [D.int a, D.int b, D.int c, D.int d] v = some (.int x) ∧ (x = a ∨ x = b ∨ x = c ∨ x = d) := by
  have : v = 0 ∨ v = 1 ∨ v = 2 ∨ v = 3 := by omega
  rcases this with rfl | rfl | rfl | rfl
  · exact ⟨a, rfl, .inl rfl⟩
  · exact ⟨b, rfl, .inr (.inl rfl)⟩
  · exact ⟨c, rfl, .inr (.inr (.inl rfl))⟩
  · exact ⟨d, rfl, .inr (.inr (.inr rfl))⟩
theorem pick3 {a b c v : Int} (h0 : 0 ≤ v) (h : v < 3) : ∃ x, atI [D.int a, D.int b, D.int c] v = some (.int x) ∧ (x = a ∨ x = b ∨ x = c) := by
  have : v = 0 ∨ v = 1 ∨ v = 2 := by omega
  rcases this with rfl | rfl | rfl
  · exact ⟨a, rfl, .inl rfl⟩
  · exact ⟨b, rfl, .inr (.inl rfl)⟩
  · exact ⟨c, rfl, .inr (.inr rfl)⟩
theorem mix_for (S : Store) {x0 x1 : Sl} : ∀ (l : List Int) (s : Int) (x3 : Sl), ∃ s' y3, sFor.go (gtName 3) B_law_mix_1 (dI l) [x0, x1, .fz (.int s), x3] S = .mk (.nx [x0, x1, .fz (.int s'), y3]) S := by
  intro l
  induction l with
  | nil => exact fun s x3 => ⟨s, x3, by simp [fnSem, startR, gIsi, ty6, Ty6.is, tru?, gNot, gLe, gLt, gGt, gGe, gCmp, gTru, gBl, gLen, gItems, gFld, gIx, gAdd_int, gSub, gNeg, gTuple, gList, gIsN, gNotN, gPart, gtName, gtTup, gtCons, gtNil, sFor, sFor.go, frz, wipeR, fYes, startI, fnI, isNon, noer, LIM, gSortedRev, gSorted, pre_len, gRev, gSum, gZip, gEnumA, gMax, gEnumA, gMin, gInt, gMin]⟩
  | cons a l ih =>
    intro s x3
    obtain ⟨s', y3, h⟩ := ih ((s * 48271 + a % 2147483629 + 1) % 2147483647) (.fz (.int a))
    have hb : B_law_mix_1 [x0, x1, .fz (.int s), .fz (.int a)] S = .mk (.nx [x0, x1, .fz (.int ((s * 48271 + a % 2147483629 + 1) % 2147483647)), .fz (.int a)]) S := by
      simp (discharger := first | (simp [fnSem, startR, gIsi, ty6, Ty6.is, tru?, gNot, gLe, gLt, gGt, gGe, gCmp, gTru, gBl, gLen, gItems, gFld, gIx, gAdd_int, gSub, gNeg, gTuple, gList, gIsN, gNotN, gPart, gtName, gtTup, gtCons, gtNil, sFor, sFor.go, frz, wipeR, fYes, startI, fnI, isNon, noer, LIM, gSortedRev, gSorted, pre_len, gRev, gSum, gZip, gEnumA, gMax, gEnumA, gMin, gInt, gMin]; done) | omega | (simp [fnSem, startR, gIsi, ty6, Ty6.is, tru?, gNot, gLe, gLt, gGt, gGe, gCmp, gTru, gBl, gLen, gItems, gFld, gIx, gAdd_int, gSub, gNeg, gTuple, gList, gIsN, gNotN, gPart, gtName, gtTup, gtCons, gtNil, sFor, sFor.go, frz, wipeR, fYes, startI, fnI, isNon, noer, LIM, gSortedRev, gSorted, pre_len, gRev, gSum, gZip, gEnumA, gMax, gEnumA, gMin, gInt, gMin]; omega)) [fnSem, startR, gIsi, ty6, Ty6.is, tru?, gNot, gLe, gLt, gGt, gGe, gCmp, gTru, gBl, gLen, gItems, gFld, gIx, gAdd_int, gSub, gNeg, gTuple, gList, gIsN, gNotN, gPart, gtName, gtTup, gtCons, gtNil, sFor, sFor.go, frz, wipeR, fYes, startI, fnI, isNon, noer, LIM, gSortedRev, gSorted, pre_len, gRev, gSum, gZip, gEnumA, gMax, gEnumA, gMin, gInt, gMin, ite_le, ite_lt, gFdiv_ok, gMod_ok, gRange1_ok, gRange2_ok, gPow_ok, gAddL_ok, gAddT_ok, gAdd_int, fLc, rangeD0, ix0, ix1, ix2, gSl_takeL, gSl_dropL, gSl_takeT, gSl_dropT, map_int, B_law_mix_1, gMulR_ok]
    exact ⟨s', y3, by simp [fnSem, startR, gIsi, ty6, Ty6.is, tru?, gNot, gLe, gLt, gGt, gGe, gCmp, gTru, gBl, gLen, gItems, gFld, gIx, gAdd_int, gSub, gNeg, gTuple, gList, gIsN, gNotN, gPart, gtName, gtTup, gtCons, gtNil, sFor, sFor.go, frz, wipeR, fYes, startI, fnI, isNon, noer, LIM, gSortedRev, gSorted, pre_len, gRev, gSum, gZip, gEnumA, gMax, gEnumA, gMin, gInt, gMin, dI_cons, hb, h]⟩
theorem e_mix {ns : List Int} (hn : ns.length ≤ 63) (k : Int) : ∃ S', F_law_mix [.scr ns, .int k] [] = .ok (.ref 0) S' ∧ Src S' := by
  obtain ⟨s', y3, h⟩ := mix_for [] (x0 := .fz (.scr ns)) (x1 := .fz (.int k)) ns k .un
  refine ⟨[.src s' ns 0], ?_, s', 0, ns, rfl, by omega⟩
  simp (discharger := first | (simp [fnSem, startR, gIsi, ty6, Ty6.is, tru?, gNot, gLe, gLt, gGt, gGe, gCmp, gTru, gBl, gLen, gItems, gFld, gIx, gAdd_int, gSub, gNeg, gTuple, gList, gIsN, gNotN, gPart, gtName, gtTup, gtCons, gtNil, sFor, sFor.go, frz, wipeR, fYes, startI, fnI, isNon, noer, LIM, gSortedRev, gSorted, pre_len, gRev, gSum, gZip, gEnumA, gMax, gEnumA, gMin, gInt, gMin]; done) | omega | (simp [fnSem, startR, gIsi, ty6, Ty6.is, tru?, gNot, gLe, gLt, gGt, gGe, gCmp, gTru, gBl, gLen, gItems, gFld, gIx, gAdd_int, gSub, gNeg, gTuple, gList, gIsN, gNotN, gPart, gtName, gtTup, gtCons, gtNil, sFor, sFor.go, frz, wipeR, fYes, startI, fnI, isNon, noer, LIM, gSortedRev, gSorted, pre_len, gRev, gSum, gZip, gEnumA, gMax, gEnumA, gMin, gInt, gMin]; omega)) [fnSem, startR, gIsi, ty6, Ty6.is, tru?, gNot, gLe, gLt, gGt, gGe, gCmp, gTru, gBl, gLen, gItems, gFld, gIx, gAdd_int, gSub, gNeg, gTuple, gList, gIsN, gNotN, gPart, gtName, gtTup, gtCons, gtNil, sFor, sFor.go, frz, wipeR, fYes, startI, fnI, isNon, noer, LIM, gSortedRev, gSorted, pre_len, gRev, gSum, gZip, gEnumA, gMax, gEnumA, gMin, gInt, gMin, ite_le, ite_lt, gFdiv_ok, gMod_ok, gRange1_ok, gRange2_ok, gPow_ok, gAddL_ok, gAddT_ok, gAdd_int, fLc, rangeD0, ix0, ix1, ix2, gSl_takeL, gSl_dropL, gSl_takeT, gSl_dropT, map_int, F_law_mix, S_law_mix, h, srcOf]
theorem game_body {bs z mo tk st nr : Int} {acc : List Int} {x8 x9 x10 : Sl} {S : Store} (hS : Src S) (hz : 1 ≤ z) (hz2 : z ≤ 1000) (hn : 0 ≤ nr ∧ nr < z) (ha : acc.length ≤ 100) :
    ∃ (a : Int) (y9 y10 : Sl) (S' : Store), B_law_game_1 [.fz (.ref 0), .fz (.int bs), .fz (.int z), .fz (.int mo), .fz (.int tk), .fz (.int st), .fz (.int nr), .ow (dI acc), x8, x9, x10] S = .mk (.nx [.fz (.ref 0), .fz (.int bs), .fz (.int z), .fz (.int mo), .fz (.int tk), .fz (.int st), .fz (.int nr), .ow (dI (acc ++ [a])), x8, y9, y10]) S' ∧ Src S' ∧ 1 ≤ a ∧ a ≤ z := by
  obtain ⟨v1, S1, e1, l1, u1, h1⟩ := e_next hS (b := z) (by omega) (by omega)
  obtain ⟨v2, S2, e2, l2, u2, h2⟩ := e_next h1 (b := 3) (by omega) (by omega)
  obtain ⟨v3, S3, e3, l3, u3, h3⟩ := e_next h2 (b := 3) (by omega) (by omega)
  refine ⟨if v3 = 0 then 1 + v1 else 1 + (if nr + v2 < z - 1 then nr + v2 else z - 1), .fz (.int v1), .fz (.int (if nr + v2 < z - 1 then nr + v2 else z - 1)), S3, ?_, h3, ?_, ?_⟩
  · by_cases c : v3 = 0
    · subst c
      simp (discharger := first | (simp [fnSem, startR, gIsi, ty6, Ty6.is, tru?, gNot, gLe, gLt, gGt, gGe, gCmp, gTru, gBl, gLen, gItems, gFld, gIx, gAdd_int, gSub, gNeg, gTuple, gList, gIsN, gNotN, gPart, gtName, gtTup, gtCons, gtNil, sFor, sFor.go, frz, wipeR, fYes, startI, fnI, isNon, noer, LIM, gSortedRev, gSorted, pre_len, gRev, gSum, gZip, gEnumA, gMax, gEnumA, gMin, gInt, gMin]; done) | omega | (simp [fnSem, startR, gIsi, ty6, Ty6.is, tru?, gNot, gLe, gLt, gGt, gGe, gCmp, gTru, gBl, gLen, gItems, gFld, gIx, gAdd_int, gSub, gNeg, gTuple, gList, gIsN, gNotN, gPart, gtName, gtTup, gtCons, gtNil, sFor, sFor.go, frz, wipeR, fYes, startI, fnI, isNon, noer, LIM, gSortedRev, gSorted, pre_len, gRev, gSum, gZip, gEnumA, gMax, gEnumA, gMin, gInt, gMin]; omega)) [fnSem, startR, gIsi, ty6, Ty6.is, tru?, gNot, gLe, gLt, gGt, gGe, gCmp, gTru, gBl, gLen, gItems, gFld, gIx, gAdd_int, gSub, gNeg, gTuple, gList, gIsN, gNotN, gPart, gtName, gtTup, gtCons, gtNil, sFor, sFor.go, frz, wipeR, fYes, startI, fnI, isNon, noer, LIM, gSortedRev, gSorted, pre_len, gRev, gSum, gZip, gEnumA, gMax, gEnumA, gMin, gInt, gMin, ite_le, ite_lt, gFdiv_ok, gMod_ok, gRange1_ok, gRange2_ok, gPow_ok, gAddL_ok, gAddT_ok, gAdd_int, fLc, rangeD0, ix0, ix1, ix2, gSl_takeL, gSl_dropL, gSl_takeT, gSl_dropT, map_int, B_law_game_1, e1, e2, e3]
    · simp (discharger := first | (simp [fnSem, startR, gIsi, ty6, Ty6.is, tru?, gNot, gLe, gLt, gGt, gGe, gCmp, gTru, gBl, gLen, gItems, gFld, gIx, gAdd_int, gSub, gNeg, gTuple, gList, gIsN, gNotN, gPart, gtName, gtTup, gtCons, gtNil, sFor, sFor.go, frz, wipeR, fYes, startI, fnI, isNon, noer, LIM, gSortedRev, gSorted, pre_len, gRev, gSum, gZip, gEnumA, gMax, gEnumA, gMin, gInt, gMin]; done) | omega | (simp [fnSem, startR, gIsi, ty6, Ty6.is, tru?, gNot, gLe, gLt, gGt, gGe, gCmp, gTru, gBl, gLen, gItems, gFld, gIx, gAdd_int, gSub, gNeg, gTuple, gList, gIsN, gNotN, gPart, gtName, gtTup, gtCons, gtNil, sFor, sFor.go, frz, wipeR, fYes, startI, fnI, isNon, noer, LIM, gSortedRev, gSorted, pre_len, gRev, gSum, gZip, gEnumA, gMax, gEnumA, gMin, gInt, gMin]; omega)) [fnSem, startR, gIsi, ty6, Ty6.is, tru?, gNot, gLe, gLt, gGt, gGe, gCmp, gTru, gBl, gLen, gItems, gFld, gIx, gAdd_int, gSub, gNeg, gTuple, gList, gIsN, gNotN, gPart, gtName, gtTup, gtCons, gtNil, sFor, sFor.go, frz, wipeR, fYes, startI, fnI, isNon, noer, LIM, gSortedRev, gSorted, pre_len, gRev, gSum, gZip, gEnumA, gMax, gEnumA, gMin, gInt, gMin, ite_le, ite_lt, gFdiv_ok, gMod_ok, gRange1_ok, gRange2_ok, gPow_ok, gAddL_ok, gAddT_ok, gAdd_int, fLc, rangeD0, ix0, ix1, ix2, gSl_takeL, gSl_dropL, gSl_takeT, gSl_dropT, map_int, B_law_game_1, e1, e2, e3, c]
  · split
    · omega
    · split <;> omega
  · split
    · omega
    · split <;> omega
theorem game_for {bs z mo tk st nr : Int} (hz : 1 ≤ z) (hz2 : z ≤ 1000) (hn : 0 ≤ nr ∧ nr < z) : ∀ (l acc : List Int) (x8 x9 x10 : Sl) (S : Store), Src S → acc.length + l.length ≤ 100 → (∀ a ∈ acc, 1 ≤ a ∧ a ≤ z) →
    ∃ (bx : List Int) (y8 y9 y10 : Sl) (S' : Store), sFor.go (gtName 8) B_law_game_1 (dI l) [.fz (.ref 0), .fz (.int bs), .fz (.int z), .fz (.int mo), .fz (.int tk), .fz (.int st), .fz (.int nr), .ow (dI acc), x8, x9, x10] S = .mk (.nx [.fz (.ref 0), .fz (.int bs), .fz (.int z), .fz (.int mo), .fz (.int tk), .fz (.int st), .fz (.int nr), .ow (dI bx), y8, y9, y10]) S' ∧ Src S' ∧ bx.length = acc.length + l.length ∧ ∀ a ∈ bx, 1 ≤ a ∧ a ≤ z := by
  intro l
  induction l with
  | nil => exact fun acc x8 x9 x10 S hS _ h => ⟨acc, x8, x9, x10, S, by simp [fnSem, startR, gIsi, ty6, Ty6.is, tru?, gNot, gLe, gLt, gGt, gGe, gCmp, gTru, gBl, gLen, gItems, gFld, gIx, gAdd_int, gSub, gNeg, gTuple, gList, gIsN, gNotN, gPart, gtName, gtTup, gtCons, gtNil, sFor, sFor.go, frz, wipeR, fYes, startI, fnI, isNon, noer, LIM, gSortedRev, gSorted, pre_len, gRev, gSum, gZip, gEnumA, gMax, gEnumA, gMin, gInt, gMin], hS, by simp [fnSem, startR, gIsi, ty6, Ty6.is, tru?, gNot, gLe, gLt, gGt, gGe, gCmp, gTru, gBl, gLen, gItems, gFld, gIx, gAdd_int, gSub, gNeg, gTuple, gList, gIsN, gNotN, gPart, gtName, gtTup, gtCons, gtNil, sFor, sFor.go, frz, wipeR, fYes, startI, fnI, isNon, noer, LIM, gSortedRev, gSorted, pre_len, gRev, gSum, gZip, gEnumA, gMax, gEnumA, gMin, gInt, gMin], h⟩
  | cons k l ih =>
    intro acc x8 x9 x10 S hS hl h
    simp [fnSem, startR, gIsi, ty6, Ty6.is, tru?, gNot, gLe, gLt, gGt, gGe, gCmp, gTru, gBl, gLen, gItems, gFld, gIx, gAdd_int, gSub, gNeg, gTuple, gList, gIsN, gNotN, gPart, gtName, gtTup, gtCons, gtNil, sFor, sFor.go, frz, wipeR, fYes, startI, fnI, isNon, noer, LIM, gSortedRev, gSorted, pre_len, gRev, gSum, gZip, gEnumA, gMax, gEnumA, gMin, gInt, gMin] at hl
    obtain ⟨a, y9, y10, S1, e1, h1, l1, u1⟩ := game_body (bs := bs) (mo := mo) (tk := tk) (st := st) (x8 := .fz (.int k)) (x9 := x9) (x10 := x10) (acc := acc) hS hz hz2 hn (by omega)
    obtain ⟨bx, z8, z9, z10, S2, e2, h2, l2, u2⟩ := ih (acc ++ [a]) (.fz (.int k)) y9 y10 S1 h1 (by simp [fnSem, startR, gIsi, ty6, Ty6.is, tru?, gNot, gLe, gLt, gGt, gGe, gCmp, gTru, gBl, gLen, gItems, gFld, gIx, gAdd_int, gSub, gNeg, gTuple, gList, gIsN, gNotN, gPart, gtName, gtTup, gtCons, gtNil, sFor, sFor.go, frz, wipeR, fYes, startI, fnI, isNon, noer, LIM, gSortedRev, gSorted, pre_len, gRev, gSum, gZip, gEnumA, gMax, gEnumA, gMin, gInt, gMin]; omega) (fun x hx => by
      rcases List.mem_append.mp hx with hx | hx
      · exact h x hx
      · simp [fnSem, startR, gIsi, ty6, Ty6.is, tru?, gNot, gLe, gLt, gGt, gGe, gCmp, gTru, gBl, gLen, gItems, gFld, gIx, gAdd_int, gSub, gNeg, gTuple, gList, gIsN, gNotN, gPart, gtName, gtTup, gtCons, gtNil, sFor, sFor.go, frz, wipeR, fYes, startI, fnI, isNon, noer, LIM, gSortedRev, gSorted, pre_len, gRev, gSum, gZip, gEnumA, gMax, gEnumA, gMin, gInt, gMin] at hx; omega)
    exact ⟨bx, z8, z9, z10, S2, by simp [fnSem, startR, gIsi, ty6, Ty6.is, tru?, gNot, gLe, gLt, gGt, gGe, gCmp, gTru, gBl, gLen, gItems, gFld, gIx, gAdd_int, gSub, gNeg, gTuple, gList, gIsN, gNotN, gPart, gtName, gtTup, gtCons, gtNil, sFor, sFor.go, frz, wipeR, fYes, startI, fnI, isNon, noer, LIM, gSortedRev, gSorted, pre_len, gRev, gSum, gZip, gEnumA, gMax, gEnumA, gMin, gInt, gMin, dI_cons, e1, e2], h2, by simp [fnSem, startR, gIsi, ty6, Ty6.is, tru?, gNot, gLe, gLt, gGt, gGe, gCmp, gTru, gBl, gLen, gItems, gFld, gIx, gAdd_int, gSub, gNeg, gTuple, gList, gIsN, gNotN, gPart, gtName, gtTup, gtCons, gtNil, sFor, sFor.go, frz, wipeR, fYes, startI, fnI, isNon, noer, LIM, gSortedRev, gSorted, pre_len, gRev, gSum, gZip, gEnumA, gMax, gEnumA, gMin, gInt, gMin] at l2 ⊢; omega, u2⟩
def Gm.row (g : Gm) : D := .lst [.tup (dI g.bx), .int g.tk, .int g.st]
theorem e_game2 {bs z mo : Int} {S : Store} (hS : Src S) (hb : 1 ≤ bs) (hb2 : bs ≤ 8) (hz : 1 ≤ z) (hz2 : z ≤ 1000) (hm : 1 ≤ mo) (hm2 : mo ≤ 1000) : ∃ (g : Gm) (S' : Store), F_law_game [.ref 0, .int bs, .int z, .int mo] S = .ok g.row S' ∧ Src S' ∧ g.Ok ∧ (g.bx.length : Int) ≤ bs ∧ g.tk ≤ mo ∧ ∀ n ∈ g.bx, n ≤ z := by
  obtain ⟨v1, S1, e1, l1, u1, h1⟩ := e_next hS (b := mo) (by omega) (by omega)
  obtain ⟨v2, S2, e2, l2, u2, h2⟩ := e_next h1 (b := 4) (by omega) (by omega)
  obtain ⟨p, ep, hp⟩ := pick4 (a := 0) (b := 0) (c := 1) (d := 2) l2 u2
  obtain ⟨v3, S3, e3, l3, u3, h3⟩ := e_next h2 (b := z) (by omega) (by omega)
  obtain ⟨v4, S4, e4, l4, u4, h4⟩ := e_next h3 (b := bs) (by omega) (by omega)
  obtain ⟨bx, y8, y9, y10, S5, e5, h5, l5, u5⟩ := game_for (bs := bs) (mo := mo) (tk := 1 + v1) (st := 1 + p) hz hz2 ⟨l3, u3⟩ ((List.range (1 + v4).toNat).map fun (k : Nat) => (k : Int)) [] .un .un .un S4 h4 (by simp [fnSem, startR, gIsi, ty6, Ty6.is, tru?, gNot, gLe, gLt, gGt, gGe, gCmp, gTru, gBl, gLen, gItems, gFld, gIx, gAdd_int, gSub, gNeg, gTuple, gList, gIsN, gNotN, gPart, gtName, gtTup, gtCons, gtNil, sFor, sFor.go, frz, wipeR, fYes, startI, fnI, isNon, noer, LIM, gSortedRev, gSorted, pre_len, gRev, gSum, gZip, gEnumA, gMax, gEnumA, gMin, gInt, gMin]; omega) (by simp [fnSem, startR, gIsi, ty6, Ty6.is, tru?, gNot, gLe, gLt, gGt, gGe, gCmp, gTru, gBl, gLen, gItems, gFld, gIx, gAdd_int, gSub, gNeg, gTuple, gList, gIsN, gNotN, gPart, gtName, gtTup, gtCons, gtNil, sFor, sFor.go, frz, wipeR, fYes, startI, fnI, isNon, noer, LIM, gSortedRev, gSorted, pre_len, gRev, gSum, gZip, gEnumA, gMax, gEnumA, gMin, gInt, gMin])
  simp [fnSem, startR, gIsi, ty6, Ty6.is, tru?, gNot, gLe, gLt, gGt, gGe, gCmp, gTru, gBl, gLen, gItems, gFld, gIx, gAdd_int, gSub, gNeg, gTuple, gList, gIsN, gNotN, gPart, gtName, gtTup, gtCons, gtNil, sFor, sFor.go, frz, wipeR, fYes, startI, fnI, isNon, noer, LIM, gSortedRev, gSorted, pre_len, gRev, gSum, gZip, gEnumA, gMax, gEnumA, gMin, gInt, gMin] at e5 l5
  refine ⟨⟨bx, 1 + v1, (1 + p).toNat⟩, S5, ?_, h5, ⟨fun n hn => ?_, ?_, ?_, ?_, ?_⟩, ?_, ?_, fun n hn => (u5 n hn).2⟩
  · have ec : (((1 + p).toNat : Nat) : Int) = 1 + p := by omega
    simp (discharger := first | (simp [fnSem, startR, gIsi, ty6, Ty6.is, tru?, gNot, gLe, gLt, gGt, gGe, gCmp, gTru, gBl, gLen, gItems, gFld, gIx, gAdd_int, gSub, gNeg, gTuple, gList, gIsN, gNotN, gPart, gtName, gtTup, gtCons, gtNil, sFor, sFor.go, frz, wipeR, fYes, startI, fnI, isNon, noer, LIM, gSortedRev, gSorted, pre_len, gRev, gSum, gZip, gEnumA, gMax, gEnumA, gMin, gInt, gMin]; done) | omega | (simp [fnSem, startR, gIsi, ty6, Ty6.is, tru?, gNot, gLe, gLt, gGt, gGe, gCmp, gTru, gBl, gLen, gItems, gFld, gIx, gAdd_int, gSub, gNeg, gTuple, gList, gIsN, gNotN, gPart, gtName, gtTup, gtCons, gtNil, sFor, sFor.go, frz, wipeR, fYes, startI, fnI, isNon, noer, LIM, gSortedRev, gSorted, pre_len, gRev, gSum, gZip, gEnumA, gMax, gEnumA, gMin, gInt, gMin]; omega)) [fnSem, startR, gIsi, ty6, Ty6.is, tru?, gNot, gLe, gLt, gGt, gGe, gCmp, gTru, gBl, gLen, gItems, gFld, gIx, gAdd_int, gSub, gNeg, gTuple, gList, gIsN, gNotN, gPart, gtName, gtTup, gtCons, gtNil, sFor, sFor.go, frz, wipeR, fYes, startI, fnI, isNon, noer, LIM, gSortedRev, gSorted, pre_len, gRev, gSum, gZip, gEnumA, gMax, gEnumA, gMin, gInt, gMin, ite_le, ite_lt, gFdiv_ok, gMod_ok, gRange1_ok, gRange2_ok, gPow_ok, gAddL_ok, gAddT_ok, gAdd_int, fLc, rangeD0, ix0, ix1, ix2, gSl_takeL, gSl_dropL, gSl_takeT, gSl_dropT, map_int, F_law_game, S_law_game, e1, e2, ep, e3, e4, e5, Gm.row, ec]
  · have := u5 n hn
    unfold big
    omega
  · intro c
    simp only at c
    rw [c] at l5
    simp [fnSem, startR, gIsi, ty6, Ty6.is, tru?, gNot, gLe, gLt, gGt, gGe, gCmp, gTru, gBl, gLen, gItems, gFld, gIx, gAdd_int, gSub, gNeg, gTuple, gList, gIsN, gNotN, gPart, gtName, gtTup, gtCons, gtNil, sFor, sFor.go, frz, wipeR, fYes, startI, fnI, isNon, noer, LIM, gSortedRev, gSorted, pre_len, gRev, gSum, gZip, gEnumA, gMax, gEnumA, gMin, gInt, gMin] at l5
    omega
  · simp only; omega
  · unfold big
    simp only; omega
  · simp only; omega
  · simp only; omega
  · simp only; omega
theorem e_game {bs z mo : Int} {S : Store} (hS : Src S) (hb : 1 ≤ bs) (hb2 : bs ≤ 8) (hz : 1 ≤ z) (hz2 : z ≤ 1000) (hm : 1 ≤ mo) (hm2 : mo ≤ 1000) : ∃ (g : Gm) (S' : Store), F_law_game [.ref 0, .int bs, .int z, .int mo] S = .ok g.row S' ∧ Src S' ∧ g.Ok := by
  obtain ⟨g, S', a, b, c, _⟩ := e_game2 hS hb hb2 hz hz2 hm hm2
  exact ⟨g, S', a, b, c⟩

end Bx

namespace Bx
open PySem L2
end Bx

namespace Bx
open PySem L2
/-! ### place by place -/
def pw : List Int → List Int → Prop
  | [], [] => True
  | a :: as, c :: cs => a ≤ c ∧ pw as cs
  | _, _ => False
theorem pw_refl : ∀ l, pw l l
  | [] => trivial
  | a :: l => ⟨Int.le_refl a, pw_refl l⟩
theorem pw_len : ∀ {a c : List Int}, pw a c → a.length = c.length
  | [], [], _ => rfl
  | _ :: _, _ :: _, h => by simp [fnSem, startR, gIsi, ty6, Ty6.is, tru?, gNot, gLe, gLt, gGt, gGe, gCmp, gTru, gBl, gLen, gItems, gFld, gIx, gAdd_int, gSub, gNeg, gTuple, gList, gIsN, gNotN, gPart, gtName, gtTup, gtCons, gtNil, sFor, sFor.go, frz, wipeR, fYes, startI, fnI, isNon, noer, LIM, gSortedRev, gSorted, pre_len, gRev, gSum, gZip, gEnumA, gMax, gEnumA, gMin, gInt, gMin, pw_len h.2]
  | [], _ :: _, h => h.elim
  | _ :: _, [], h => h.elim
theorem pw_trans : ∀ {a b c : List Int}, pw a b → pw b c → pw a c
  | [], [], [], _, _ => trivial
  | _ :: _, _ :: _, _ :: _, h, k => ⟨Int.le_trans h.1 k.1, pw_trans h.2 k.2⟩
  | [], _ :: _, _, h, _ => h.elim
  | _ :: _, [], _, h, _ => h.elim
  | [], [], _ :: _, _, k => k.elim
  | _ :: _, _ :: _, [], _, k => k.elim
theorem pw_take : ∀ {a c : List Int} (n : Nat), pw a c → pw (a.take n) (c.take n)
  | [], [], n, _ => by simp [fnSem, startR, gIsi, ty6, Ty6.is, tru?, gNot, gLe, gLt, gGt, gGe, gCmp, gTru, gBl, gLen, gItems, gFld, gIx, gAdd_int, gSub, gNeg, gTuple, gList, gIsN, gNotN, gPart, gtName, gtTup, gtCons, gtNil, sFor, sFor.go, frz, wipeR, fYes, startI, fnI, isNon, noer, LIM, gSortedRev, gSorted, pre_len, gRev, gSum, gZip, gEnumA, gMax, gEnumA, gMin, gInt, gMin, pw]
  | _ :: _, _ :: _, 0, _ => trivial
  | _ :: _, _ :: _, n + 1, h => ⟨h.1, pw_take n h.2⟩
  | [], _ :: _, _, h => h.elim
  | _ :: _, [], _, h => h.elim
theorem pw_drop : ∀ {a c : List Int} (n : Nat), pw a c → pw (a.drop n) (c.drop n)
  | [], [], n, _ => by simp [fnSem, startR, gIsi, ty6, Ty6.is, tru?, gNot, gLe, gLt, gGt, gGe, gCmp, gTru, gBl, gLen, gItems, gFld, gIx, gAdd_int, gSub, gNeg, gTuple, gList, gIsN, gNotN, gPart, gtName, gtTup, gtCons, gtNil, sFor, sFor.go, frz, wipeR, fYes, startI, fnI, isNon, noer, LIM, gSortedRev, gSorted, pre_len, gRev, gSum, gZip, gEnumA, gMax, gEnumA, gMin, gInt, gMin, pw]
  | _ :: _, _ :: _, 0, h => h
  | _ :: _, _ :: _, n + 1, h => pw_drop n h.2
  | [], _ :: _, _, h => h.elim
  | _ :: _, [], _, h => h.elim
theorem pw_app : ∀ {a c b d : List Int}, pw a c → pw b d → pw (a ++ b) (c ++ d)
  | [], [], _, _, _, k => k
  | _ :: _, _ :: _, _, _, h, k => ⟨h.1, pw_app h.2 k⟩
  | [], _ :: _, _, _, h, _ => h.elim
  | _ :: _, [], _, _, h, _ => h.elim
theorem pw_rev : ∀ {a c : List Int}, pw a c → pw a.reverse c.reverse
  | [], [], _ => trivial
  | a :: as, c :: cs, h => by
    rw [List.reverse_cons, List.reverse_cons]
    exact pw_app (pw_rev h.2) ⟨h.1, trivial⟩
  | [], _ :: _, h => h.elim
  | _ :: _, [], h => h.elim
theorem pw_pre : ∀ {a c : List Int} {w v : Int}, w ≤ v → pw a c → pw (pre w a) (pre v c)
  | [], [], _, _, _, _ => trivial
  | a :: as, c :: cs, w, v, h, k => ⟨Int.add_le_add h k.1, pw_pre (Int.add_le_add h k.1) k.2⟩
  | [], _ :: _, _, _, _, h => h.elim
  | _ :: _, [], _, _, _, h => h.elim
theorem pw_get : ∀ {a c : List Int} (j : Nat), pw a c → a.getD j 0 ≤ c.getD j 0
  | [], [], _, _ => by simp [fnSem, startR, gIsi, ty6, Ty6.is, tru?, gNot, gLe, gLt, gGt, gGe, gCmp, gTru, gBl, gLen, gItems, gFld, gIx, gAdd_int, gSub, gNeg, gTuple, gList, gIsN, gNotN, gPart, gtName, gtTup, gtCons, gtNil, sFor, sFor.go, frz, wipeR, fYes, startI, fnI, isNon, noer, LIM, gSortedRev, gSorted, pre_len, gRev, gSum, gZip, gEnumA, gMax, gEnumA, gMin, gInt, gMin]
  | _ :: _, _ :: _, 0, h => h.1
  | _ :: _, _ :: _, j + 1, h => by simpa [fnSem, startR, gIsi, ty6, Ty6.is, tru?, gNot, gLe, gLt, gGt, gGe, gCmp, gTru, gBl, gLen, gItems, gFld, gIx, gAdd_int, gSub, gNeg, gTuple, gList, gIsN, gNotN, gPart, gtName, gtTup, gtCons, gtNil, sFor, sFor.go, frz, wipeR, fYes, startI, fnI, isNon, noer, LIM, gSortedRev, gSorted, pre_len, gRev, gSum, gZip, gEnumA, gMax, gEnumA, gMin, gInt, gMin] using pw_get j h.2
  | [], _ :: _, _, h => h.elim
  | _ :: _, [], _, h => h.elim
theorem sort_sorted {l : List Int} (h : l.Pairwise (· ≤ ·)) : sortI l = l := (sortI_is (.refl _) h).symm
theorem tops_sorted {l b : List Int} (h : l.Pairwise (· ≤ ·)) : topsL l b = pre 0 (l.take b.length).reverse := by
  unfold topsL
  rw [sort_sorted (h.sublist (List.take_sublist _ _))]
theorem fits_mono {a c b : List Int} (ha : a.Pairwise (· ≤ ·)) (hc : c.Pairwise (· ≤ ·)) (h : pw a c) (hb : b.length ≤ c.length) (f : fits c b = true) : fits a b = true := by
  have hl := pw_len h
  have la := topsL_len a b
  have lc := topsL_len c b
  unfold fits at *
  rw [decide_eq_true_iff, ovr_zero (by omega)] at *
  intro j hj
  have h1 := f j (by omega)
  refine Int.le_trans ?_ h1
  rw [tops_sorted ha, tops_sorted hc]
  exact pw_get j (pw_pre (Int.le_refl 0) (pw_rev (pw_take _ h)))
theorem any_mono {a c : List Int} {t : Int} {s : Nat} (ha : a.Pairwise (· ≤ ·)) (hc : c.Pairwise (· ≤ ·)) (h : pw a c) (f : (bndL c.length t s).any (fits c) = true) : (bndL a.length t s).any (fits a) = true := by
  rw [List.any_eq_true] at *
  obtain ⟨b, hb, hf⟩ := f
  exact ⟨b, by rw [pw_len h]; exact hb, fits_mono ha hc h (bnd_mem hb) hf⟩
theorem pw_erase {x : Int} : ∀ {l : List Int}, l.Pairwise (· ≤ ·) → x ∈ l → pw (l.erase x) (l.drop 1)
  | y :: ys, h, hx => by
    rw [List.pairwise_cons] at h
    by_cases c : y = x
    · subst c
      rw [List.erase_cons_head]
      exact pw_refl _
    · rw [List.erase_cons_tail (by simpa [fnSem, startR, gIsi, ty6, Ty6.is, tru?, gNot, gLe, gLt, gGt, gGe, gCmp, gTru, gBl, gLen, gItems, gFld, gIx, gAdd_int, gSub, gNeg, gTuple, gList, gIsN, gNotN, gPart, gtName, gtTup, gtCons, gtNil, sFor, sFor.go, frz, wipeR, fYes, startI, fnI, isNon, noer, LIM, gSortedRev, gSorted, pre_len, gRev, gSum, gZip, gEnumA, gMax, gEnumA, gMin, gInt, gMin] using c)]
      have hx : x ∈ ys := by
        rcases List.mem_cons.mp hx with e | e
        · exact absurd e.symm c
        · exact e
      have ih := pw_erase h.2 hx
      cases ys with
      | nil => cases hx
      | cons z zs => exact ⟨h.1 z (List.mem_cons_self ..), ih⟩
/-- some taken out: place by place not above the list without so many of its first -/
theorem pw_del : ∀ (v r l : List Int), l.Pairwise (· ≤ ·) → (r ++ v).Perm l → pw (sortI r) (l.drop v.length)
  | [], r, l, hl, hp => by
    rw [List.append_nil] at hp
    rw [sort_same ((sortI_perm r).trans hp) (sortI_sorted r) hl]
    exact pw_refl _
  | x :: v, r, l, hl, hp => by
    have hx : x ∈ l := hp.mem_iff.mp (by simp [fnSem, startR, gIsi, ty6, Ty6.is, tru?, gNot, gLe, gLt, gGt, gGe, gCmp, gTru, gBl, gLen, gItems, gFld, gIx, gAdd_int, gSub, gNeg, gTuple, gList, gIsN, gNotN, gPart, gtName, gtTup, gtCons, gtNil, sFor, sFor.go, frz, wipeR, fYes, startI, fnI, isNon, noer, LIM, gSortedRev, gSorted, pre_len, gRev, gSum, gZip, gEnumA, gMax, gEnumA, gMin, gInt, gMin])
    have h1 : (x :: (r ++ v)).Perm (x :: l.erase x) := (List.perm_middle.symm.trans hp).trans (List.perm_cons_erase hx)
    have ih := pw_del v r (l.erase x) (hl.sublist (List.erase_sublist ..)) h1.cons_inv
    have h2 := pw_drop v.length (pw_erase hl hx)
    rw [List.drop_drop] at h2
    rw [List.length_cons, Nat.add_comm]
    exact pw_trans ih h2

end Bx

namespace Bx
open PySem L2
/-! ### places by size -/
def leK (a b : Int × Int) : Prop := a.1 < b.1 ∨ (a.1 = b.1 ∧ a.2 ≤ b.2)
instance (a b : Int × Int) : Decidable (leK a b) := by unfold leK; infer_instance
def insK (x : Int × Int) : List (Int × Int) → List (Int × Int)
  | [] => [x]
  | y :: ys => if leK x y then x :: y :: ys else y :: insK x ys
def sortK : List (Int × Int) → List (Int × Int)
  | [] => []
  | x :: xs => insK x (sortK xs)
theorem leK_trans {a b c : Int × Int} (h : leK a b) (k : leK b c) : leK a c := by unfold leK at *; omega
theorem leK_total {a b : Int × Int} (h : ¬ leK a b) : leK b a := by unfold leK at *; omega
theorem insK_perm (x : Int × Int) : ∀ l, (insK x l).Perm (x :: l)
  | [] => .refl _
  | y :: ys => by
    unfold insK
    split
    · exact .refl _
    · exact ((insK_perm x ys).cons y).trans (.swap x y ys)
theorem sortK_perm : ∀ l, (sortK l).Perm l
  | [] => .refl _
  | x :: xs => (insK_perm x _).trans ((sortK_perm xs).cons x)
theorem insK_sorted (x : Int × Int) : ∀ l : List (Int × Int), l.Pairwise leK → (insK x l).Pairwise leK
  | [], _ => by simp [fnSem, startR, gIsi, ty6, Ty6.is, tru?, gNot, gLe, gLt, gGt, gGe, gCmp, gTru, gBl, gLen, gItems, gFld, gIx, gAdd_int, gSub, gNeg, gTuple, gList, gIsN, gNotN, gPart, gtName, gtTup, gtCons, gtNil, sFor, sFor.go, frz, wipeR, fYes, startI, fnI, isNon, noer, LIM, gSortedRev, gSorted, pre_len, gRev, gSum, gZip, gEnumA, gMax, gEnumA, gMin, gInt, gMin, insK]
  | y :: ys, h => by
    unfold insK
    rw [List.pairwise_cons] at h
    split
    · rename_i hxy
      rw [List.pairwise_cons]
      refine ⟨fun z hz => ?_, List.pairwise_cons.mpr h⟩
      rcases List.mem_cons.mp hz with rfl | hz
      · exact hxy
      · exact leK_trans hxy (h.1 z hz)
    · rename_i hxy
      rw [List.pairwise_cons]
      refine ⟨fun z hz => ?_, insK_sorted x ys h.2⟩
      rcases List.mem_cons.mp ((insK_perm x ys).mem_iff.mp hz) with rfl | hz
      · exact leK_total hxy
      · exact h.1 z hz
theorem sortK_sorted : ∀ l : List (Int × Int), (sortK l).Pairwise leK
  | [] => .nil
  | x :: xs => insK_sorted x _ (sortK_sorted xs)
/-- the list sorted by (f x, x) -/
def argS (f : Int → Int) (l : List Int) : List Int := (sortK (l.map fun x => (f x, x))).map (·.2)
theorem argS_perm (f : Int → Int) (l : List Int) : (argS f l).Perm l := by
  have h := (sortK_perm (l.map fun x => (f x, x))).map (·.2)
  rw [List.map_map] at h
  simpa [fnSem, startR, gIsi, ty6, Ty6.is, tru?, gNot, gLe, gLt, gGt, gGe, gCmp, gTru, gBl, gLen, gItems, gFld, gIx, gAdd_int, gSub, gNeg, gTuple, gList, gIsN, gNotN, gPart, gtName, gtTup, gtCons, gtNil, sFor, sFor.go, frz, wipeR, fYes, startI, fnI, isNon, noer, LIM, gSortedRev, gSorted, pre_len, gRev, gSum, gZip, gEnumA, gMax, gEnumA, gMin, gInt, gMin, argS, Function.comp_def] using h
theorem argS_len (f : Int → Int) (l : List Int) : (argS f l).length = l.length := (argS_perm f l).length_eq
theorem argS_sizes (f : Int → Int) (l : List Int) : (argS f l).map f = sortI (l.map f) := by
  have h1 : (argS f l).map f = (sortK (l.map fun x => (f x, x))).map (·.1) := by
    unfold argS
    rw [List.map_map]
    refine List.map_congr_left fun p hp => ?_
    obtain ⟨x, _, rfl⟩ := List.mem_map.mp ((sortK_perm _).mem_iff.mp hp)
    rfl
  refine sortI_is ?_ ?_
  · rw [h1]
    have h := (sortK_perm (l.map fun x => (f x, x))).map (·.1)
    rw [List.map_map] at h
    exact h
  · rw [h1, List.pairwise_map]
    exact (sortK_sorted _).imp fun {a b} h => by unfold leK at h; omega
theorem argS_asc {f : Int → Int} {l : List Int} (h : l.Pairwise (· < ·)) (hf : ∀ x ∈ l, ∀ y ∈ l, f x = f y) : argS f l = l := by
  have : (argS f l).Pairwise (· ≤ ·) := by
    unfold argS
    rw [List.pairwise_map]
    refine (sortK_sorted _).imp_of_mem fun {a b} ha hb h => ?_
    obtain ⟨x, hx, rfl⟩ := List.mem_map.mp ((sortK_perm _).mem_iff.mp ha)
    obtain ⟨y, hy, rfl⟩ := List.mem_map.mp ((sortK_perm _).mem_iff.mp hb)
    have := hf x hx y hy
    unfold leK at h
    simp only at h
    omega
  exact sort_same (argS_perm f l) this (h.imp fun h => Int.le_of_lt h)

end Bx

namespace Bx
open PySem L2
/-! ### strikings that hold: some if the striker wins -/
def rangeI (n : Nat) : List Int := (List.range n).map fun (k : Nat) => (k : Int)
theorem rangeI_len (n : Nat) : (rangeI n).length = n := by simp [fnSem, startR, gIsi, ty6, Ty6.is, tru?, gNot, gLe, gLt, gGt, gGe, gCmp, gTru, gBl, gLen, gItems, gFld, gIx, gAdd_int, gSub, gNeg, gTuple, gList, gIsN, gNotN, gPart, gtName, gtTup, gtCons, gtNil, sFor, sFor.go, frz, wipeR, fYes, startI, fnI, isNon, noer, LIM, gSortedRev, gSorted, pre_len, gRev, gSum, gZip, gEnumA, gMax, gEnumA, gMin, gInt, gMin, rangeI]
theorem mem_rangeI {n : Nat} {x : Int} : x ∈ rangeI n ↔ 0 ≤ x ∧ x < n := by
  unfold rangeI
  rw [List.mem_map]
  constructor
  · rintro ⟨k, hk, rfl⟩
    have := List.mem_range.mp hk
    omega
  · rintro ⟨h1, h2⟩
    exact ⟨x.toNat, List.mem_range.mpr (by omega), by omega⟩
theorem rangeI_asc (n : Nat) : (rangeI n).Pairwise (· < ·) := by
  unfold rangeI
  rw [List.pairwise_map]
  exact List.pairwise_lt_range.imp fun h => by omega
theorem asc_nodup {l : List Int} (h : l.Pairwise (· < ·)) : l.Nodup := h.imp fun h e => by omega
theorem map_rangeI (bx : List Int) : (rangeI bx.length).map (fun k => bx.getD k.toNat 0) = bx := by
  unfold rangeI
  rw [List.map_map]
  apply List.ext_getElem?
  intro i
  rw [List.getElem?_map]
  by_cases h : i < bx.length
  · rw [List.getElem?_range h]
    simp [fnSem, startR, gIsi, ty6, Ty6.is, tru?, gNot, gLe, gLt, gGt, gGe, gCmp, gTru, gBl, gLen, gItems, gFld, gIx, gAdd_int, gSub, gNeg, gTuple, gList, gIsN, gNotN, gPart, gtName, gtTup, gtCons, gtNil, sFor, sFor.go, frz, wipeR, fYes, startI, fnI, isNon, noer, LIM, gSortedRev, gSorted, pre_len, gRev, gSum, gZip, gEnumA, gMax, gEnumA, gMin, gInt, gMin, List.getElem?_eq_getElem h]
  · rw [List.getElem?_eq_none (by simp [fnSem, startR, gIsi, ty6, Ty6.is, tru?, gNot, gLe, gLt, gGt, gGe, gCmp, gTru, gBl, gLen, gItems, gFld, gIx, gAdd_int, gSub, gNeg, gTuple, gList, gIsN, gNotN, gPart, gtName, gtTup, gtCons, gtNil, sFor, sFor.go, frz, wipeR, fYes, startI, fnI, isNon, noer, LIM, gSortedRev, gSorted, pre_len, gRev, gSum, gZip, gEnumA, gMax, gEnumA, gMin, gInt, gMin]; omega), List.getElem?_eq_none (by omega)]
    rfl
theorem zipIdx_somes (bx : List Int) : (bx.map some).zipIdx = (List.range bx.length).map fun i => (some (bx.getD i 0), i) := by
  apply List.ext_getElem?
  intro i
  rw [List.getElem?_zipIdx, List.getElem?_map, List.getElem?_map]
  by_cases h : i < bx.length
  · rw [List.getElem?_range h, List.getElem?_eq_getElem h]
    simp [fnSem, startR, gIsi, ty6, Ty6.is, tru?, gNot, gLe, gLt, gGt, gGe, gCmp, gTru, gBl, gLen, gItems, gFld, gIx, gAdd_int, gSub, gNeg, gTuple, gList, gIsN, gNotN, gPart, gtName, gtTup, gtCons, gtNil, sFor, sFor.go, frz, wipeR, fYes, startI, fnI, isNon, noer, LIM, gSortedRev, gSorted, pre_len, gRev, gSum, gZip, gEnumA, gMax, gEnumA, gMin, gInt, gMin, List.getElem?_eq_getElem h]
  · rw [List.getElem?_eq_none (by omega), List.getElem?_eq_none (by simp [fnSem, startR, gIsi, ty6, Ty6.is, tru?, gNot, gLe, gLt, gGt, gGe, gCmp, gTru, gBl, gLen, gItems, gFld, gIx, gAdd_int, gSub, gNeg, gTuple, gList, gIsN, gNotN, gPart, gtName, gtTup, gtCons, gtNil, sFor, sFor.go, frz, wipeR, fYes, startI, fnI, isNon, noer, LIM, gSortedRev, gSorted, pre_len, gRev, gSum, gZip, gEnumA, gMax, gEnumA, gMin, gInt, gMin]; omega)]
    rfl
theorem open_somes (bx : List Int) : openL (bx.map some) = rangeI bx.length := by
  unfold openL rangeI
  rw [zipIdx_somes, List.filter_map, List.map_map]
  congr 1
  exact List.filter_eq_self.mpr fun _ _ => rfl
theorem rest_without (bx st : List Int) : restL (withoutL (bx.map some) st) = ((rangeI bx.length).filter fun k => decide (k ∉ st)).map fun k => bx.getD k.toNat 0 := by
  unfold restL withoutL rangeI
  rw [zipIdx_somes, List.map_map, List.filterMap_map, List.filter_map, List.map_map]
  induction List.range bx.length with
  | nil => rfl
  | cons i l ih =>
    rw [List.filterMap_cons, List.filter_cons]
    by_cases c : (i : Int) ∈ st
    · simp [fnSem, startR, gIsi, ty6, Ty6.is, tru?, gNot, gLe, gLt, gGt, gGe, gCmp, gTru, gBl, gLen, gItems, gFld, gIx, gAdd_int, gSub, gNeg, gTuple, gList, gIsN, gNotN, gPart, gtName, gtTup, gtCons, gtNil, sFor, sFor.go, frz, wipeR, fYes, startI, fnI, isNon, noer, LIM, gSortedRev, gSorted, pre_len, gRev, gSum, gZip, gEnumA, gMax, gEnumA, gMin, gInt, gMin, c] at ih ⊢
      exact ih
    · simp [fnSem, startR, gIsi, ty6, Ty6.is, tru?, gNot, gLe, gLt, gGt, gGe, gCmp, gTru, gBl, gLen, gItems, gFld, gIx, gAdd_int, gSub, gNeg, gTuple, gList, gIsN, gNotN, gPart, gtName, gtTup, gtCons, gtNil, sFor, sFor.go, frz, wipeR, fYes, startI, fnI, isNon, noer, LIM, gSortedRev, gSorted, pre_len, gRev, gSum, gZip, gEnumA, gMax, gEnumA, gMin, gInt, gMin, c] at ih ⊢
      exact ih
theorem split_perm {st : List Int} {n : Nat} (h1 : ∀ x ∈ st, x ∈ rangeI n) (h2 : st.Nodup) : (((rangeI n).filter fun k => decide (k ∉ st)) ++ st).Perm (rangeI n) := by
  have hn : (((rangeI n).filter fun k => decide (k ∉ st)) ++ st).Nodup := by
    rw [List.nodup_append]
    refine ⟨(asc_nodup (rangeI_asc n)).sublist (List.filter_sublist ..), h2, fun a ha b hb e => ?_⟩
    subst e
    have := (List.mem_filter.mp ha).2
    simp [fnSem, startR, gIsi, ty6, Ty6.is, tru?, gNot, gLe, gLt, gGt, gGe, gCmp, gTru, gBl, gLen, gItems, gFld, gIx, gAdd_int, gSub, gNeg, gTuple, gList, gIsN, gNotN, gPart, gtName, gtTup, gtCons, gtNil, sFor, sFor.go, frz, wipeR, fYes, startI, fnI, isNon, noer, LIM, gSortedRev, gSorted, pre_len, gRev, gSum, gZip, gEnumA, gMax, gEnumA, gMin, gInt, gMin] at this
    exact this hb
  refine (List.perm_ext_iff_of_nodup hn (asc_nodup (rangeI_asc n))).mpr fun a => ?_
  rw [List.mem_append, List.mem_filter]
  constructor
  · rintro (⟨h, _⟩ | h)
    · exact h
    · exact h1 a h
  · intro h
    by_cases c : a ∈ st
    · exact .inr c
    · exact .inl ⟨h, by simpa [fnSem, startR, gIsi, ty6, Ty6.is, tru?, gNot, gLe, gLt, gGt, gGe, gCmp, gTru, gBl, gLen, gItems, gFld, gIx, gAdd_int, gSub, gNeg, gTuple, gList, gIsN, gNotN, gPart, gtName, gtTup, gtCons, gtNil, sFor, sFor.go, frz, wipeR, fYes, startI, fnI, isNon, noer, LIM, gSortedRev, gSorted, pre_len, gRev, gSum, gZip, gEnumA, gMax, gEnumA, gMin, gInt, gMin] using c⟩
theorem rest_perm {bx st : List Int} (h1 : ∀ x ∈ st, x ∈ rangeI bx.length) (h2 : st.Nodup) : (restL (withoutL (bx.map some) st) ++ st.map fun k => bx.getD k.toNat 0).Perm bx := by
  rw [rest_without, ← List.map_append]
  have := (split_perm h1 h2).map fun k => bx.getD k.toNat 0
  rw [map_rangeI] at this
  exact this
theorem allS_somes (bx : List Int) (s : Nat) : allS (bx.map some) s = grp (rangeI bx.length) (min s bx.length) := by
  unfold allS
  rw [open_somes, rangeI_len]
theorem holds_none {bx : List Int} {t : Int} {s : Nat} : goodS (bx.map some) t s = [] ↔ wins bx t s true = true := by
  unfold goodS
  rw [List.filter_eq_nil_iff, allS_somes]
  have hd : leftL bx s true = (sortI bx).drop (min s bx.length) := by
    show (sortI bx).drop s = _
    by_cases c : s ≤ bx.length
    · rw [Nat.min_eq_left c]
    · rw [List.drop_eq_nil_of_le (by rw [sortI_len]; omega), List.drop_eq_nil_of_le (by rw [sortI_len]; omega)]
  constructor
  · intro h
    -- strike the smallest
    let f : Int → Int := fun k => bx.getD k.toNat 0
    let ar := argS f (rangeI bx.length)
    let st := sortI (ar.take (min s bx.length))
    have hal : ar.length = bx.length := (argS_len f _).trans (rangeI_len _)
    have hnd : ar.Nodup := (argS_perm f _).nodup_iff.mpr (asc_nodup (rangeI_asc _))
    have hst : st.Perm (ar.take (min s bx.length)) := sortI_perm _
    have hsn : st.Nodup := hst.nodup_iff.mpr (hnd.sublist (List.take_sublist _ _))
    have hm : ∀ x ∈ st, x ∈ rangeI bx.length := fun x hx => (argS_perm f _).mem_iff.mp (List.mem_of_mem_take (hst.mem_iff.mp hx))
    have hasc : st.Pairwise (· < ·) := by
      have h1 := sortI_sorted (ar.take (min s bx.length))
      exact (h1.and hsn).imp fun {a b} h => by have := h.1; have := h.2; omega
    have hlen : st.length = min s bx.length := by
      rw [hst.length_eq, List.length_take, hal]
      omega
    have hg := mem_grp (rangeI bx.length) st hm hasc
    rw [hlen] at hg
    have h2 := h st hg
    simp only [holds, Bool.not_eq_true', Bool.not_eq_false] at h2
    -- the rest is what is behind the smallest
    have hp : ((rangeI bx.length).filter fun k => decide (k ∉ st)).Perm (ar.drop (min s bx.length)) := by
      have p1 := split_perm hm hsn
      have p2 : (ar.take (min s bx.length) ++ ar.drop (min s bx.length)).Perm (rangeI bx.length) := by
        rw [List.take_append_drop]
        exact argS_perm f _
      have p3 := p1.trans p2.symm
      have p4 : (((rangeI bx.length).filter fun k => decide (k ∉ st)) ++ st).Perm (ar.drop (min s bx.length) ++ st) :=
        p3.trans (List.perm_append_comm.trans (List.Perm.append_left _ hst.symm))
      exact (List.perm_append_right_iff st).mp p4
    have hr : sortI (restL (withoutL (bx.map some) st)) = (sortI bx).drop (min s bx.length) := by
      rw [rest_without]
      have p5 := hp.map f
      rw [List.map_drop, argS_sizes, map_rangeI] at p5
      exact sort_same ((sortI_perm _).trans p5) (sortI_sorted _) ((sortI_sorted bx).sublist (List.drop_sublist _ _))
    rw [wins_any] at h2 ⊢
    rw [hd, ← hr]
    exact h2
  · intro h st hst
    obtain ⟨h1, h2, h3⟩ := grp_mem _ _ st hst
    simp only [holds, Bool.not_eq_true', Bool.not_eq_false]
    rw [wins_any] at h ⊢
    rw [hd] at h
    have p := rest_perm (bx := bx) h2 (asc_nodup h3)
    have pd := pw_del (st.map fun k => bx.getD k.toNat 0) (restL (withoutL (bx.map some) st)) (sortI bx) (sortI_sorted bx) (p.trans (sortI_perm bx).symm)
    rw [List.length_map, h1] at pd
    exact any_mono (sortI_sorted _) ((sortI_sorted bx).sublist (List.drop_sublist _ _)) pd h

end Bx

namespace Bx
open PySem L2
theorem who0 : who false = .str "taker" := rfl
theorem who1 : who true = .str "striker" := rfl
/-! ### the law's own list -/
def lwRow (x : Int) (p : List Int × Int) : List (List Int × Int) := (List.range ((min x p.2).toNat + 1)).map fun (k : Nat) => (p.1 ++ [x - (k : Int)], p.2 - (k : Int))
def lwStep (F : List (List Int × Int)) (x : Int) : List (List Int × Int) := F.flatMap (lwRow x)
def subL (l am : List Int) : List Int := List.zipWith (fun x y => x - y) l am
theorem subL_snoc {l am : List Int} (h : am.length = l.length) (x k : Int) : subL (l ++ [x]) (am ++ [k]) = subL l am ++ [x - k] := by
  unfold subL
  rw [List.zipWith_append (by rw [h])]
  rfl
def subP (l : List Int) (p : List Int × Int) : List Int × Int := (subL l p.1, p.2)
theorem lw_step {l : List Int} {x : Int} (F : List (List Int × Int)) (h : ∀ p ∈ F, p.1.length = l.length) : lwStep (F.map (subP l)) x = (tkStep F x).map (subP (l ++ [x])) := by
  unfold lwStep tkStep
  induction F with
  | nil => rfl
  | cons p F ih =>
    rw [List.map_cons, List.flatMap_cons, List.flatMap_cons, List.map_append, ih fun q hq => h q (List.mem_cons_of_mem _ hq)]
    congr 1
    unfold lwRow tkRow
    rw [List.map_map]
    refine List.map_congr_left fun k _ => ?_
    show (subL l p.1 ++ [x - (k : Int)], p.2 - (k : Int)) = (subL (l ++ [x]) (p.1 ++ [(k : Int)]), p.2 - (k : Int))
    rw [subL_snoc (h p (List.mem_cons_self ..))]
theorem lw_fold : ∀ (l pre : List Int) (F : List (List Int × Int)), (∀ p ∈ F, p.1.length = pre.length) → l.foldl lwStep (F.map (subP pre)) = (l.foldl tkStep F).map (subP (pre ++ l))
  | [], pre, F, h => by simp [fnSem, startR, gIsi, ty6, Ty6.is, tru?, gNot, gLe, gLt, gGt, gGe, gCmp, gTru, gBl, gLen, gItems, gFld, gIx, gAdd_int, gSub, gNeg, gTuple, gList, gIsN, gNotN, gPart, gtName, gtTup, gtCons, gtNil, sFor, sFor.go, frz, wipeR, fYes, startI, fnI, isNon, noer, LIM, gSortedRev, gSorted, pre_len, gRev, gSum, gZip, gEnumA, gMax, gEnumA, gMin, gInt, gMin]
  | x :: l, pre, F, h => by
    rw [List.foldl_cons, List.foldl_cons, lw_step F h, lw_fold l (pre ++ [x]) (tkStep F x) fun q hq => ?_]
    · rw [List.append_assoc]; rfl
    · obtain ⟨p', hp', hq'⟩ := List.mem_flatMap.mp hq
      obtain ⟨k, _, rfl⟩ := List.mem_map.mp hq'
      simp [fnSem, startR, gIsi, ty6, Ty6.is, tru?, gNot, gLe, gLt, gGt, gGe, gCmp, gTru, gBl, gLen, gItems, gFld, gIx, gAdd_int, gSub, gNeg, gTuple, gList, gIsN, gNotN, gPart, gtName, gtTup, gtCons, gtNil, sFor, sFor.go, frz, wipeR, fYes, startI, fnI, isNon, noer, LIM, gSortedRev, gSorted, pre_len, gRev, gSum, gZip, gEnumA, gMax, gEnumA, gMin, gInt, gMin, h p' hp']
theorem lwRow_len (x : Int) (p : List Int × Int) : (lwRow x p).length = (tkRow x p).length := by simp [fnSem, startR, gIsi, ty6, Ty6.is, tru?, gNot, gLe, gLt, gGt, gGe, gCmp, gTru, gBl, gLen, gItems, gFld, gIx, gAdd_int, gSub, gNeg, gTuple, gList, gIsN, gNotN, gPart, gtName, gtTup, gtCons, gtNil, sFor, sFor.go, frz, wipeR, fYes, startI, fnI, isNon, noer, LIM, gSortedRev, gSorted, pre_len, gRev, gSum, gZip, gEnumA, gMax, gEnumA, gMin, gInt, gMin, lwRow, tkRow]
theorem lawall_b1 {x0 x1 x2 x7 : Sl} {x r : Int} {lf : List Int} {acc : List (List Int × Int)} (ha : lf.length ≤ 100) (hx : 0 ≤ x) (hr : 0 ≤ r) (hl : (acc ++ lwRow x (lf, r)).length ≤ 3000) (S : Store) :
    B_law_all_1 [x0, x1, x2, .fz (.int x), .fz (.lst (acc.map dP)), .fz (.tup (dI lf)), .fz (.int r), x7] S = .mk (.nx [x0, x1, x2, .fz (.int x), .fz (.lst ((acc ++ lwRow x (lf, r)).map dP)), .fz (.tup (dI lf)), .fz (.int r), x7]) S := by
  have hmin : (if r < x then r else x) = min x r := by
    split <;> omega
  have hl' : acc.length + ((min x r).toNat + 1) ≤ 3000 := by
    unfold lwRow at hl
    simpa [fnSem, startR, gIsi, ty6, Ty6.is, tru?, gNot, gLe, gLt, gGt, gGe, gCmp, gTru, gBl, gLen, gItems, gFld, gIx, gAdd_int, gSub, gNeg, gTuple, gList, gIsN, gNotN, gPart, gtName, gtTup, gtCons, gtNil, sFor, sFor.go, frz, wipeR, fYes, startI, fnI, isNon, noer, LIM, gSortedRev, gSorted, pre_len, gRev, gSum, gZip, gEnumA, gMax, gEnumA, gMin, gInt, gMin] using hl
  have e1 := lc_encM (g := gtName 7) (e := E_law_all_1) (ρ := [x0, x1, x2, .fz (.int x), .fz (.lst (acc.map dP)), .fz (.tup (dI lf)), .fz (.int r), .un]) (S := S) (fun (k : Nat) => D.int (k : Int)) dP (fun (k : Nat) => (lf ++ [x - (k : Int)], r - (k : Int))) (List.range ((min x r).toNat + 1)) []
    (fun k hk => ⟨[x0, x1, x2, .fz (.int x), .fz (.lst (acc.map dP)), .fz (.tup (dI lf)), .fz (.int r), .fz (.int k)], rfl, by
      have e1 := gAddT_ok (a := dI lf) (b := [.int (x - k)]) (S := S) (by simp [fnSem, startR, gIsi, ty6, Ty6.is, tru?, gNot, gLe, gLt, gGt, gGe, gCmp, gTru, gBl, gLen, gItems, gFld, gIx, gAdd_int, gSub, gNeg, gTuple, gList, gIsN, gNotN, gPart, gtName, gtTup, gtCons, gtNil, sFor, sFor.go, frz, wipeR, fYes, startI, fnI, isNon, noer, LIM, gSortedRev, gSorted, pre_len, gRev, gSum, gZip, gEnumA, gMax, gEnumA, gMin, gInt, gMin]; omega)
      simp [fnSem, startR, gIsi, ty6, Ty6.is, tru?, gNot, gLe, gLt, gGt, gGe, gCmp, gTru, gBl, gLen, gItems, gFld, gIx, gAdd_int, gSub, gNeg, gTuple, gList, gIsN, gNotN, gPart, gtName, gtTup, gtCons, gtNil, sFor, sFor.go, frz, wipeR, fYes, startI, fnI, isNon, noer, LIM, gSortedRev, gSorted, pre_len, gRev, gSum, gZip, gEnumA, gMax, gEnumA, gMin, gInt, gMin, E_law_all_1, e1, dP]⟩)
  rw [List.nil_append] at e1
  have e2 : ((List.range ((min x r).toNat + 1)).map fun (k : Nat) => (lf ++ [x - (k : Int)], r - (k : Int))) = lwRow x (lf, r) := rfl
  rw [e2] at e1
  have c2 : (min x r + 1).toNat = (min x r).toNat + 1 := by omega
  have c3 : -1000000 ≤ min x r + 1 ∧ min x r + 1 ≤ 1000000 := by omega
  have e3 : rangeD 0 ((min x r).toNat + 1) = (List.range ((min x r).toNat + 1)).map fun (k : Nat) => D.int (k : Int) := by simp [fnSem, startR, gIsi, ty6, Ty6.is, tru?, gNot, gLe, gLt, gGt, gGe, gCmp, gTru, gBl, gLen, gItems, gFld, gIx, gAdd_int, gSub, gNeg, gTuple, gList, gIsN, gNotN, gPart, gtName, gtTup, gtCons, gtNil, sFor, sFor.go, frz, wipeR, fYes, startI, fnI, isNon, noer, LIM, gSortedRev, gSorted, pre_len, gRev, gSum, gZip, gEnumA, gMax, gEnumA, gMin, gInt, gMin, rangeD]
  have e4 := gAddL_ok (a := acc.map dP) (b := (lwRow x (lf, r)).map dP) (S := S) (by simp [fnSem, startR, gIsi, ty6, Ty6.is, tru?, gNot, gLe, gLt, gGt, gGe, gCmp, gTru, gBl, gLen, gItems, gFld, gIx, gAdd_int, gSub, gNeg, gTuple, gList, gIsN, gNotN, gPart, gtName, gtTup, gtCons, gtNil, sFor, sFor.go, frz, wipeR, fYes, startI, fnI, isNon, noer, LIM, gSortedRev, gSorted, pre_len, gRev, gSum, gZip, gEnumA, gMax, gEnumA, gMin, gInt, gMin] at hl ⊢; omega)
  have c4 : (min x r).toNat ≤ 999999 := by omega
  simp [fnSem, startR, gIsi, ty6, Ty6.is, tru?, gNot, gLe, gLt, gGt, gGe, gCmp, gTru, gBl, gLen, gItems, gFld, gIx, gAdd_int, gSub, gNeg, gTuple, gList, gIsN, gNotN, gPart, gtName, gtTup, gtCons, gtNil, sFor, sFor.go, frz, wipeR, fYes, startI, fnI, isNon, noer, LIM, gSortedRev, gSorted, pre_len, gRev, gSum, gZip, gEnumA, gMax, gEnumA, gMin, gInt, gMin, B_law_all_1, fLc, hmin, gRange1, c3, c2, e3, e1, e4, c4]
theorem lawall_b1for {x0 x1 x2 x7 : Sl} {x : Int} (hx : 0 ≤ x) (S : Store) : ∀ (F acc : List (List Int × Int)) (x5 x6 : Sl), (∀ p ∈ F, p.1.length ≤ 100 ∧ 0 ≤ p.2) → (acc ++ lwStep F x).length ≤ 3000 → ∃ y5 y6,
    sFor.go (gtTup 2 (gtCons (gtName 5) (gtCons (gtName 6) gtNil))) B_law_all_1 (F.map dP) [x0, x1, x2, .fz (.int x), .fz (.lst (acc.map dP)), x5, x6, x7] S = .mk (.nx [x0, x1, x2, .fz (.int x), .fz (.lst ((acc ++ lwStep F x).map dP)), y5, y6, x7]) S := by
  intro F
  induction F with
  | nil => exact fun acc x5 x6 _ _ => ⟨x5, x6, by simp [fnSem, startR, gIsi, ty6, Ty6.is, tru?, gNot, gLe, gLt, gGt, gGe, gCmp, gTru, gBl, gLen, gItems, gFld, gIx, gAdd_int, gSub, gNeg, gTuple, gList, gIsN, gNotN, gPart, gtName, gtTup, gtCons, gtNil, sFor, sFor.go, frz, wipeR, fYes, startI, fnI, isNon, noer, LIM, gSortedRev, gSorted, pre_len, gRev, gSum, gZip, gEnumA, gMax, gEnumA, gMin, gInt, gMin, lwStep]⟩
  | cons p F ih =>
    intro acc x5 x6 hp hl
    obtain ⟨am, r⟩ := p
    have hp0 := hp (am, r) (List.mem_cons_self ..)
    have e : lwStep ((am, r) :: F) x = lwRow x (am, r) ++ lwStep F x := rfl
    rw [e] at hl ⊢
    have hB := lawall_b1 (x0 := x0) (x1 := x1) (x2 := x2) (x7 := x7) (x := x) (acc := acc) hp0.1 hx hp0.2 (by simp [fnSem, startR, gIsi, ty6, Ty6.is, tru?, gNot, gLe, gLt, gGt, gGe, gCmp, gTru, gBl, gLen, gItems, gFld, gIx, gAdd_int, gSub, gNeg, gTuple, gList, gIsN, gNotN, gPart, gtName, gtTup, gtCons, gtNil, sFor, sFor.go, frz, wipeR, fYes, startI, fnI, isNon, noer, LIM, gSortedRev, gSorted, pre_len, gRev, gSum, gZip, gEnumA, gMax, gEnumA, gMin, gInt, gMin] at hl ⊢; omega) S
    obtain ⟨y5, y6, hy⟩ := ih (acc ++ lwRow x (am, r)) (.fz (.tup (dI am))) (.fz (.int r)) (fun q hq => hp q (List.mem_cons_of_mem _ hq)) (by rw [List.append_assoc]; exact hl)
    rw [List.append_assoc] at hy
    refine ⟨y5, y6, ?_⟩
    rw [List.map_cons]
    unfold sFor.go
    simp only [dP, gtTup, gtCons, gtName, gtNil, List.length_cons, List.length_nil, Nat.reduceAdd, Nat.reduceLT, if_true, List.set_cons_succ, List.set_cons_zero, Option.bind_some]
    rw [hB]
    exact hy
theorem lawall_for {x0 x1 x7 : Sl} (S : Store) : ∀ (l pre : List Int) (F : List (List Int × Int)) (x3 x4 x5 x6 : Sl), (∀ x ∈ l, 0 ≤ x) → (∀ p ∈ F, p.1.length = pre.length ∧ 0 ≤ p.2) → pre.length + l.length ≤ 100 → cntF l.length F ≤ 3000 → ∃ y3 y4 y5 y6,
    sFor.go (gtName 3) B_law_all_2 (dI l) [x0, x1, .fz (.lst ((F.map (subP pre)).map dP)), x3, x4, x5, x6, x7] S = .mk (.nx [x0, x1, .fz (.lst (((l.foldl tkStep F).map (subP (pre ++ l))).map dP)), y3, y4, y5, y6, x7]) S := by
  intro l
  induction l with
  | nil => exact fun pre F x3 x4 x5 x6 _ _ _ _ => ⟨x3, x4, x5, x6, by simp [fnSem, startR, gIsi, ty6, Ty6.is, tru?, gNot, gLe, gLt, gGt, gGe, gCmp, gTru, gBl, gLen, gItems, gFld, gIx, gAdd_int, gSub, gNeg, gTuple, gList, gIsN, gNotN, gPart, gtName, gtTup, gtCons, gtNil, sFor, sFor.go, frz, wipeR, fYes, startI, fnI, isNon, noer, LIM, gSortedRev, gSorted, pre_len, gRev, gSum, gZip, gEnumA, gMax, gEnumA, gMin, gInt, gMin]⟩
  | cons x l ih =>
    intro pre F x3 x4 x5 x6 hl hF hn hc
    have hx := hl x (List.mem_cons_self ..)
    have hF2 : ∀ p ∈ F, 0 ≤ p.2 := fun p hp => (hF p hp).2
    have h1 := cntF_step l.length x hx F hF2
    have h2 := cntF_len l.length (tkStep F x)
    simp only [List.length_cons] at hn hc
    have hst := lw_step (l := pre) (x := x) F fun p hp => (hF p hp).1
    obtain ⟨y5, y6, hB⟩ := lawall_b1for (x0 := x0) (x1 := x1) (x2 := .fz (.lst ((F.map (subP pre)).map dP))) (x7 := x7) hx S (F.map (subP pre)) [] x5 x6 (fun p hp => by
      obtain ⟨q, hq, rfl⟩ := List.mem_map.mp hp
      have := hF q hq
      exact ⟨by simp [fnSem, startR, gIsi, ty6, Ty6.is, tru?, gNot, gLe, gLt, gGt, gGe, gCmp, gTru, gBl, gLen, gItems, gFld, gIx, gAdd_int, gSub, gNeg, gTuple, gList, gIsN, gNotN, gPart, gtName, gtTup, gtCons, gtNil, sFor, sFor.go, frz, wipeR, fYes, startI, fnI, isNon, noer, LIM, gSortedRev, gSorted, pre_len, gRev, gSum, gZip, gEnumA, gMax, gEnumA, gMin, gInt, gMin, subP, subL]; omega, this.2⟩) (by rw [List.nil_append, hst, List.length_map]; omega)
    rw [List.nil_append, List.map_nil, hst] at hB
    obtain ⟨z3, z4, z5, z6, hy⟩ := ih (pre ++ [x]) (tkStep F x) (.fz (.int x)) (.fz (.lst (((tkStep F x).map (subP (pre ++ [x]))).map dP))) y5 y6 (fun y hy => hl y (List.mem_cons_of_mem _ hy)) (fun q hq => ⟨by
      obtain ⟨p', hp', hq'⟩ := List.mem_flatMap.mp hq
      obtain ⟨k, _, rfl⟩ := List.mem_map.mp hq'
      simp [fnSem, startR, gIsi, ty6, Ty6.is, tru?, gNot, gLe, gLt, gGt, gGe, gCmp, gTru, gBl, gLen, gItems, gFld, gIx, gAdd_int, gSub, gNeg, gTuple, gList, gIsN, gNotN, gPart, gtName, gtTup, gtCons, gtNil, sFor, sFor.go, frz, wipeR, fYes, startI, fnI, isNon, noer, LIM, gSortedRev, gSorted, pre_len, gRev, gSum, gZip, gEnumA, gMax, gEnumA, gMin, gInt, gMin, (hF p' hp').1], step_rest hx hF2 q hq⟩) (by simp [fnSem, startR, gIsi, ty6, Ty6.is, tru?, gNot, gLe, gLt, gGt, gGe, gCmp, gTru, gBl, gLen, gItems, gFld, gIx, gAdd_int, gSub, gNeg, gTuple, gList, gIsN, gNotN, gPart, gtName, gtTup, gtCons, gtNil, sFor, sFor.go, frz, wipeR, fYes, startI, fnI, isNon, noer, LIM, gSortedRev, gSorted, pre_len, gRev, gSum, gZip, gEnumA, gMax, gEnumA, gMin, gInt, gMin]; omega) (by omega)
    refine ⟨z3, z4, z5, z6, ?_⟩
    have hB3 : B_law_all_2 [x0, x1, .fz (.lst ((F.map (subP pre)).map dP)), .fz (.int x), x4, x5, x6, x7] S = .mk (.nx [x0, x1, .fz (.lst (((tkStep F x).map (subP (pre ++ [x]))).map dP)), .fz (.int x), .fz (.lst (((tkStep F x).map (subP (pre ++ [x]))).map dP)), y5, y6, x7]) S := by
      generalize (F.map (subP pre)).map dP = G at hB ⊢
      generalize ((tkStep F x).map (subP (pre ++ [x]))).map dP = G2 at hB ⊢
      unfold B_law_all_2
      refine seq_go (by ((conv => (lhs; simp (discharger := first | (simp [fnSem, startR, gIsi, ty6, Ty6.is, tru?, gNot, gLe, gLt, gGt, gGe, gCmp, gTru, gBl, gLen, gItems, gFld, gIx, gAdd_int, gSub, gNeg, gTuple, gList, gIsN, gNotN, gPart, gtName, gtTup, gtCons, gtNil, sFor, sFor.go, frz, wipeR, fYes, startI, fnI, isNon, noer, LIM, gSortedRev, gSorted, pre_len, gRev, gSum, gZip, gEnumA, gMax, gEnumA, gMin, gInt, gMin]; done) | omega | (simp [fnSem, startR, gIsi, ty6, Ty6.is, tru?, gNot, gLe, gLt, gGt, gGe, gCmp, gTru, gBl, gLen, gItems, gFld, gIx, gAdd_int, gSub, gNeg, gTuple, gList, gIsN, gNotN, gPart, gtName, gtTup, gtCons, gtNil, sFor, sFor.go, frz, wipeR, fYes, startI, fnI, isNon, noer, LIM, gSortedRev, gSorted, pre_len, gRev, gSum, gZip, gEnumA, gMax, gEnumA, gMin, gInt, gMin]; omega)) [fnSem, startR, gIsi, ty6, Ty6.is, tru?, gNot, gLe, gLt, gGt, gGe, gCmp, gTru, gBl, gLen, gItems, gFld, gIx, gAdd_int, gSub, gNeg, gTuple, gList, gIsN, gNotN, gPart, gtName, gtTup, gtCons, gtNil, sFor, sFor.go, frz, wipeR, fYes, startI, fnI, isNon, noer, LIM, gSortedRev, gSorted, pre_len, gRev, gSum, gZip, gEnumA, gMax, gEnumA, gMin, gInt, gMin, ite_le, ite_lt, gFdiv_ok, gMod_ok, gRange1_ok, gRange2_ok, gPow_ok, gAddL_ok, gAddT_ok, gAdd_int, fLc, rangeD0, ix0, ix1, ix2, gSl_takeL, gSl_dropL, gSl_takeT, gSl_dropT, map_int])) <;> exact rfl)) ?_
      refine seq_go (sFor_ok (ds := G) (S1 := S) (by simp [fnSem, startR, gIsi, ty6, Ty6.is, tru?, gNot, gLe, gLt, gGt, gGe, gCmp, gTru, gBl, gLen, gItems, gFld, gIx, gAdd_int, gSub, gNeg, gTuple, gList, gIsN, gNotN, gPart, gtName, gtTup, gtCons, gtNil, sFor, sFor.go, frz, wipeR, fYes, startI, fnI, isNon, noer, LIM, gSortedRev, gSorted, pre_len, gRev, gSum, gZip, gEnumA, gMax, gEnumA, gMin, gInt, gMin]) hB) ?_
      simp [fnSem, startR, gIsi, ty6, Ty6.is, tru?, gNot, gLe, gLt, gGt, gGe, gCmp, gTru, gBl, gLen, gItems, gFld, gIx, gAdd_int, gSub, gNeg, gTuple, gList, gIsN, gNotN, gPart, gtName, gtTup, gtCons, gtNil, sFor, sFor.go, frz, wipeR, fYes, startI, fnI, isNon, noer, LIM, gSortedRev, gSorted, pre_len, gRev, gSum, gZip, gEnumA, gMax, gEnumA, gMin, gInt, gMin]
    rw [dI_cons]
    unfold sFor.go
    simp only [gtName, List.length_cons, List.length_nil, Nat.reduceAdd, Nat.reduceLT, if_true, List.set_cons_succ, List.set_cons_zero]
    rw [hB3]
    rw [List.append_assoc] at hy
    exact hy
/-- what the boxes hold behind each taking -/
def leftsL (l : List Int) (t : Int) : List (List Int) := (tkAll l t).map fun p => subL l p.1
theorem e_law_all {l : List Int} {t : Int} (hl : ∀ x ∈ l, 0 ≤ x) (h8 : l.length ≤ 8) (ht : 0 ≤ t) (hc : cnt l.length t.toNat ≤ 3000) (S : Store) : F_law_all [.tup (dI l), .int t] S = .ok (.lst (dT (leftsL l t))) S := by
  obtain ⟨y3, y4, y5, y6, h⟩ := lawall_for (x0 := .fz (.tup (dI l))) (x1 := .fz (.int t)) (x7 := .un) S l [] [([], t)] .un .un .un .un hl (by simp [fnSem, startR, gIsi, ty6, Ty6.is, tru?, gNot, gLe, gLt, gGt, gGe, gCmp, gTru, gBl, gLen, gItems, gFld, gIx, gAdd_int, gSub, gNeg, gTuple, gList, gIsN, gNotN, gPart, gtName, gtTup, gtCons, gtNil, sFor, sFor.go, frz, wipeR, fYes, startI, fnI, isNon, noer, LIM, gSortedRev, gSorted, pre_len, gRev, gSum, gZip, gEnumA, gMax, gEnumA, gMin, gInt, gMin]; exact ht) (by simp [fnSem, startR, gIsi, ty6, Ty6.is, tru?, gNot, gLe, gLt, gGt, gGe, gCmp, gTru, gBl, gLen, gItems, gFld, gIx, gAdd_int, gSub, gNeg, gTuple, gList, gIsN, gNotN, gPart, gtName, gtTup, gtCons, gtNil, sFor, sFor.go, frz, wipeR, fYes, startI, fnI, isNon, noer, LIM, gSortedRev, gSorted, pre_len, gRev, gSum, gZip, gEnumA, gMax, gEnumA, gMin, gInt, gMin]; omega) (by simpa [fnSem, startR, gIsi, ty6, Ty6.is, tru?, gNot, gLe, gLt, gGt, gGe, gCmp, gTru, gBl, gLen, gItems, gFld, gIx, gAdd_int, gSub, gNeg, gTuple, gList, gIsN, gNotN, gPart, gtName, gtTup, gtCons, gtNil, sFor, sFor.go, frz, wipeR, fYes, startI, fnI, isNon, noer, LIM, gSortedRev, gSorted, pre_len, gRev, gSum, gZip, gEnumA, gMax, gEnumA, gMin, gInt, gMin, cntF] using hc)
  have hb := (tk_bound l [([], t)] hl (by simp [fnSem, startR, gIsi, ty6, Ty6.is, tru?, gNot, gLe, gLt, gGt, gGe, gCmp, gTru, gBl, gLen, gItems, gFld, gIx, gAdd_int, gSub, gNeg, gTuple, gList, gIsN, gNotN, gPart, gtName, gtTup, gtCons, gtNil, sFor, sFor.go, frz, wipeR, fYes, startI, fnI, isNon, noer, LIM, gSortedRev, gSorted, pre_len, gRev, gSum, gZip, gEnumA, gMax, gEnumA, gMin, gInt, gMin]; exact ht)).1
  have hb : (tkAll l t).length ≤ 3000 := Nat.le_trans hb (by simpa [fnSem, startR, gIsi, ty6, Ty6.is, tru?, gNot, gLe, gLt, gGt, gGe, gCmp, gTru, gBl, gLen, gItems, gFld, gIx, gAdd_int, gSub, gNeg, gTuple, gList, gIsN, gNotN, gPart, gtName, gtTup, gtCons, gtNil, sFor, sFor.go, frz, wipeR, fYes, startI, fnI, isNon, noer, LIM, gSortedRev, gSorted, pre_len, gRev, gSum, gZip, gEnumA, gMax, gEnumA, gMin, gInt, gMin, cntF] using hc)
  have e0 : ([([], t)].map (subP [])).map dP = [.tup [.tup [], .int t]] := rfl
  have e2 : l.foldl tkStep [([], t)] = tkAll l t := rfl
  rw [e0, e2, List.nil_append] at h
  have e1 := lc_encM (g := gtTup 2 (gtCons (gtName 5) (gtCons (gtName 6) gtNil))) (e := E_law_all_2) (ρ := [.fz (.tup (dI l)), .fz (.int t), .fz (.lst (((tkAll l t).map (subP l)).map dP)), y3, y4, .un, .un, .un]) (S := S) dP (fun p : List Int × Int => D.tup (dI p.1)) (fun p => p) ((tkAll l t).map (subP l)) []
    (fun a ha => ⟨[.fz (.tup (dI l)), .fz (.int t), .fz (.lst (((tkAll l t).map (subP l)).map dP)), y3, y4, .fz (.tup (dI a.1)), .fz (.int a.2), .un], by simp [fnSem, startR, gIsi, ty6, Ty6.is, tru?, gNot, gLe, gLt, gGt, gGe, gCmp, gTru, gBl, gLen, gItems, gFld, gIx, gAdd_int, gSub, gNeg, gTuple, gList, gIsN, gNotN, gPart, gtName, gtTup, gtCons, gtNil, sFor, sFor.go, frz, wipeR, fYes, startI, fnI, isNon, noer, LIM, gSortedRev, gSorted, pre_len, gRev, gSum, gZip, gEnumA, gMax, gEnumA, gMin, gInt, gMin, dP], by simp [fnSem, startR, gIsi, ty6, Ty6.is, tru?, gNot, gLe, gLt, gGt, gGe, gCmp, gTru, gBl, gLen, gItems, gFld, gIx, gAdd_int, gSub, gNeg, gTuple, gList, gIsN, gNotN, gPart, gtName, gtTup, gtCons, gtNil, sFor, sFor.go, frz, wipeR, fYes, startI, fnI, isNon, noer, LIM, gSortedRev, gSorted, pre_len, gRev, gSum, gZip, gEnumA, gMax, gEnumA, gMin, gInt, gMin, E_law_all_2]⟩)
  rw [List.nil_append, List.map_id'] at e1
  have e3 : ((tkAll l t).map (subP l)).map (fun p : List Int × Int => D.tup (dI p.1)) = dT (leftsL l t) := by
    unfold leftsL dT
    rw [List.map_map, List.map_map]
    rfl
  rw [e3] at e1
  unfold F_law_all S_law_all
  refine fn_rt ?_
  simp only [startR, List.map_cons, List.map_nil, List.length_cons, List.length_nil, Nat.reduceAdd, Nat.reduceSub, List.replicate, List.cons_append, List.nil_append]
  refine seq_go (by ((conv => (lhs; simp (discharger := first | (simp [fnSem, startR, gIsi, ty6, Ty6.is, tru?, gNot, gLe, gLt, gGt, gGe, gCmp, gTru, gBl, gLen, gItems, gFld, gIx, gAdd_int, gSub, gNeg, gTuple, gList, gIsN, gNotN, gPart, gtName, gtTup, gtCons, gtNil, sFor, sFor.go, frz, wipeR, fYes, startI, fnI, isNon, noer, LIM, gSortedRev, gSorted, pre_len, gRev, gSum, gZip, gEnumA, gMax, gEnumA, gMin, gInt, gMin]; done) | omega | (simp [fnSem, startR, gIsi, ty6, Ty6.is, tru?, gNot, gLe, gLt, gGt, gGe, gCmp, gTru, gBl, gLen, gItems, gFld, gIx, gAdd_int, gSub, gNeg, gTuple, gList, gIsN, gNotN, gPart, gtName, gtTup, gtCons, gtNil, sFor, sFor.go, frz, wipeR, fYes, startI, fnI, isNon, noer, LIM, gSortedRev, gSorted, pre_len, gRev, gSum, gZip, gEnumA, gMax, gEnumA, gMin, gInt, gMin]; omega)) [fnSem, startR, gIsi, ty6, Ty6.is, tru?, gNot, gLe, gLt, gGt, gGe, gCmp, gTru, gBl, gLen, gItems, gFld, gIx, gAdd_int, gSub, gNeg, gTuple, gList, gIsN, gNotN, gPart, gtName, gtTup, gtCons, gtNil, sFor, sFor.go, frz, wipeR, fYes, startI, fnI, isNon, noer, LIM, gSortedRev, gSorted, pre_len, gRev, gSum, gZip, gEnumA, gMax, gEnumA, gMin, gInt, gMin, ite_le, ite_lt, gFdiv_ok, gMod_ok, gRange1_ok, gRange2_ok, gPow_ok, gAddL_ok, gAddT_ok, gAdd_int, fLc, rangeD0, ix0, ix1, ix2, gSl_takeL, gSl_dropL, gSl_takeT, gSl_dropT, map_int])) <;> exact rfl)) ?_
  refine seq_go (sFor_ok (ds := dI l) (S1 := S) (by simp [fnSem, startR, gIsi, ty6, Ty6.is, tru?, gNot, gLe, gLt, gGt, gGe, gCmp, gTru, gBl, gLen, gItems, gFld, gIx, gAdd_int, gSub, gNeg, gTuple, gList, gIsN, gNotN, gPart, gtName, gtTup, gtCons, gtNil, sFor, sFor.go, frz, wipeR, fYes, startI, fnI, isNon, noer, LIM, gSortedRev, gSorted, pre_len, gRev, gSum, gZip, gEnumA, gMax, gEnumA, gMin, gInt, gMin]) h) ?_
  have hlen : (((tkAll l t).map (subP l)).map dP).length ≤ 1000000 := by simp [fnSem, startR, gIsi, ty6, Ty6.is, tru?, gNot, gLe, gLt, gGt, gGe, gCmp, gTru, gBl, gLen, gItems, gFld, gIx, gAdd_int, gSub, gNeg, gTuple, gList, gIsN, gNotN, gPart, gtName, gtTup, gtCons, gtNil, sFor, sFor.go, frz, wipeR, fYes, startI, fnI, isNon, noer, LIM, gSortedRev, gSorted, pre_len, gRev, gSum, gZip, gEnumA, gMax, gEnumA, gMin, gInt, gMin]; omega
  generalize ((tkAll l t).map (subP l)).map dP = G at e1 hlen ⊢
  simp [fnSem, startR, gIsi, ty6, Ty6.is, tru?, gNot, gLe, gLt, gGt, gGe, gCmp, gTru, gBl, gLen, gItems, gFld, gIx, gAdd_int, gSub, gNeg, gTuple, gList, gIsN, gNotN, gPart, gtName, gtTup, gtCons, gtNil, sFor, sFor.go, frz, wipeR, fYes, startI, fnI, isNon, noer, LIM, gSortedRev, gSorted, pre_len, gRev, gSum, gZip, gEnumA, gMax, gEnumA, gMin, gInt, gMin, fLc, e1, hlen]
/-- the taker wins behind a taking -/
def winB (left : List Int) (t : Int) (s : Nat) : Bool := decide ((0 : Int) ∈ left) || wins left t s true
theorem zipWith_mz {α β γ : Type} (f : α → β → γ) : ∀ (l : List α) (m : List β), List.zipWith f l m = (l.zip m).map fun p => f p.1 p.2
  | [], _ => rfl
  | _ :: _, [] => rfl
  | a :: l, b :: m => by simp [fnSem, startR, gIsi, ty6, Ty6.is, tru?, gNot, gLe, gLt, gGt, gGe, gCmp, gTru, gBl, gLen, gItems, gFld, gIx, gAdd_int, gSub, gNeg, gTuple, gList, gIsN, gNotN, gPart, gtName, gtTup, gtCons, gtNil, sFor, sFor.go, frz, wipeR, fYes, startI, fnI, isNon, noer, LIM, gSortedRev, gSorted, pre_len, gRev, gSum, gZip, gEnumA, gMax, gEnumA, gMin, gInt, gMin, zipWith_mz f l m]
theorem e_is_winning {l am : List Int} {t : Int} {s : Nat} (hl : l.length ≤ 100) (hs : 1 ≤ s ∧ s ≤ 3) (S : Store) : F_is_winning [.tup (dI l), .tup (dI am), .int t, .int s] S = .ok (.bl (winB (subL l am) t s)) S := by
  have ez : (((dI l).zip (dI am)).map fun p => D.tup [p.1, p.2]) = (l.zip am).map fun p : Int × Int => D.tup [.int p.1, .int p.2] := by
    unfold dI
    rw [List.zip_map, List.map_map]
    rfl
  have e := lc_encM (g := gtTup 2 (gtCons (gtName 5) (gtCons (gtName 6) gtNil))) (e := E_is_winning_1) (ρ := [.fz (.tup (dI l)), .fz (.tup (dI am)), .fz (.int t), .fz (.int s), .un, .un, .un]) (S := S) (fun p : Int × Int => D.tup [.int p.1, .int p.2]) D.int (fun p => p.1 - p.2) (l.zip am) []
    (fun a ha => ⟨[.fz (.tup (dI l)), .fz (.tup (dI am)), .fz (.int t), .fz (.int s), .un, .fz (.int a.1), .fz (.int a.2)], by simp [fnSem, startR, gIsi, ty6, Ty6.is, tru?, gNot, gLe, gLt, gGt, gGe, gCmp, gTru, gBl, gLen, gItems, gFld, gIx, gAdd_int, gSub, gNeg, gTuple, gList, gIsN, gNotN, gPart, gtName, gtTup, gtCons, gtNil, sFor, sFor.go, frz, wipeR, fYes, startI, fnI, isNon, noer, LIM, gSortedRev, gSorted, pre_len, gRev, gSum, gZip, gEnumA, gMax, gEnumA, gMin, gInt, gMin], by simp [fnSem, startR, gIsi, ty6, Ty6.is, tru?, gNot, gLe, gLt, gGt, gGe, gCmp, gTru, gBl, gLen, gItems, gFld, gIx, gAdd_int, gSub, gNeg, gTuple, gList, gIsN, gNotN, gPart, gtName, gtTup, gtCons, gtNil, sFor, sFor.go, frz, wipeR, fYes, startI, fnI, isNon, noer, LIM, gSortedRev, gSorted, pre_len, gRev, gSum, gZip, gEnumA, gMax, gEnumA, gMin, gInt, gMin, E_is_winning_1]⟩)
  have e9 : ((l.zip am).map fun p => p.1 - p.2).map D.int = dI (subL l am) := by
    unfold subL dI
    rw [zipWith_mz]
  rw [List.nil_append, e9, ← ez] at e
  have hlen : (subL l am).length ≤ l.length := by simp [fnSem, startR, gIsi, ty6, Ty6.is, tru?, gNot, gLe, gLt, gGt, gGe, gCmp, gTru, gBl, gLen, gItems, gFld, gIx, gAdd_int, gSub, gNeg, gTuple, gList, gIsN, gNotN, gPart, gtName, gtTup, gtCons, gtNil, sFor, sFor.go, frz, wipeR, fYes, startI, fnI, isNon, noer, LIM, gSortedRev, gSorted, pre_len, gRev, gSum, gZip, gEnumA, gMax, gEnumA, gMin, gInt, gMin, subL]; omega
  have e2 := e_turns_byL (bx := subL l am) (t := t) (s := s) true (by omega) hs.1 hs.2 S
  rw [who1] at e2
  have e3 := gIn_lst 0 (subL l am) S
  have c : (((dI l).zip (dI am)).map fun p => D.tup [p.1, p.2]).length ≤ 1000000 := by simp [fnSem, startR, gIsi, ty6, Ty6.is, tru?, gNot, gLe, gLt, gGt, gGe, gCmp, gTru, gBl, gLen, gItems, gFld, gIx, gAdd_int, gSub, gNeg, gTuple, gList, gIsN, gNotN, gPart, gtName, gtTup, gtCons, gtNil, sFor, sFor.go, frz, wipeR, fYes, startI, fnI, isNon, noer, LIM, gSortedRev, gSorted, pre_len, gRev, gSum, gZip, gEnumA, gMax, gEnumA, gMin, gInt, gMin]; omega
  unfold F_is_winning S_is_winning
  refine fn_rt ?_
  simp only [startR, List.map_cons, List.map_nil, List.length_cons, List.length_nil, Nat.reduceAdd, Nat.reduceSub, List.replicate, List.cons_append, List.nil_append]
  refine seq_go (ρ1 := [.fz (.tup (dI l)), .fz (.tup (dI am)), .fz (.int t), .fz (.int s), .ow (dI (subL l am)), .un, .un]) (S1 := S) (by
    have c2 : min l.length am.length ≤ 1000000 := by omega
    simp [fnSem, startR, gIsi, ty6, Ty6.is, tru?, gNot, gLe, gLt, gGt, gGe, gCmp, gTru, gBl, gLen, gItems, gFld, gIx, gAdd_int, gSub, gNeg, gTuple, gList, gIsN, gNotN, gPart, gtName, gtTup, gtCons, gtNil, sFor, sFor.go, frz, wipeR, fYes, startI, fnI, isNon, noer, LIM, gSortedRev, gSorted, pre_len, gRev, gSum, gZip, gEnumA, gMax, gEnumA, gMin, gInt, gMin, fLc, e, c2]) ?_
  cases h0 : decide ((0 : Int) ∈ subL l am) with
  | true =>
    rw [h0] at e3
    simp [fnSem, startR, gIsi, ty6, Ty6.is, tru?, gNot, gLe, gLt, gGt, gGe, gCmp, gTru, gBl, gLen, gItems, gFld, gIx, gAdd_int, gSub, gNeg, gTuple, gList, gIsN, gNotN, gPart, gtName, gtTup, gtCons, gtNil, sFor, sFor.go, frz, wipeR, fYes, startI, fnI, isNon, noer, LIM, gSortedRev, gSorted, pre_len, gRev, gSum, gZip, gEnumA, gMax, gEnumA, gMin, gInt, gMin, frzS, e3, winB, h0, flatD]
  | false =>
    rw [h0] at e3
    cases h1 : turnsO (leftL (subL l am) s true) t s with
    | none =>
      rw [h1] at e2
      simp only [resD] at e2
      simp [fnSem, startR, gIsi, ty6, Ty6.is, tru?, gNot, gLe, gLt, gGt, gGe, gCmp, gTru, gBl, gLen, gItems, gFld, gIx, gAdd_int, gSub, gNeg, gTuple, gList, gIsN, gNotN, gPart, gtName, gtTup, gtCons, gtNil, sFor, sFor.go, frz, wipeR, fYes, startI, fnI, isNon, noer, LIM, gSortedRev, gSorted, pre_len, gRev, gSum, gZip, gEnumA, gMax, gEnumA, gMin, gInt, gMin, frzS, e3, e2, winB, h0, flatD, wins, h1]
    | some k =>
      rw [h1] at e2
      simp only [resD] at e2
      simp [fnSem, startR, gIsi, ty6, Ty6.is, tru?, gNot, gLe, gLt, gGt, gGe, gCmp, gTru, gBl, gLen, gItems, gFld, gIx, gAdd_int, gSub, gNeg, gTuple, gList, gIsN, gNotN, gPart, gtName, gtTup, gtCons, gtNil, sFor, sFor.go, frz, wipeR, fYes, startI, fnI, isNon, noer, LIM, gSortedRev, gSorted, pre_len, gRev, gSum, gZip, gEnumA, gMax, gEnumA, gMin, gInt, gMin, frzS, e3, e2, winB, h0, flatD, wins, h1]
theorem e_many_takings {g : Gm} (o : g.Ok) (hc : cnt g.bx.length g.tk.toNat ≤ 3000) (S : Store) : F_many_takings [g.d] S = .ok (.int (((leftsL g.bx g.tk).filter fun lf => winB lf g.tk g.st).length : Nat)) S := by
  have hl := o.l8
  have ht := o.tk
  have e1 := e_all_takings (l := g.bx) (t := g.tk) (fun x hx => by have := o.h x hx; omega) hl (by omega) hc S
  have hb := (tk_bound g.bx [([], g.tk)] (fun x hx => by have := o.h x hx; omega) (by simp [fnSem, startR, gIsi, ty6, Ty6.is, tru?, gNot, gLe, gLt, gGt, gGe, gCmp, gTru, gBl, gLen, gItems, gFld, gIx, gAdd_int, gSub, gNeg, gTuple, gList, gIsN, gNotN, gPart, gtName, gtTup, gtCons, gtNil, sFor, sFor.go, frz, wipeR, fYes, startI, fnI, isNon, noer, LIM, gSortedRev, gSorted, pre_len, gRev, gSum, gZip, gEnumA, gMax, gEnumA, gMin, gInt, gMin]; omega)).1
  have hb : (tkAll g.bx g.tk).length ≤ 3000 := Nat.le_trans hb (by simpa [fnSem, startR, gIsi, ty6, Ty6.is, tru?, gNot, gLe, gLt, gGt, gGe, gCmp, gTru, gBl, gLen, gItems, gFld, gIx, gAdd_int, gSub, gNeg, gTuple, gList, gIsN, gNotN, gPart, gtName, gtTup, gtCons, gtNil, sFor, sFor.go, frz, wipeR, fYes, startI, fnI, isNon, noer, LIM, gSortedRev, gSorted, pre_len, gRev, gSum, gZip, gEnumA, gMax, gEnumA, gMin, gInt, gMin, cntF] using hc)
  have e2 := lc_enc (g := gtName 2) (t := T_many_takings_1) (e := E_many_takings_1) (ρ := [.fz g.d, .fz (.lst ((tkAll g.bx g.tk).map fun p => .tup (dI p.1))), .un]) (S := S) (fun p : List Int × Int => D.tup (dI p.1)) (fun p : List Int × Int => D.tup (dI p.1)) (fun p => winB (subL g.bx p.1) g.tk g.st) (fun p => p) (tkAll g.bx g.tk) []
    (fun a ha => ⟨[.fz g.d, .fz (.lst ((tkAll g.bx g.tk).map fun p => .tup (dI p.1))), .fz (.tup (dI a.1))], by simp [fnSem, startR, gIsi, ty6, Ty6.is, tru?, gNot, gLe, gLt, gGt, gGe, gCmp, gTru, gBl, gLen, gItems, gFld, gIx, gAdd_int, gSub, gNeg, gTuple, gList, gIsN, gNotN, gPart, gtName, gtTup, gtCons, gtNil, sFor, sFor.go, frz, wipeR, fYes, startI, fnI, isNon, noer, LIM, gSortedRev, gSorted, pre_len, gRev, gSum, gZip, gEnumA, gMax, gEnumA, gMin, gInt, gMin], by
      have e3 := e_is_winning (l := g.bx) (am := a.1) (t := g.tk) (s := g.st) (by omega) o.st S
      simp [fnSem, startR, gIsi, ty6, Ty6.is, tru?, gNot, gLe, gLt, gGt, gGe, gCmp, gTru, gBl, gLen, gItems, gFld, gIx, gAdd_int, gSub, gNeg, gTuple, gList, gIsN, gNotN, gPart, gtName, gtTup, gtCons, gtNil, sFor, sFor.go, frz, wipeR, fYes, startI, fnI, isNon, noer, LIM, gSortedRev, gSorted, pre_len, gRev, gSum, gZip, gEnumA, gMax, gEnumA, gMin, gInt, gMin, T_many_takings_1, p_boxes, p_take, p_strike, e3], fun _ => by simp [fnSem, startR, gIsi, ty6, Ty6.is, tru?, gNot, gLe, gLt, gGt, gGe, gCmp, gTru, gBl, gLen, gItems, gFld, gIx, gAdd_int, gSub, gNeg, gTuple, gList, gIsN, gNotN, gPart, gtName, gtTup, gtCons, gtNil, sFor, sFor.go, frz, wipeR, fYes, startI, fnI, isNon, noer, LIM, gSortedRev, gSorted, pre_len, gRev, gSum, gZip, gEnumA, gMax, gEnumA, gMin, gInt, gMin, E_many_takings_1]⟩)
  rw [List.nil_append, List.map_id'] at e2
  have e4 : (((tkAll g.bx g.tk).filter fun p => winB (subL g.bx p.1) g.tk g.st).map fun p : List Int × Int => D.tup (dI p.1)).length = ((leftsL g.bx g.tk).filter fun lf => winB lf g.tk g.st).length := by
    unfold leftsL
    rw [List.filter_map, List.length_map, List.length_map]
    rfl
  have hlen : ((tkAll g.bx g.tk).map fun p : List Int × Int => D.tup (dI p.1)).length ≤ 1000000 := by simp [fnSem, startR, gIsi, ty6, Ty6.is, tru?, gNot, gLe, gLt, gGt, gGe, gCmp, gTru, gBl, gLen, gItems, gFld, gIx, gAdd_int, gSub, gNeg, gTuple, gList, gIsN, gNotN, gPart, gtName, gtTup, gtCons, gtNil, sFor, sFor.go, frz, wipeR, fYes, startI, fnI, isNon, noer, LIM, gSortedRev, gSorted, pre_len, gRev, gSum, gZip, gEnumA, gMax, gEnumA, gMin, gInt, gMin]; omega
  have hc := e_check_game g S
  generalize ((tkAll g.bx g.tk).map fun p : List Int × Int => D.tup (dI p.1)) = G at e1 e2 hlen
  unfold F_many_takings S_many_takings
  refine fn_rt ?_
  simp only [startR, List.map_cons, List.map_nil, List.length_cons, List.length_nil, Nat.reduceAdd, Nat.reduceSub, List.replicate, List.cons_append, List.nil_append]
  refine seq_go (by ((conv => (lhs; simp (discharger := first | (simp [fnSem, startR, gIsi, ty6, Ty6.is, tru?, gNot, gLe, gLt, gGt, gGe, gCmp, gTru, gBl, gLen, gItems, gFld, gIx, gAdd_int, gSub, gNeg, gTuple, gList, gIsN, gNotN, gPart, gtName, gtTup, gtCons, gtNil, sFor, sFor.go, frz, wipeR, fYes, startI, fnI, isNon, noer, LIM, gSortedRev, gSorted, pre_len, gRev, gSum, gZip, gEnumA, gMax, gEnumA, gMin, gInt, gMin]; done) | omega | (simp [fnSem, startR, gIsi, ty6, Ty6.is, tru?, gNot, gLe, gLt, gGt, gGe, gCmp, gTru, gBl, gLen, gItems, gFld, gIx, gAdd_int, gSub, gNeg, gTuple, gList, gIsN, gNotN, gPart, gtName, gtTup, gtCons, gtNil, sFor, sFor.go, frz, wipeR, fYes, startI, fnI, isNon, noer, LIM, gSortedRev, gSorted, pre_len, gRev, gSum, gZip, gEnumA, gMax, gEnumA, gMin, gInt, gMin]; omega)) [fnSem, startR, gIsi, ty6, Ty6.is, tru?, gNot, gLe, gLt, gGt, gGe, gCmp, gTru, gBl, gLen, gItems, gFld, gIx, gAdd_int, gSub, gNeg, gTuple, gList, gIsN, gNotN, gPart, gtName, gtTup, gtCons, gtNil, sFor, sFor.go, frz, wipeR, fYes, startI, fnI, isNon, noer, LIM, gSortedRev, gSorted, pre_len, gRev, gSum, gZip, gEnumA, gMax, gEnumA, gMin, gInt, gMin, ite_le, ite_lt, gFdiv_ok, gMod_ok, gRange1_ok, gRange2_ok, gPow_ok, gAddL_ok, gAddT_ok, gAdd_int, fLc, rangeD0, ix0, ix1, ix2, gSl_takeL, gSl_dropL, gSl_takeT, gSl_dropT, map_int, hc])) <;> exact rfl)) ?_
  refine seq_go (by ((conv => (lhs; simp (discharger := first | (simp [fnSem, startR, gIsi, ty6, Ty6.is, tru?, gNot, gLe, gLt, gGt, gGe, gCmp, gTru, gBl, gLen, gItems, gFld, gIx, gAdd_int, gSub, gNeg, gTuple, gList, gIsN, gNotN, gPart, gtName, gtTup, gtCons, gtNil, sFor, sFor.go, frz, wipeR, fYes, startI, fnI, isNon, noer, LIM, gSortedRev, gSorted, pre_len, gRev, gSum, gZip, gEnumA, gMax, gEnumA, gMin, gInt, gMin]; done) | omega | (simp [fnSem, startR, gIsi, ty6, Ty6.is, tru?, gNot, gLe, gLt, gGt, gGe, gCmp, gTru, gBl, gLen, gItems, gFld, gIx, gAdd_int, gSub, gNeg, gTuple, gList, gIsN, gNotN, gPart, gtName, gtTup, gtCons, gtNil, sFor, sFor.go, frz, wipeR, fYes, startI, fnI, isNon, noer, LIM, gSortedRev, gSorted, pre_len, gRev, gSum, gZip, gEnumA, gMax, gEnumA, gMin, gInt, gMin]; omega)) [fnSem, startR, gIsi, ty6, Ty6.is, tru?, gNot, gLe, gLt, gGt, gGe, gCmp, gTru, gBl, gLen, gItems, gFld, gIx, gAdd_int, gSub, gNeg, gTuple, gList, gIsN, gNotN, gPart, gtName, gtTup, gtCons, gtNil, sFor, sFor.go, frz, wipeR, fYes, startI, fnI, isNon, noer, LIM, gSortedRev, gSorted, pre_len, gRev, gSum, gZip, gEnumA, gMax, gEnumA, gMin, gInt, gMin, ite_le, ite_lt, gFdiv_ok, gMod_ok, gRange1_ok, gRange2_ok, gPow_ok, gAddL_ok, gAddT_ok, gAdd_int, fLc, rangeD0, ix0, ix1, ix2, gSl_takeL, gSl_dropL, gSl_takeT, gSl_dropT, map_int, p_boxes, p_take, e1])) <;> exact rfl)) ?_
  generalize (((tkAll g.bx g.tk).filter fun p => winB (subL g.bx p.1) g.tk g.st).map fun p : List Int × Int => D.tup (dI p.1)) = G2 at e2 e4
  simp [fnSem, startR, gIsi, ty6, Ty6.is, tru?, gNot, gLe, gLt, gGt, gGe, gCmp, gTru, gBl, gLen, gItems, gFld, gIx, gAdd_int, gSub, gNeg, gTuple, gList, gIsN, gNotN, gPart, gtName, gtTup, gtCons, gtNil, sFor, sFor.go, frz, wipeR, fYes, startI, fnI, isNon, noer, LIM, gSortedRev, gSorted, pre_len, gRev, gSum, gZip, gEnumA, gMax, gEnumA, gMin, gInt, gMin, fLc, e2, hlen, e4]
theorem asked_ok {g : Gm} (o : g.Ok) (hc : cnt g.bx.length g.tk.toNat ≤ 3000) (S : Store) : F_law_asked [g.d] S = .ok (.int (((leftsL g.bx g.tk).filter fun lf => winB lf g.tk g.st).length : Nat)) S := by
  have e := e_many_takings o hc S
  simp [fnSem, startR, gIsi, ty6, Ty6.is, tru?, gNot, gLe, gLt, gGt, gGe, gCmp, gTru, gBl, gLen, gItems, gFld, gIx, gAdd_int, gSub, gNeg, gTuple, gList, gIsN, gNotN, gPart, gtName, gtTup, gtCons, gtNil, sFor, sFor.go, frz, wipeR, fYes, startI, fnI, isNon, noer, LIM, gSortedRev, gSorted, pre_len, gRev, gSum, gZip, gEnumA, gMax, gEnumA, gMin, gInt, gMin, F_law_asked, S_law_asked, sTry, e]
theorem law_body {g : Gm} (o : g.Ok) {x0 x1 x2 x7 x8 : Sl} (k : Int) (lf : List Int) (hl : lf.length ≤ 8) (S : Store) :
    B_law_1 [x0, x1, x2, .fz (.int g.tk), .fz (.int g.st), .fz (.int k), .fz (.tup (dI lf)), x7, x8] S =
      .mk (.nx [x0, x1, x2, .fz (.int g.tk), .fz (.int g.st), .fz (.int (k + ([lf].filter fun lf => winB lf g.tk g.st).length)), .fz (.tup (dI lf)), x7, x8]) S := by
  have hs := o.st
  have e2 := e_law_turns (bx := lf) (t := g.tk) (s := g.st) true (by omega) hs.1 hs.2 S
  rw [who1] at e2
  have e5 := resD_notN (turnsO (leftL lf g.st true) g.tk g.st) S
  have e3 := gIn_tup 0 lf S
  have hw : winB lf g.tk g.st = (decide ((0 : Int) ∈ lf) || (turnsO (leftL lf g.st true) g.tk g.st).isSome) := rfl
  rw [List.filter_cons, hw]
  cases h0 : decide ((0 : Int) ∈ lf) with
  | true =>
    rw [h0] at e3
    simp [fnSem, startR, gIsi, ty6, Ty6.is, tru?, gNot, gLe, gLt, gGt, gGe, gCmp, gTru, gBl, gLen, gItems, gFld, gIx, gAdd_int, gSub, gNeg, gTuple, gList, gIsN, gNotN, gPart, gtName, gtTup, gtCons, gtNil, sFor, sFor.go, frz, wipeR, fYes, startI, fnI, isNon, noer, LIM, gSortedRev, gSorted, pre_len, gRev, gSum, gZip, gEnumA, gMax, gEnumA, gMin, gInt, gMin, B_law_1, e3]
  | false =>
    rw [h0] at e3
    cases h1 : turnsO (leftL lf g.st true) g.tk g.st with
    | some k =>
      rw [h1] at e2
      simp only [resD] at e2
      simp [fnSem, startR, gIsi, ty6, Ty6.is, tru?, gNot, gLe, gLt, gGt, gGe, gCmp, gTru, gBl, gLen, gItems, gFld, gIx, gAdd_int, gSub, gNeg, gTuple, gList, gIsN, gNotN, gPart, gtName, gtTup, gtCons, gtNil, sFor, sFor.go, frz, wipeR, fYes, startI, fnI, isNon, noer, LIM, gSortedRev, gSorted, pre_len, gRev, gSum, gZip, gEnumA, gMax, gEnumA, gMin, gInt, gMin, B_law_1, e3, e2]
    | none =>
      rw [h1] at e2
      simp only [resD] at e2
      simp [fnSem, startR, gIsi, ty6, Ty6.is, tru?, gNot, gLe, gLt, gGt, gGe, gCmp, gTru, gBl, gLen, gItems, gFld, gIx, gAdd_int, gSub, gNeg, gTuple, gList, gIsN, gNotN, gPart, gtName, gtTup, gtCons, gtNil, sFor, sFor.go, frz, wipeR, fYes, startI, fnI, isNon, noer, LIM, gSortedRev, gSorted, pre_len, gRev, gSum, gZip, gEnumA, gMax, gEnumA, gMin, gInt, gMin, B_law_1, e3, e2]
theorem law_for {g : Gm} (o : g.Ok) {x0 x1 x2 x7 x8 : Sl} (S : Store) : ∀ (lfs : List (List Int)) (k : Int) (x6 : Sl), (∀ lf ∈ lfs, lf.length ≤ 8) → ∃ y6,
    sFor.go (gtName 6) B_law_1 (dT lfs) [x0, x1, x2, .fz (.int g.tk), .fz (.int g.st), .fz (.int k), x6, x7, x8] S =
      .mk (.nx [x0, x1, x2, .fz (.int g.tk), .fz (.int g.st), .fz (.int (k + (lfs.filter fun lf => winB lf g.tk g.st).length)), y6, x7, x8]) S := by
  intro lfs
  induction lfs with
  | nil => exact fun k x6 _ => ⟨x6, by simp [fnSem, startR, gIsi, ty6, Ty6.is, tru?, gNot, gLe, gLt, gGt, gGe, gCmp, gTru, gBl, gLen, gItems, gFld, gIx, gAdd_int, gSub, gNeg, gTuple, gList, gIsN, gNotN, gPart, gtName, gtTup, gtCons, gtNil, sFor, sFor.go, frz, wipeR, fYes, startI, fnI, isNon, noer, LIM, gSortedRev, gSorted, pre_len, gRev, gSum, gZip, gEnumA, gMax, gEnumA, gMin, gInt, gMin, dT]⟩
  | cons lf lfs ih =>
    intro k x6 h
    have hb := law_body o (x0 := x0) (x1 := x1) (x2 := x2) (x7 := x7) (x8 := x8) k lf (h lf (List.mem_cons_self ..)) S
    obtain ⟨y6, hy⟩ := ih (k + ([lf].filter fun lf => winB lf g.tk g.st).length) (.fz (.tup (dI lf))) fun q hq => h q (List.mem_cons_of_mem _ hq)
    refine ⟨y6, ?_⟩
    have e : k + ([lf].filter fun lf => winB lf g.tk g.st).length + (lfs.filter fun lf => winB lf g.tk g.st).length = k + ((lf :: lfs).filter fun lf => winB lf g.tk g.st).length := by
      have : lf :: lfs = [lf] ++ lfs := rfl
      rw [this, List.filter_append, List.length_append]
      omega
    rw [e] at hy
    rw [show dT (lf :: lfs) = .tup (dI lf) :: dT lfs from rfl]
    unfold sFor.go
    simp only [gtName, List.length_cons, List.length_nil, Nat.reduceAdd, Nat.reduceLT, if_true, List.set_cons_succ, List.set_cons_zero]
    rw [hb]
    exact hy
theorem cnt_le : ∀ (i j r q : Nat), i ≤ j → r ≤ q → cnt i r ≤ cnt j q := by
  intro i
  induction i with
  | zero => exact fun j r q _ _ => cnt_pos j q
  | succ i ih =>
    intro j r q h1 h2
    obtain ⟨j, rfl⟩ : ∃ k, j = k + 1 := ⟨j - 1, by omega⟩
    unfold cnt
    induction q with
    | zero =>
      obtain rfl : r = 0 := by omega
      simp [fnSem, startR, gIsi, ty6, Ty6.is, tru?, gNot, gLe, gLt, gGt, gGe, gCmp, gTru, gBl, gLen, gItems, gFld, gIx, gAdd_int, gSub, gNeg, gTuple, gList, gIsN, gNotN, gPart, gtName, gtTup, gtCons, gtNil, sFor, sFor.go, frz, wipeR, fYes, startI, fnI, isNon, noer, LIM, gSortedRev, gSorted, pre_len, gRev, gSum, gZip, gEnumA, gMax, gEnumA, gMin, gInt, gMin]
      exact ih j 0 0 (by omega) (by omega)
    | succ q iq =>
      by_cases c : r ≤ q
      · have := iq c
        rw [List.range_succ_eq_map (n := q + 1), List.map_cons, List.sum_cons, List.map_map]
        have e : (fun s => cnt j (q + 1 - s)) ∘ Nat.succ = fun s => cnt j (q - s) := by
          funext s
          show cnt j (q + 1 - (s + 1)) = _
          rw [show q + 1 - (s + 1) = q - s by omega]
        rw [e]
        omega
      · obtain rfl : r = q + 1 := by omega
        clear iq
        generalize List.range (q + 1 + 1) = l
        induction l with
        | nil => simp [fnSem, startR, gIsi, ty6, Ty6.is, tru?, gNot, gLe, gLt, gGt, gGe, gCmp, gTru, gBl, gLen, gItems, gFld, gIx, gAdd_int, gSub, gNeg, gTuple, gList, gIsN, gNotN, gPart, gtName, gtTup, gtCons, gtNil, sFor, sFor.go, frz, wipeR, fYes, startI, fnI, isNon, noer, LIM, gSortedRev, gSorted, pre_len, gRev, gSum, gZip, gEnumA, gMax, gEnumA, gMin, gInt, gMin]
        | cons a l il =>
          simp only [List.map_cons, List.sum_cons]
          have := ih j (q + 1 - a) (q + 1 - a) (by omega) (by omega)
          omega
theorem cnt_one (r : Nat) : cnt 1 r = r + 1 := by
  show ((List.range (r + 1)).map fun s => 1).sum = r + 1
  rw [List.map_const', List.length_range]
  generalize r + 1 = n
  induction n with
  | zero => rfl
  | succ n ih => rw [List.replicate_succ, List.sum_cons, ih]; omega
theorem cnt45 : cnt 4 5 ≤ 3000 := by decide +kernel
theorem cnt83 : cnt 8 3 ≤ 3000 := by decide +kernel
theorem e_all_large {n : Int} (h : 3000 ≤ n) (S : Store) : F_all_takings [.tup [.int n], .int n] S = .er ⟨"TooLarge", none⟩ S := by
  have c : (3000 : Int) < n + 1 := by omega
  simp [fnSem, startR, gIsi, ty6, Ty6.is, tru?, gNot, gLe, gLt, gGt, gGe, gCmp, gTru, gBl, gLen, gItems, gFld, gIx, gAdd_int, gSub, gNeg, gTuple, gList, gIsN, gNotN, gPart, gtName, gtTup, gtCons, gtNil, sFor, sFor.go, frz, wipeR, fYes, startI, fnI, isNon, noer, LIM, gSortedRev, gSorted, pre_len, gRev, gSum, gZip, gEnumA, gMax, gEnumA, gMin, gInt, gMin, F_all_takings, S_all_takings, B_all_takings_3, B_all_takings_2, fnSem, startR, sFor, c, frzS]
theorem asked_large {n : Int} {s : Nat} (h : 3000 ≤ n) (S : Store) : F_law_asked [(Gm.mk [n] n s).d] S = .ok (.str "large") S := by
  have e := e_all_large h S
  have e0 := e_check_game (Gm.mk [n] n s) S
  have p1 := p_boxes (Gm.mk [n] n s) S
  have p2 := p_take (Gm.mk [n] n s) S
  simp only [show dI [n] = [D.int n] from rfl] at p1
  have e1 : F_many_takings [(Gm.mk [n] n s).d] S = .er ⟨"TooLarge", none⟩ S := by
    simp [fnSem, startR, gIsi, ty6, Ty6.is, tru?, gNot, gLe, gLt, gGt, gGe, gCmp, gTru, gBl, gLen, gItems, gFld, gIx, gAdd_int, gSub, gNeg, gTuple, gList, gIsN, gNotN, gPart, gtName, gtTup, gtCons, gtNil, sFor, sFor.go, frz, wipeR, fYes, startI, fnI, isNon, noer, LIM, gSortedRev, gSorted, pre_len, gRev, gSum, gZip, gEnumA, gMax, gEnumA, gMin, gInt, gMin, F_many_takings, S_many_takings, e0, p1, p2, e]
  simp [fnSem, startR, gIsi, ty6, Ty6.is, tru?, gNot, gLe, gLt, gGt, gGe, gCmp, gTru, gBl, gLen, gItems, gFld, gIx, gAdd_int, gSub, gNeg, gTuple, gList, gIsN, gNotN, gPart, gtName, gtTup, gtCons, gtNil, sFor, sFor.go, frz, wipeR, fYes, startI, fnI, isNon, noer, LIM, gSortedRev, gSorted, pre_len, gRev, gSum, gZip, gEnumA, gMax, gEnumA, gMin, gInt, gMin, F_law_asked, S_law_asked, sTry, e1, pickH, List.lookup]
theorem turnsO_nil {t : Int} {s : Nat} : turnsO [] t s = none := by
  simp [fnSem, startR, gIsi, ty6, Ty6.is, tru?, gNot, gLe, gLt, gGt, gGe, gCmp, gTru, gBl, gLen, gItems, gFld, gIx, gAdd_int, gSub, gNeg, gTuple, gList, gIsN, gNotN, gPart, gtName, gtTup, gtCons, gtNil, sFor, sFor.go, frz, wipeR, fYes, startI, fnI, isNon, noer, LIM, gSortedRev, gSorted, pre_len, gRev, gSum, gZip, gEnumA, gMax, gEnumA, gMin, gInt, gMin, turnsO, bndL, bgo, fstF]
theorem one_left {n : Int} {s : Nat} (hn : 1 ≤ n) (hs : 1 ≤ s) : ((leftsL [n] n).filter fun lf => winB lf n s).length = 1 := by
  have e : leftsL [n] n = (List.range (n.toNat + 1)).map fun (k : Nat) => [n - (k : Int)] := by
    unfold leftsL tkAll tkStep tkRow
    simp [fnSem, startR, gIsi, ty6, Ty6.is, tru?, gNot, gLe, gLt, gGt, gGe, gCmp, gTru, gBl, gLen, gItems, gFld, gIx, gAdd_int, gSub, gNeg, gTuple, gList, gIsN, gNotN, gPart, gtName, gtTup, gtCons, gtNil, sFor, sFor.go, frz, wipeR, fYes, startI, fnI, isNon, noer, LIM, gSortedRev, gSorted, pre_len, gRev, gSum, gZip, gEnumA, gMax, gEnumA, gMin, gInt, gMin, subL]
  rw [e, List.range_succ, List.map_append, List.filter_append, List.length_append]
  have h1 : (((List.range n.toNat).map fun (k : Nat) => [n - (k : Int)]).filter fun lf => winB lf n s) = [] := by
    rw [List.filter_eq_nil_iff]
    intro lf hlf
    obtain ⟨k, hk, rfl⟩ := List.mem_map.mp hlf
    have hk := List.mem_range.mp hk
    have e1 : leftL [n - (k : Int)] s true = [] := by
      unfold leftL
      rw [if_pos rfl]
      exact List.drop_eq_nil_of_le (by rw [sortI_len]; exact hs)
    unfold winB wins
    rw [e1, turnsO_nil]
    simp [fnSem, startR, gIsi, ty6, Ty6.is, tru?, gNot, gLe, gLt, gGt, gGe, gCmp, gTru, gBl, gLen, gItems, gFld, gIx, gAdd_int, gSub, gNeg, gTuple, gList, gIsN, gNotN, gPart, gtName, gtTup, gtCons, gtNil, sFor, sFor.go, frz, wipeR, fYes, startI, fnI, isNon, noer, LIM, gSortedRev, gSorted, pre_len, gRev, gSum, gZip, gEnumA, gMax, gEnumA, gMin, gInt, gMin]
    omega
  have h2 : (([n.toNat].map fun (k : Nat) => [n - (k : Int)]).filter fun lf => winB lf n s).length = 1 := by
    have : n - max n 0 = 0 := by omega
    simp [fnSem, startR, gIsi, ty6, Ty6.is, tru?, gNot, gLe, gLt, gGt, gGe, gCmp, gTru, gBl, gLen, gItems, gFld, gIx, gAdd_int, gSub, gNeg, gTuple, gList, gIsN, gNotN, gPart, gtName, gtTup, gtCons, gtNil, sFor, sFor.go, frz, wipeR, fYes, startI, fnI, isNon, noer, LIM, gSortedRev, gSorted, pre_len, gRev, gSum, gZip, gEnumA, gMax, gEnumA, gMin, gInt, gMin, winB, this]
  rw [h1, h2]
  rfl
theorem sem_law (ns : List Int) (hn : ns.length ≤ 63) : ∃ S', F_law [.scr ns] [] = .ok (.bl true) S' := by
  obtain ⟨S0, e0, h0⟩ := e_mix hn 5
  obtain ⟨v1, S1, e1, l1, u1, h1⟩ := e_next h0 (b := 3) (by omega) (by omega)
  obtain ⟨g, S2, eg, h2, o, hc⟩ : ∃ (g : Gm) (S2 : Store), (fIfE (fUn gBl (fBin gGt (fUn F_next (fCons (fVar 1) (fCons (fC (.int 3)) fNil))) (fC (.int 0)))) (fUn F_law_game (fCons (fVar 1) (fCons (fC (.int 4)) (fCons (fC (.int 9)) (fCons (fC (.int 5)) fNil))))) (fUn F_law_game (fCons (fVar 1) (fCons (fC (.int 8)) (fCons (fC (.int 12)) (fCons (fC (.int 3)) fNil))))))
      [.fz (.scr ns), .fz (.ref 0), .un, .un, .un, .un, .un, .un, .un] S0 = .ok g.row S2 ∧ Src S2 ∧ g.Ok ∧ cnt g.bx.length g.tk.toNat ≤ 3000 := by
    by_cases c : 0 < v1
    · obtain ⟨g, S2, e, h2, o, b1, b2, b3⟩ := e_game2 h1 (bs := 4) (z := 9) (mo := 5) (by omega) (by omega) (by omega) (by omega) (by omega) (by omega)
      exact ⟨g, S2, by simp (discharger := first | (simp [fnSem, startR, gIsi, ty6, Ty6.is, tru?, gNot, gLe, gLt, gGt, gGe, gCmp, gTru, gBl, gLen, gItems, gFld, gIx, gAdd_int, gSub, gNeg, gTuple, gList, gIsN, gNotN, gPart, gtName, gtTup, gtCons, gtNil, sFor, sFor.go, frz, wipeR, fYes, startI, fnI, isNon, noer, LIM, gSortedRev, gSorted, pre_len, gRev, gSum, gZip, gEnumA, gMax, gEnumA, gMin, gInt, gMin]; done) | omega | (simp [fnSem, startR, gIsi, ty6, Ty6.is, tru?, gNot, gLe, gLt, gGt, gGe, gCmp, gTru, gBl, gLen, gItems, gFld, gIx, gAdd_int, gSub, gNeg, gTuple, gList, gIsN, gNotN, gPart, gtName, gtTup, gtCons, gtNil, sFor, sFor.go, frz, wipeR, fYes, startI, fnI, isNon, noer, LIM, gSortedRev, gSorted, pre_len, gRev, gSum, gZip, gEnumA, gMax, gEnumA, gMin, gInt, gMin]; omega)) [fnSem, startR, gIsi, ty6, Ty6.is, tru?, gNot, gLe, gLt, gGt, gGe, gCmp, gTru, gBl, gLen, gItems, gFld, gIx, gAdd_int, gSub, gNeg, gTuple, gList, gIsN, gNotN, gPart, gtName, gtTup, gtCons, gtNil, sFor, sFor.go, frz, wipeR, fYes, startI, fnI, isNon, noer, LIM, gSortedRev, gSorted, pre_len, gRev, gSum, gZip, gEnumA, gMax, gEnumA, gMin, gInt, gMin, ite_le, ite_lt, gFdiv_ok, gMod_ok, gRange1_ok, gRange2_ok, gPow_ok, gAddL_ok, gAddT_ok, gAdd_int, fLc, rangeD0, ix0, ix1, ix2, gSl_takeL, gSl_dropL, gSl_takeT, gSl_dropT, map_int, e1, c, e], h2, o, Nat.le_trans (cnt_le _ 4 _ 5 (by omega) (by omega)) cnt45⟩
    · obtain ⟨g, S2, e, h2, o, b1, b2, b3⟩ := e_game2 h1 (bs := 8) (z := 12) (mo := 3) (by omega) (by omega) (by omega) (by omega) (by omega) (by omega)
      exact ⟨g, S2, by simp (discharger := first | (simp [fnSem, startR, gIsi, ty6, Ty6.is, tru?, gNot, gLe, gLt, gGt, gGe, gCmp, gTru, gBl, gLen, gItems, gFld, gIx, gAdd_int, gSub, gNeg, gTuple, gList, gIsN, gNotN, gPart, gtName, gtTup, gtCons, gtNil, sFor, sFor.go, frz, wipeR, fYes, startI, fnI, isNon, noer, LIM, gSortedRev, gSorted, pre_len, gRev, gSum, gZip, gEnumA, gMax, gEnumA, gMin, gInt, gMin]; done) | omega | (simp [fnSem, startR, gIsi, ty6, Ty6.is, tru?, gNot, gLe, gLt, gGt, gGe, gCmp, gTru, gBl, gLen, gItems, gFld, gIx, gAdd_int, gSub, gNeg, gTuple, gList, gIsN, gNotN, gPart, gtName, gtTup, gtCons, gtNil, sFor, sFor.go, frz, wipeR, fYes, startI, fnI, isNon, noer, LIM, gSortedRev, gSorted, pre_len, gRev, gSum, gZip, gEnumA, gMax, gEnumA, gMin, gInt, gMin]; omega)) [fnSem, startR, gIsi, ty6, Ty6.is, tru?, gNot, gLe, gLt, gGt, gGe, gCmp, gTru, gBl, gLen, gItems, gFld, gIx, gAdd_int, gSub, gNeg, gTuple, gList, gIsN, gNotN, gPart, gtName, gtTup, gtCons, gtNil, sFor, sFor.go, frz, wipeR, fYes, startI, fnI, isNon, noer, LIM, gSortedRev, gSorted, pre_len, gRev, gSum, gZip, gEnumA, gMax, gEnumA, gMin, gInt, gMin, ite_le, ite_lt, gFdiv_ok, gMod_ok, gRange1_ok, gRange2_ok, gPow_ok, gAddL_ok, gAddT_ok, gAdd_int, fLc, rangeD0, ix0, ix1, ix2, gSl_takeL, gSl_dropL, gSl_takeT, gSl_dropT, map_int, e1, c, e], h2, o, Nat.le_trans (cnt_le _ 8 _ 3 (by omega) (by omega)) cnt83⟩
  obtain ⟨v2, S3, e2, l2, u2, h3⟩ := e_next h2 (b := 20) (by omega) (by omega)
  have hl := o.l8
  have ht := o.tk
  have hs := o.st
  have i1 := e_init o S2
  have md : D.ins "Game" ["held"] [g.held] = g.d := rfl
  have a1 := e_law_all (l := g.bx) (t := g.tk) (fun x hx => by have := o.h x hx; omega) hl (by omega) hc S2
  have hbd := tk_len g.bx [([], g.tk)] 0 (by simp [fnSem, startR, gIsi, ty6, Ty6.is, tru?, gNot, gLe, gLt, gGt, gGe, gCmp, gTru, gBl, gLen, gItems, gFld, gIx, gAdd_int, gSub, gNeg, gTuple, gList, gIsN, gNotN, gPart, gtName, gtTup, gtCons, gtNil, sFor, sFor.go, frz, wipeR, fYes, startI, fnI, isNon, noer, LIM, gSortedRev, gSorted, pre_len, gRev, gSum, gZip, gEnumA, gMax, gEnumA, gMin, gInt, gMin])
  obtain ⟨y6, hf⟩ := law_for o (x0 := .fz (.scr ns)) (x1 := .fz (.ref 0)) (x2 := .fz (.tup (dI g.bx))) (x7 := .un) (x8 := .un) S2 (leftsL g.bx g.tk) 0 .un (fun lf h => by
    obtain ⟨p, hp, rfl⟩ := List.mem_map.mp h
    have := hbd p hp
    simp [fnSem, startR, gIsi, ty6, Ty6.is, tru?, gNot, gLe, gLt, gGt, gGe, gCmp, gTru, gBl, gLen, gItems, gFld, gIx, gAdd_int, gSub, gNeg, gTuple, gList, gIsN, gNotN, gPart, gtName, gtTup, gtCons, gtNil, sFor, sFor.go, frz, wipeR, fYes, startI, fnI, isNon, noer, LIM, gSortedRev, gSorted, pre_len, gRev, gSum, gZip, gEnumA, gMax, gEnumA, gMin, gInt, gMin, subL]; omega)
  rw [Int.zero_add] at hf
  have a2 := asked_ok o hc S2
  have b1 : (1 : Int) ≤ 2990 + v2 ∧ 2990 + v2 ≤ big := by unfold big; omega
  have o2 : (Gm.mk [2990 + v2] (2990 + v2) g.st).Ok := ⟨by simp [fnSem, startR, gIsi, ty6, Ty6.is, tru?, gNot, gLe, gLt, gGt, gGe, gCmp, gTru, gBl, gLen, gItems, gFld, gIx, gAdd_int, gSub, gNeg, gTuple, gList, gIsN, gNotN, gPart, gtName, gtTup, gtCons, gtNil, sFor, sFor.go, frz, wipeR, fYes, startI, fnI, isNon, noer, LIM, gSortedRev, gSorted, pre_len, gRev, gSum, gZip, gEnumA, gMax, gEnumA, gMin, gInt, gMin]; omega, by simp [fnSem, startR, gIsi, ty6, Ty6.is, tru?, gNot, gLe, gLt, gGt, gGe, gCmp, gTru, gBl, gLen, gItems, gFld, gIx, gAdd_int, gSub, gNeg, gTuple, gList, gIsN, gNotN, gPart, gtName, gtTup, gtCons, gtNil, sFor, sFor.go, frz, wipeR, fYes, startI, fnI, isNon, noer, LIM, gSortedRev, gSorted, pre_len, gRev, gSum, gZip, gEnumA, gMax, gEnumA, gMin, gInt, gMin], by simp [fnSem, startR, gIsi, ty6, Ty6.is, tru?, gNot, gLe, gLt, gGt, gGe, gCmp, gTru, gBl, gLen, gItems, gFld, gIx, gAdd_int, gSub, gNeg, gTuple, gList, gIsN, gNotN, gPart, gtName, gtTup, gtCons, gtNil, sFor, sFor.go, frz, wipeR, fYes, startI, fnI, isNon, noer, LIM, gSortedRev, gSorted, pre_len, gRev, gSum, gZip, gEnumA, gMax, gEnumA, gMin, gInt, gMin], b1, hs⟩
  have i2 := e_init o2 S3
  have md2 : D.ins "Game" ["held"] [(Gm.mk [2990 + v2] (2990 + v2) g.st).held] = (Gm.mk [2990 + v2] (2990 + v2) g.st).d := rfl
  have hd1 : dI [2990 + v2] = [D.int (2990 + v2)] := rfl
  simp only [hd1] at i2
  refine ⟨S3, fn_rt ?_⟩
  unfold S_law
  simp only [startR, List.map_cons, List.map_nil, List.length_cons, List.length_nil, Nat.reduceAdd, Nat.reduceSub, List.replicate, List.cons_append, List.nil_append]
  refine seq_go (by ((conv => (lhs; simp (discharger := first | (simp [fnSem, startR, gIsi, ty6, Ty6.is, tru?, gNot, gLe, gLt, gGt, gGe, gCmp, gTru, gBl, gLen, gItems, gFld, gIx, gAdd_int, gSub, gNeg, gTuple, gList, gIsN, gNotN, gPart, gtName, gtTup, gtCons, gtNil, sFor, sFor.go, frz, wipeR, fYes, startI, fnI, isNon, noer, LIM, gSortedRev, gSorted, pre_len, gRev, gSum, gZip, gEnumA, gMax, gEnumA, gMin, gInt, gMin]; done) | omega | (simp [fnSem, startR, gIsi, ty6, Ty6.is, tru?, gNot, gLe, gLt, gGt, gGe, gCmp, gTru, gBl, gLen, gItems, gFld, gIx, gAdd_int, gSub, gNeg, gTuple, gList, gIsN, gNotN, gPart, gtName, gtTup, gtCons, gtNil, sFor, sFor.go, frz, wipeR, fYes, startI, fnI, isNon, noer, LIM, gSortedRev, gSorted, pre_len, gRev, gSum, gZip, gEnumA, gMax, gEnumA, gMin, gInt, gMin]; omega)) [fnSem, startR, gIsi, ty6, Ty6.is, tru?, gNot, gLe, gLt, gGt, gGe, gCmp, gTru, gBl, gLen, gItems, gFld, gIx, gAdd_int, gSub, gNeg, gTuple, gList, gIsN, gNotN, gPart, gtName, gtTup, gtCons, gtNil, sFor, sFor.go, frz, wipeR, fYes, startI, fnI, isNon, noer, LIM, gSortedRev, gSorted, pre_len, gRev, gSum, gZip, gEnumA, gMax, gEnumA, gMin, gInt, gMin, ite_le, ite_lt, gFdiv_ok, gMod_ok, gRange1_ok, gRange2_ok, gPow_ok, gAddL_ok, gAddT_ok, gAdd_int, fLc, rangeD0, ix0, ix1, ix2, gSl_takeL, gSl_dropL, gSl_takeT, gSl_dropT, map_int, e0])) <;> exact rfl)) ?_
  refine seq_go (by show liftE _ _ _ _ = _; unfold liftE; rw [eg]; (conv => (lhs; simp [fnSem, startR, gIsi, ty6, Ty6.is, tru?, gNot, gLe, gLt, gGt, gGe, gCmp, gTru, gBl, gLen, gItems, gFld, gIx, gAdd_int, gSub, gNeg, gTuple, gList, gIsN, gNotN, gPart, gtName, gtTup, gtCons, gtNil, sFor, sFor.go, frz, wipeR, fYes, startI, fnI, isNon, noer, LIM, gSortedRev, gSorted, pre_len, gRev, gSum, gZip, gEnumA, gMax, gEnumA, gMin, gInt, gMin, Gm.row])) <;> exact rfl) ?_
  refine seq_go (by ((conv => (lhs; simp (discharger := first | (simp [fnSem, startR, gIsi, ty6, Ty6.is, tru?, gNot, gLe, gLt, gGt, gGe, gCmp, gTru, gBl, gLen, gItems, gFld, gIx, gAdd_int, gSub, gNeg, gTuple, gList, gIsN, gNotN, gPart, gtName, gtTup, gtCons, gtNil, sFor, sFor.go, frz, wipeR, fYes, startI, fnI, isNon, noer, LIM, gSortedRev, gSorted, pre_len, gRev, gSum, gZip, gEnumA, gMax, gEnumA, gMin, gInt, gMin]; done) | omega | (simp [fnSem, startR, gIsi, ty6, Ty6.is, tru?, gNot, gLe, gLt, gGt, gGe, gCmp, gTru, gBl, gLen, gItems, gFld, gIx, gAdd_int, gSub, gNeg, gTuple, gList, gIsN, gNotN, gPart, gtName, gtTup, gtCons, gtNil, sFor, sFor.go, frz, wipeR, fYes, startI, fnI, isNon, noer, LIM, gSortedRev, gSorted, pre_len, gRev, gSum, gZip, gEnumA, gMax, gEnumA, gMin, gInt, gMin]; omega)) [fnSem, startR, gIsi, ty6, Ty6.is, tru?, gNot, gLe, gLt, gGt, gGe, gCmp, gTru, gBl, gLen, gItems, gFld, gIx, gAdd_int, gSub, gNeg, gTuple, gList, gIsN, gNotN, gPart, gtName, gtTup, gtCons, gtNil, sFor, sFor.go, frz, wipeR, fYes, startI, fnI, isNon, noer, LIM, gSortedRev, gSorted, pre_len, gRev, gSum, gZip, gEnumA, gMax, gEnumA, gMin, gInt, gMin, ite_le, ite_lt, gFdiv_ok, gMod_ok, gRange1_ok, gRange2_ok, gPow_ok, gAddL_ok, gAddT_ok, gAdd_int, fLc, rangeD0, ix0, ix1, ix2, gSl_takeL, gSl_dropL, gSl_takeT, gSl_dropT, map_int])) <;> exact rfl)) ?_
  refine seq_go (sFor_ok (ds := dT (leftsL g.bx g.tk)) (S1 := S2) (by simp [fnSem, startR, gIsi, ty6, Ty6.is, tru?, gNot, gLe, gLt, gGt, gGe, gCmp, gTru, gBl, gLen, gItems, gFld, gIx, gAdd_int, gSub, gNeg, gTuple, gList, gIsN, gNotN, gPart, gtName, gtTup, gtCons, gtNil, sFor, sFor.go, frz, wipeR, fYes, startI, fnI, isNon, noer, LIM, gSortedRev, gSorted, pre_len, gRev, gSum, gZip, gEnumA, gMax, gEnumA, gMin, gInt, gMin, a1]) hf) ?_
  have c1 := gNe_same (k := 0) (pl_int (n := (((leftsL g.bx g.tk).filter fun lf => winB lf g.tk g.st).length : Nat))) (by decide) S2
  refine seq_go (if_n (by simp [fnSem, startR, gIsi, ty6, Ty6.is, tru?, gNot, gLe, gLt, gGt, gGe, gCmp, gTru, gBl, gLen, gItems, gFld, gIx, gAdd_int, gSub, gNeg, gTuple, gList, gIsN, gNotN, gPart, gtName, gtTup, gtCons, gtNil, sFor, sFor.go, frz, wipeR, fYes, startI, fnI, isNon, noer, LIM, gSortedRev, gSorted, pre_len, gRev, gSum, gZip, gEnumA, gMax, gEnumA, gMin, gInt, gMin, i1, md, a2]; rfl) rfl) ?_
  refine seq_go (by ((conv => (lhs; simp (discharger := first | (simp [fnSem, startR, gIsi, ty6, Ty6.is, tru?, gNot, gLe, gLt, gGt, gGe, gCmp, gTru, gBl, gLen, gItems, gFld, gIx, gAdd_int, gSub, gNeg, gTuple, gList, gIsN, gNotN, gPart, gtName, gtTup, gtCons, gtNil, sFor, sFor.go, frz, wipeR, fYes, startI, fnI, isNon, noer, LIM, gSortedRev, gSorted, pre_len, gRev, gSum, gZip, gEnumA, gMax, gEnumA, gMin, gInt, gMin]; done) | omega | (simp [fnSem, startR, gIsi, ty6, Ty6.is, tru?, gNot, gLe, gLt, gGt, gGe, gCmp, gTru, gBl, gLen, gItems, gFld, gIx, gAdd_int, gSub, gNeg, gTuple, gList, gIsN, gNotN, gPart, gtName, gtTup, gtCons, gtNil, sFor, sFor.go, frz, wipeR, fYes, startI, fnI, isNon, noer, LIM, gSortedRev, gSorted, pre_len, gRev, gSum, gZip, gEnumA, gMax, gEnumA, gMin, gInt, gMin]; omega)) [fnSem, startR, gIsi, ty6, Ty6.is, tru?, gNot, gLe, gLt, gGt, gGe, gCmp, gTru, gBl, gLen, gItems, gFld, gIx, gAdd_int, gSub, gNeg, gTuple, gList, gIsN, gNotN, gPart, gtName, gtTup, gtCons, gtNil, sFor, sFor.go, frz, wipeR, fYes, startI, fnI, isNon, noer, LIM, gSortedRev, gSorted, pre_len, gRev, gSum, gZip, gEnumA, gMax, gEnumA, gMin, gInt, gMin, ite_le, ite_lt, gFdiv_ok, gMod_ok, gRange1_ok, gRange2_ok, gPow_ok, gAddL_ok, gAddT_ok, gAdd_int, fLc, rangeD0, ix0, ix1, ix2, gSl_takeL, gSl_dropL, gSl_takeT, gSl_dropT, map_int, e2])) <;> exact rfl)) ?_
  by_cases c : 3000 ≤ 2990 + v2
  · have a3 := asked_large (s := g.st) c S3
    have c3 : (3000 : Int) < 2990 + v2 + 1 := by omega
    refine seq_go (by ((conv => (lhs; simp (discharger := first | (simp [fnSem, startR, gIsi, ty6, Ty6.is, tru?, gNot, gLe, gLt, gGt, gGe, gCmp, gTru, gBl, gLen, gItems, gFld, gIx, gAdd_int, gSub, gNeg, gTuple, gList, gIsN, gNotN, gPart, gtName, gtTup, gtCons, gtNil, sFor, sFor.go, frz, wipeR, fYes, startI, fnI, isNon, noer, LIM, gSortedRev, gSorted, pre_len, gRev, gSum, gZip, gEnumA, gMax, gEnumA, gMin, gInt, gMin]; done) | omega | (simp [fnSem, startR, gIsi, ty6, Ty6.is, tru?, gNot, gLe, gLt, gGt, gGe, gCmp, gTru, gBl, gLen, gItems, gFld, gIx, gAdd_int, gSub, gNeg, gTuple, gList, gIsN, gNotN, gPart, gtName, gtTup, gtCons, gtNil, sFor, sFor.go, frz, wipeR, fYes, startI, fnI, isNon, noer, LIM, gSortedRev, gSorted, pre_len, gRev, gSum, gZip, gEnumA, gMax, gEnumA, gMin, gInt, gMin]; omega)) [fnSem, startR, gIsi, ty6, Ty6.is, tru?, gNot, gLe, gLt, gGt, gGe, gCmp, gTru, gBl, gLen, gItems, gFld, gIx, gAdd_int, gSub, gNeg, gTuple, gList, gIsN, gNotN, gPart, gtName, gtTup, gtCons, gtNil, sFor, sFor.go, frz, wipeR, fYes, startI, fnI, isNon, noer, LIM, gSortedRev, gSorted, pre_len, gRev, gSum, gZip, gEnumA, gMax, gEnumA, gMin, gInt, gMin, ite_le, ite_lt, gFdiv_ok, gMod_ok, gRange1_ok, gRange2_ok, gPow_ok, gAddL_ok, gAddT_ok, gAdd_int, fLc, rangeD0, ix0, ix1, ix2, gSl_takeL, gSl_dropL, gSl_takeT, gSl_dropT, map_int, i2, md2, a3])) <;> exact rfl)) ?_
    have c4 : gEq (.str "large") (.str "large") S3 = .ok (.bl true) S3 := gEq_same (k := 0) (pl_str (by decide +kernel)) (by decide) S3
    (conv => (lhs; simp (discharger := first | (simp [fnSem, startR, gIsi, ty6, Ty6.is, tru?, gNot, gLe, gLt, gGt, gGe, gCmp, gTru, gBl, gLen, gItems, gFld, gIx, gAdd_int, gSub, gNeg, gTuple, gList, gIsN, gNotN, gPart, gtName, gtTup, gtCons, gtNil, sFor, sFor.go, frz, wipeR, fYes, startI, fnI, isNon, noer, LIM, gSortedRev, gSorted, pre_len, gRev, gSum, gZip, gEnumA, gMax, gEnumA, gMin, gInt, gMin]; done) | omega | (simp [fnSem, startR, gIsi, ty6, Ty6.is, tru?, gNot, gLe, gLt, gGt, gGe, gCmp, gTru, gBl, gLen, gItems, gFld, gIx, gAdd_int, gSub, gNeg, gTuple, gList, gIsN, gNotN, gPart, gtName, gtTup, gtCons, gtNil, sFor, sFor.go, frz, wipeR, fYes, startI, fnI, isNon, noer, LIM, gSortedRev, gSorted, pre_len, gRev, gSum, gZip, gEnumA, gMax, gEnumA, gMin, gInt, gMin]; omega)) [fnSem, startR, gIsi, ty6, Ty6.is, tru?, gNot, gLe, gLt, gGt, gGe, gCmp, gTru, gBl, gLen, gItems, gFld, gIx, gAdd_int, gSub, gNeg, gTuple, gList, gIsN, gNotN, gPart, gtName, gtTup, gtCons, gtNil, sFor, sFor.go, frz, wipeR, fYes, startI, fnI, isNon, noer, LIM, gSortedRev, gSorted, pre_len, gRev, gSum, gZip, gEnumA, gMax, gEnumA, gMin, gInt, gMin, ite_le, ite_lt, gFdiv_ok, gMod_ok, gRange1_ok, gRange2_ok, gPow_ok, gAddL_ok, gAddT_ok, gAdd_int, fLc, rangeD0, ix0, ix1, ix2, gSl_takeL, gSl_dropL, gSl_takeT, gSl_dropT, map_int, c3, c4])) <;> exact rfl
  · have hq := asked_ok o2 (by
      show cnt 1 (2990 + v2).toNat ≤ 3000
      rw [cnt_one]
      omega) S3
    have hw := one_left (n := 2990 + v2) (s := g.st) b1.1 hs.1
    have c3 : ¬ (3000 : Int) < 2990 + v2 + 1 := by omega
    simp only [hw] at hq
    refine seq_go (by ((conv => (lhs; simp (discharger := first | (simp [fnSem, startR, gIsi, ty6, Ty6.is, tru?, gNot, gLe, gLt, gGt, gGe, gCmp, gTru, gBl, gLen, gItems, gFld, gIx, gAdd_int, gSub, gNeg, gTuple, gList, gIsN, gNotN, gPart, gtName, gtTup, gtCons, gtNil, sFor, sFor.go, frz, wipeR, fYes, startI, fnI, isNon, noer, LIM, gSortedRev, gSorted, pre_len, gRev, gSum, gZip, gEnumA, gMax, gEnumA, gMin, gInt, gMin]; done) | omega | (simp [fnSem, startR, gIsi, ty6, Ty6.is, tru?, gNot, gLe, gLt, gGt, gGe, gCmp, gTru, gBl, gLen, gItems, gFld, gIx, gAdd_int, gSub, gNeg, gTuple, gList, gIsN, gNotN, gPart, gtName, gtTup, gtCons, gtNil, sFor, sFor.go, frz, wipeR, fYes, startI, fnI, isNon, noer, LIM, gSortedRev, gSorted, pre_len, gRev, gSum, gZip, gEnumA, gMax, gEnumA, gMin, gInt, gMin]; omega)) [fnSem, startR, gIsi, ty6, Ty6.is, tru?, gNot, gLe, gLt, gGt, gGe, gCmp, gTru, gBl, gLen, gItems, gFld, gIx, gAdd_int, gSub, gNeg, gTuple, gList, gIsN, gNotN, gPart, gtName, gtTup, gtCons, gtNil, sFor, sFor.go, frz, wipeR, fYes, startI, fnI, isNon, noer, LIM, gSortedRev, gSorted, pre_len, gRev, gSum, gZip, gEnumA, gMax, gEnumA, gMin, gInt, gMin, ite_le, ite_lt, gFdiv_ok, gMod_ok, gRange1_ok, gRange2_ok, gPow_ok, gAddL_ok, gAddT_ok, gAdd_int, fLc, rangeD0, ix0, ix1, ix2, gSl_takeL, gSl_dropL, gSl_takeT, gSl_dropT, map_int, i2, md2, hq])) <;> exact rfl)) ?_
    (conv => (lhs; simp (discharger := first | (simp [fnSem, startR, gIsi, ty6, Ty6.is, tru?, gNot, gLe, gLt, gGt, gGe, gCmp, gTru, gBl, gLen, gItems, gFld, gIx, gAdd_int, gSub, gNeg, gTuple, gList, gIsN, gNotN, gPart, gtName, gtTup, gtCons, gtNil, sFor, sFor.go, frz, wipeR, fYes, startI, fnI, isNon, noer, LIM, gSortedRev, gSorted, pre_len, gRev, gSum, gZip, gEnumA, gMax, gEnumA, gMin, gInt, gMin]; done) | omega | (simp [fnSem, startR, gIsi, ty6, Ty6.is, tru?, gNot, gLe, gLt, gGt, gGe, gCmp, gTru, gBl, gLen, gItems, gFld, gIx, gAdd_int, gSub, gNeg, gTuple, gList, gIsN, gNotN, gPart, gtName, gtTup, gtCons, gtNil, sFor, sFor.go, frz, wipeR, fYes, startI, fnI, isNon, noer, LIM, gSortedRev, gSorted, pre_len, gRev, gSum, gZip, gEnumA, gMax, gEnumA, gMin, gInt, gMin]; omega)) [fnSem, startR, gIsi, ty6, Ty6.is, tru?, gNot, gLe, gLt, gGt, gGe, gCmp, gTru, gBl, gLen, gItems, gFld, gIx, gAdd_int, gSub, gNeg, gTuple, gList, gIsN, gNotN, gPart, gtName, gtTup, gtCons, gtNil, sFor, sFor.go, frz, wipeR, fYes, startI, fnI, isNon, noer, LIM, gSortedRev, gSorted, pre_len, gRev, gSum, gZip, gEnumA, gMax, gEnumA, gMin, gInt, gMin, ite_le, ite_lt, gFdiv_ok, gMod_ok, gRange1_ok, gRange2_ok, gPow_ok, gAddL_ok, gAddT_ok, gAdd_int, fLc, rangeD0, ix0, ix1, ix2, gSl_takeL, gSl_dropL, gSl_takeT, gSl_dropT, map_int, c3])) <;> exact rfl

end Bx

namespace Bx
open PySem L2
theorem law_end {P : Program} {w : World} {K : PySem.W.Frag} {mg : Str → Option Value} {fa C : Addr} (hmg : mg "law" = some (.ref fa)) (T : ∀ base : Heap, Txt K mg base (fun _ => none) C) :
    ∃ fd : FuncData, (∀ (s : Shared) (u : Value), BindsTo s fd ⟨[u], []⟩ [("_law_script", u)]) ∧ ∀ base : Heap, K.In base → base.Ns mainGlobals mg → FnOk P w K mg base (L2.CX P w) 8 fa fd ["_law_script"] (spD K mg (fun _ => none) 1 F_law) := by
  obtain ⟨fa', fd, hm, hF, hb⟩ := (T default).d_law
  cases hmg.symm.trans hm
  refine ⟨fd, ?_, fun base _ _ => ok_law hF (T base)⟩
  obtain ⟨oc, od, kV, doc, pm, an, cdv, ct, osl, rfl, lk, hcd⟩ := hF.ex
  exact fun s u => .of_eq rfl
end Bx
open PySem PySem.W PyProof.Rows
set_option maxRecDepth 100000 in
set_option maxHeartbeats 0 in
theorem PySem.Challenge.cw_boxtaker_k05_whole_numbers_of_takings_holds : PySem.Challenge.rw_boxtaker_k05_whole_numbers_of_takings.Holds := by
  w_on; o_law; k_head; (case hw => w_witness2)
  k_fill
  refine Bx.law_walk (l := PySem.Challenge.rw_boxtaker_k05_whole_numbers_of_takings) (k := 8) (x := "_law_script") (sem := Bx.F_law) rfl rfl ⟨rfl, by decide, by decide⟩ (fun w h Y => PySem.W.kIn_of Y) Bx.sem_law ?F
  case F =>
    intro w mg fa h KX G hmg
    refine' Bx.law_end hmg ?T
    case T =>
     intro base
     refine' Bx.Txt.mk ?g_Game ?cl ?na_held ?nt ?ins ?mks ?kC ?p_boxes ?p_take ?p_strike ?m_init ?m_eq ?b_sorted ?b_tuple ?b_max ?b_enumerate ?b_len ?b_range ?b_isinstance ?b_int ?b_list ?b_bool ?b_zip ?b_min ?b_sum ?c_MOST_BOXES ?c_MOST_SIZE ?c_MOST_STRIKE ?c_MOST_TAKINGS ?e_BoxError ?e_BadBoxes ?e_BadTake ?e_BadStrike ?e_BadGame ?e_TooLarge ?h_TooLarge ?x_TooLarge_TooLarge ?d_is_integer ?d_is_from ?d_check_boxes ?d_check_take ?d_check_strike ?d_check_game ?d_bounds_of ?d_tops_of ?d_sums_of ?d_over ?d_turns_of ?d_left_for ?d_turns_by ?d_all_takings ?d_is_winning ?d_many_takings ?d_law_mix ?d_law_next ?d_law_game ?d_law_bounds ?d_law_sums ?d_law_turns ?d_law_all ?d_law_asked ?d_law
     (case g_Game => refine' PySem.W.mg_of KX G ?_; k_is)
     (case cl => refine' ⟨?_, ?_, ?_, ?_⟩ <;> k_is)
     (case na_held => refine' (show PySem.W.findIn _ _ _ = some none from ?_); k_is)
     (case nt => k_is)
     (case ins => refine' Bx.ins_mk ⟨?_, ?_, ?_, ?_⟩ ?_ ?_ ?_ ?_ ?_ ?_ <;> k_is)
     (case mks => k_is)
     (case kC => k_is)
     (case p_boxes => refine' Bx.prop_mk ?a ?g ?t ?r ?l ?c ?k ?hb; (case a => k_is); (case g => k_is); (case t => k_is); (case r => k_is); (case l => k_is); (case c => k_is); (case k => k_is); (case hb => exact fun _ _ _ _ _ _ us hl => match us, hl with | [_], _ => rfl))
     (case p_take => refine' Bx.prop_mk ?a ?g ?t ?r ?l ?c ?k ?hb; (case a => k_is); (case g => k_is); (case t => k_is); (case r => k_is); (case l => k_is); (case c => k_is); (case k => k_is); (case hb => exact fun _ _ _ _ _ _ us hl => match us, hl with | [_], _ => rfl))
     (case p_strike => refine' Bx.prop_mk ?a ?g ?t ?r ?l ?c ?k ?hb; (case a => k_is); (case g => k_is); (case t => k_is); (case r => k_is); (case l => k_is); (case c => k_is); (case k => k_is); (case hb => exact fun _ _ _ _ _ _ us hl => match us, hl with | [_], _ => rfl))
     (case m_init => refine' Bx.meth_mk ?a ?i ?l ?c ?k ?hb; (case a => k_is); (case i => k_is); (case l => k_is); (case c => k_is); (case k => k_is); (case hb => exact fun _ _ _ _ _ _ us hl => match us, hl with | [_, _, _, _], _ => rfl))
     (case m_eq => refine' Bx.meth_mk ?a ?i ?l ?c ?k ?hb; (case a => k_is); (case i => k_is); (case l => k_is); (case c => k_is); (case k => k_is); (case hb => exact fun _ _ _ _ _ _ us hl => match us, hl with | [_, _], _ => rfl))
     (case b_sorted => refine' PySem.W.mg_none_of KX G ?_; k_is)
     (case b_tuple => refine' PySem.W.mg_none_of KX G ?_; k_is)
     (case b_max => refine' PySem.W.mg_none_of KX G ?_; k_is)
     (case b_enumerate => refine' PySem.W.mg_none_of KX G ?_; k_is)
     (case b_len => refine' PySem.W.mg_none_of KX G ?_; k_is)
     (case b_range => refine' PySem.W.mg_none_of KX G ?_; k_is)
     (case b_isinstance => refine' PySem.W.mg_none_of KX G ?_; k_is)
     (case b_int => refine' PySem.W.mg_none_of KX G ?_; k_is)
     (case b_list => refine' PySem.W.mg_none_of KX G ?_; k_is)
     (case b_bool => refine' PySem.W.mg_none_of KX G ?_; k_is)
     (case b_zip => refine' PySem.W.mg_none_of KX G ?_; k_is)
     (case b_min => refine' PySem.W.mg_none_of KX G ?_; k_is)
     (case b_sum => refine' PySem.W.mg_none_of KX G ?_; k_is)
     (case c_MOST_BOXES => refine' Bx.int_mk KX G ?a; (case a => k_is))
     (case c_MOST_SIZE => refine' Bx.int_mk KX G ?a; (case a => k_is))
     (case c_MOST_STRIKE => refine' Bx.int_mk KX G ?a; (case a => k_is))
     (case c_MOST_TAKINGS => refine' Bx.int_mk KX G ?a; (case a => k_is))
     (case e_BoxError => refine' Bx.exc_mk KX G ?a ?e ?k ?b ?t; (case a => k_is); (case e => k_exc); (case k => k_is); (case b => k_is); (case t => k_is))
     (case e_BadBoxes => refine' Bx.exc_mk KX G ?a ?e ?k ?b ?t; (case a => k_is); (case e => k_exc); (case k => k_is); (case b => k_is); (case t => k_is))
     (case e_BadTake => refine' Bx.exc_mk KX G ?a ?e ?k ?b ?t; (case a => k_is); (case e => k_exc); (case k => k_is); (case b => k_is); (case t => k_is))
     (case e_BadStrike => refine' Bx.exc_mk KX G ?a ?e ?k ?b ?t; (case a => k_is); (case e => k_exc); (case k => k_is); (case b => k_is); (case t => k_is))
     (case e_BadGame => refine' Bx.exc_mk KX G ?a ?e ?k ?b ?t; (case a => k_is); (case e => k_exc); (case k => k_is); (case b => k_is); (case t => k_is))
     (case e_TooLarge => refine' Bx.exc_mk KX G ?a ?e ?k ?b ?t; (case a => k_is); (case e => k_exc); (case k => k_is); (case b => k_is); (case t => k_is))
     (case h_TooLarge => refine' Bx.at_mk KX G ?a; (case a => k_is))
     (case x_TooLarge_TooLarge => refine' Bx.sub_mk KX G ?a ?b ?c ?d ?e ?f; (case a => k_is); (case b => k_is); (case c => k_is); (case d => k_is); (case e => k_is); (case f => k_is))
     (case d_is_integer => refine' Bx.def_mk KX G ?a ?l ?c ?k ?hb; (case a => k_is); (case l => k_is); (case c => k_is); (case k => k_is); (case hb => exact fun _ _ _ _ _ _ us hl => match us, hl with | [_], _ => rfl))
     (case d_is_from => refine' Bx.def_mk KX G ?a ?l ?c ?k ?hb; (case a => k_is); (case l => k_is); (case c => k_is); (case k => k_is); (case hb => exact fun _ _ _ _ _ _ us hl => match us, hl with | [_, _, _], _ => rfl))
     (case d_check_boxes => refine' Bx.def_mk KX G ?a ?l ?c ?k ?hb; (case a => k_is); (case l => k_is); (case c => k_is); (case k => k_is); (case hb => exact fun _ _ _ _ _ _ us hl => match us, hl with | [_], _ => rfl))
     (case d_check_take => refine' Bx.def_mk KX G ?a ?l ?c ?k ?hb; (case a => k_is); (case l => k_is); (case c => k_is); (case k => k_is); (case hb => exact fun _ _ _ _ _ _ us hl => match us, hl with | [_], _ => rfl))
     (case d_check_strike => refine' Bx.def_mk KX G ?a ?l ?c ?k ?hb; (case a => k_is); (case l => k_is); (case c => k_is); (case k => k_is); (case hb => exact fun _ _ _ _ _ _ us hl => match us, hl with | [_], _ => rfl))
     (case d_check_game => refine' Bx.def_mk KX G ?a ?l ?c ?k ?hb; (case a => k_is); (case l => k_is); (case c => k_is); (case k => k_is); (case hb => exact fun _ _ _ _ _ _ us hl => match us, hl with | [_], _ => rfl))
     (case d_bounds_of => refine' Bx.def_mk KX G ?a ?l ?c ?k ?hb; (case a => k_is); (case l => k_is); (case c => k_is); (case k => k_is); (case hb => exact fun _ _ _ _ _ _ us hl => match us, hl with | [_, _, _], _ => rfl))
     (case d_tops_of => refine' Bx.def_mk KX G ?a ?l ?c ?k ?hb; (case a => k_is); (case l => k_is); (case c => k_is); (case k => k_is); (case hb => exact fun _ _ _ _ _ _ us hl => match us, hl with | [_], _ => rfl))
     (case d_sums_of => refine' Bx.def_mk KX G ?a ?l ?c ?k ?hb; (case a => k_is); (case l => k_is); (case c => k_is); (case k => k_is); (case hb => exact fun _ _ _ _ _ _ us hl => match us, hl with | [_, _, _], _ => rfl))
     (case d_over => refine' Bx.def_mk KX G ?a ?l ?c ?k ?hb; (case a => k_is); (case l => k_is); (case c => k_is); (case k => k_is); (case hb => exact fun _ _ _ _ _ _ us hl => match us, hl with | [_, _], _ => rfl))
     (case d_turns_of => refine' Bx.def_mk KX G ?a ?l ?c ?k ?hb; (case a => k_is); (case l => k_is); (case c => k_is); (case k => k_is); (case hb => exact fun _ _ _ _ _ _ us hl => match us, hl with | [_, _, _], _ => rfl))
     (case d_left_for => refine' Bx.def_mk KX G ?a ?l ?c ?k ?hb; (case a => k_is); (case l => k_is); (case c => k_is); (case k => k_is); (case hb => exact fun _ _ _ _ _ _ us hl => match us, hl with | [_, _, _], _ => rfl))
     (case d_turns_by => refine' Bx.def_mk KX G ?a ?l ?c ?k ?hb; (case a => k_is); (case l => k_is); (case c => k_is); (case k => k_is); (case hb => exact fun _ _ _ _ _ _ us hl => match us, hl with | [_, _, _, _], _ => rfl))
     (case d_all_takings => refine' Bx.def_mk KX G ?a ?l ?c ?k ?hb; (case a => k_is); (case l => k_is); (case c => k_is); (case k => k_is); (case hb => exact fun _ _ _ _ _ _ us hl => match us, hl with | [_, _], _ => rfl))
     (case d_is_winning => refine' Bx.def_mk KX G ?a ?l ?c ?k ?hb; (case a => k_is); (case l => k_is); (case c => k_is); (case k => k_is); (case hb => exact fun _ _ _ _ _ _ us hl => match us, hl with | [_, _, _, _], _ => rfl))
     (case d_many_takings => refine' Bx.def_mk KX G ?a ?l ?c ?k ?hb; (case a => k_is); (case l => k_is); (case c => k_is); (case k => k_is); (case hb => exact fun _ _ _ _ _ _ us hl => match us, hl with | [_], _ => rfl))
     (case d_law_mix => refine' Bx.def_mk KX G ?a ?l ?c ?k ?hb; (case a => k_is); (case l => k_is); (case c => k_is); (case k => k_is); (case hb => exact fun _ _ _ _ _ _ us hl => match us, hl with | [_, _], _ => rfl))
     (case d_law_next => refine' Bx.def_mk KX G ?a ?l ?c ?k ?hb; (case a => k_is); (case l => k_is); (case c => k_is); (case k => k_is); (case hb => exact fun _ _ _ _ _ _ us hl => match us, hl with | [_, _], _ => rfl))
     (case d_law_game => refine' Bx.def_mk KX G ?a ?l ?c ?k ?hb; (case a => k_is); (case l => k_is); (case c => k_is); (case k => k_is); (case hb => exact fun _ _ _ _ _ _ us hl => match us, hl with | [_, _, _, _], _ => rfl))
     (case d_law_bounds => refine' Bx.def_mk KX G ?a ?l ?c ?k ?hb; (case a => k_is); (case l => k_is); (case c => k_is); (case k => k_is); (case hb => exact fun _ _ _ _ _ _ us hl => match us, hl with | [_, _, _], _ => rfl))
     (case d_law_sums => refine' Bx.def_mk KX G ?a ?l ?c ?k ?hb; (case a => k_is); (case l => k_is); (case c => k_is); (case k => k_is); (case hb => exact fun _ _ _ _ _ _ us hl => match us, hl with | [_, _, _], _ => rfl))
     (case d_law_turns => refine' Bx.def_mk KX G ?a ?l ?c ?k ?hb; (case a => k_is); (case l => k_is); (case c => k_is); (case k => k_is); (case hb => exact fun _ _ _ _ _ _ us hl => match us, hl with | [_, _, _, _], _ => rfl))
     (case d_law_all => refine' Bx.def_mk KX G ?a ?l ?c ?k ?hb; (case a => k_is); (case l => k_is); (case c => k_is); (case k => k_is); (case hb => exact fun _ _ _ _ _ _ us hl => match us, hl with | [_, _], _ => rfl))
     (case d_law_asked => refine' Bx.def_mk KX G ?a ?l ?c ?k ?hb; (case a => k_is); (case l => k_is); (case c => k_is); (case k => k_is); (case hb => exact fun _ _ _ _ _ _ us hl => match us, hl with | [_], _ => rfl))
     (case d_law => refine' Bx.def_mk KX G ?a ?l ?c ?k ?hb; (case a => k_is); (case l => k_is); (case c => k_is); (case k => k_is); (case hb => exact fun _ _ _ _ _ _ us hl => match us, hl with | [_], _ => rfl))

