import PyProof.Rows.All
import Wide.All
import OpenK.AllK
import Wide.FinOn
import HandS.ForMost
import HandS.ForExc
import HandS.Wide
import HandS.ExcInit
import HandS.ExcCtx
import HandS.HotCalls
import HandS.Comp
import HandS.NoneIn
import HandS.Lambda
import KE.KDictKeyed
import HandS.TupAny
import HandS.TupMul
import HandS.Flow
import HandS.Walk
import HandS.Style
import HandS.SortInts
import HandS.SortKw
import HandS.Steps
import KE.DataMinMax
import KE.KTupSum
import HandS.Zip
import HandS.Conv
import HandS.Flt
import KE.GoesMore
import KE.GoesZip
import HandS.Property
import HandS.IsInst
import HandS.OwnEq
import HandS.Small
import HandS.Exc
import HandS.ExcOwn
import KE.GoesEnum
import HandS.TryMany
import HandS.ExcIs
import HandS.ExcField
import HandS.Nested
import HandS.EndTab
import KE.SortKeyHeap
import HandS.ExcValue
import HandS.RevRange
import KE.KExcIs
import HandS.More
import HandS.Strs
import HandS.Star
import HandS.SetFor
import HandS.Dict
import HandS.Text
import HandS.FStr
import PyProof.Rows.SeqRoads
import HandS.SlotsOwn
import HandS.TupSets
import PySem.Challenge.RW_boxtaker_k13_errors_apart
set_option Elab.async false
set_option autoImplicit false
set_option linter.all false
set_option maxRecDepth 100000
set_option maxHeartbeats 1000000
namespace Bx
open PySem PyProof.Rows L2
/-! ### errors that bear no context: what the framework needs of them (k13) -/
theorem passLN {X : Cx} : Passes (L2N.CX X.prog X.w) X (fun _ _ _ => False) := fun _ _ _ _ _ _ _ h => by
  rcases h with ⟨a, B, H', cls, d, h⟩
  exact h.2.2.2.2.2.2.2.elim
theorem takes0N {X : Cx} : L2N.Takes X (fun _ _ _ _ => False) := fun _ _ h => by
  rcases h with ⟨a, B, sI, pins, σ, H, cls, d, h⟩
  exact h.2.2.2.2.2.2.2.2.elim
/-- a def that may raise such errors -/
theorem _root_.L2.Fun.okXN {P : Program} {w : World} {K : PySem.W.Frag} {mg : Str → Option Value} {base : Heap} {nm ql : Str} {df : Stmt} {fa : Addr} {fd : FuncData} {N ps : List Str} {n : Nat} {spc : Sp} (G : Fun K nm ql df fa fd) (S : FnScope N ps (defScope df))
    (ln : ∀ vs H Q E, spc vs H Q E → vs.length = ps.length) (bd : ∀ (cv : Value) (A : Around) (outer : List Env) (s : Shared) (H : Hp) (vs : List V) (Q : VK) (E : XK), Room n (A.deeper (envOfC ql (defScope df) s.heap.objs.size fa cv)) → spc vs H Q E →
      ∃ t, PSs (cxOf (L2N.CX P w) P w K mg base N ql (defScope df) fa cv A outer s H E) (defBody df) t ∧ t { nx := fun _ H' => Q .non H', rt := Q } (start N vs) H) : FnOk P w K mg base (L2N.CX P w) (n + 1) fa fd ps spc := by
  rcases G.ex with ⟨z1, z2, z3, z4, z5, z6, cv, z7, z8, eq, z9, z10⟩
  cases eq
  exact fn_of z9 z10 S ln fun A outer s H vs Q E => bd cv A outer s H vs Q E
/-- X(e, ..), X with an own __init__: its object's context stays None -/
theorem pmk_oexN {X : Cx} {CX : CXT} {nm : Str} {arg : Expr} {args : List Expr} {tA : TA} {p pos : Pos} {cls ini : Addr} {n : Nat} {fd : FuncData} {ps : List Str} {spc : Sp} (own : OexC X.K cls)
    (at1 : PySem.W.findIn X.K (.ref cls) "__init__" = some (some (.ref ini))) (at2 : PySem.W.typeIn X.K (.ref ini) = some (.type "function")) (Fi : FnOk X.prog X.w X.K X.mg X.base CX n ini fd ps spc) (room : Room (n + 1) X.A) (bi : Binds X.K fd ps []) (_ : Vals [] [])
    (lets : Passes CX X (fun _ _ _ => False)) (glb : Gl X nm) (mod : X.mg nm = some (.ref cls)) (pA : PA X (arg :: args) tA) (nodb : (nm == ("__debug__" : Str)) = false := by decide)
    (st1 : starEach (arg :: args) X.env = (false, eval arg X.env) :: starEach args X.env := by rfl) (st2 : (backTo pos (starEach args X.env)).any (·.1) = false := by rfl) : L2N.PMk X (.Call (.Name nm p) (arg :: args) [] pos) (tMkO cls spc [] tA) := by
  intro pins s0 σ0 H0 Q0 Inv0 hyp
  obtain ⟨c1, c2, c3, c4, c5, c6, c7, c8, c9, c10, c11, d0, d1, d2, d3, hcls, hbm⟩ := own.cls
  refine wpAny_Call_Name_kw (ld_glob Inv0 glb mod ?_ nodb)
  have step := pA.run pos pins s0 σ0 H0 _ Inv0 hyp
  refine PySem.W.callWith_K (h₀ := X.base) Inv0.ok.mod.kin own.kC (thn step fun us sA got => ?_) st1 st2
  obtain ⟨vs, HA, InvA, rel, few, next⟩ := got
  refine ⟨InvA.kIn, ?_⟩
  obtain ⟨hA, gA, dA, tA', oA⟩ := sA
  -- the object's address
  obtain ⟨E, hE⟩ : ∃ E, E = hA.objs.size + 1 := ⟨_, rfl⟩
  obtain ⟨hB, hhB⟩ : ∃ hB, hB = (hA.push (PySem.W.kdv_tup us)).push (PySem.HandSPX.excO cls hA.objs.size) := ⟨_, rfl⟩
  have le : hA.objs.size ≤ E := by omega
  have free : HA E = none := InvA.hok.fresh le
  have told := next E free
  rw [List.append_nil] at told
  have keeps : ∀ b o, hA.get? b = some o → hB.get? b = some o := fun b o e => by
    rw [hhB]
    exact Heap.get?_push_of_some _ (Heap.get?_push_of_some _ e)
  have laid : hB.get? E = some (PySem.HandSPX.excO cls hA.objs.size) := by
    rw [hhB, hE]
    heap_get
  have InvB : Inv X pins σ0 (upd HA E (exo E cls none)) ⟨hB, gA, dA, tA', oA⟩ := InvA.laid (t' := tA') (o := exo E cls none) keeps le (exo_ok laid)
  have relB : Vals (V.ref E :: vs) (Value.ref E :: us) := .cons rfl rel
  have lens : (Value.ref E :: us ++ []).length = ps.length := by
    rw [List.append_nil, ← relB.length]
    exact Fi.len _ _ _ _ told
  have short : us.length ≤ sizeLine := by
    have := Paired.length rel
    rw [sizeLine_eq]
    omega
  have bindsB := bi _ (Value.ref E :: us) InvB.kIn lens
  rw [List.append_nil] at bindsB
  have ran := Fi.run _ X.stack _ _ ⟨Value.ref E :: us, []⟩ (Value.ref E :: us) _ _ (fun _ _ _ => False) (room.make cls us []) (InvB.env0.make cls us []) bindsB relB told
  show wpAny _ _ (call (.ref cls) us) _ _ _
  rw [hhB, hE] at ran
  refine wpAny_call (PySem.HandSPX.call_own F.excBase_ValueError (fun Y => PySem.HandSPX.refsVE_contains Y c5 hbm) (InvA.kIn _ _ hcls) (PySem.W.looks_findIn InvA.kIn at1) (fun me => PySem.W.bind_fn InvA.kIn me at2) short (codeAny_mono ran fun r sZ back => ?_))
  rw [← hE] at back ⊢
  rw [← hhB] at back
  match r, back with
  | .error er, back => exact lets pins σ0 _ _ er sZ InvB back
  | .ok (.ret u), back =>
    obtain ⟨v, HZ, osZ, bareZ, unZ, hokZ, relZ, vnone, dd, fs, atE, atD, newD, QZ⟩ := back
    subst vnone
    obtain ⟨hZ, gZ, dZ, tZ, oZ⟩ := sZ
    obtain ⟨t0, G, InvZ, kG, gone, obj, noH⟩ := mk_end0 (d2 := dZ) (t2 := tZ) InvA le keeps unZ hokZ osZ bareZ atE atD newD
    refine ⟨relZ, E, _, _, ⟨G, gZ, dZ, tZ, oZ⟩, _, .ref cls, some dd, rfl, InvZ, kG, gone, obj, ⟨rfl, rfl, fun ws e => ?_⟩, rfl, rfl, noH, rfl, bareZ, raises_own own.exC own.tyC, QZ⟩
    injection e with e
    rw [← e]
    rfl
  | .ok .next, back => exact back.elim
  | .ok .brk, back => exact back.elim
  | .ok .cont, back => exact back.elim
end Bx

/-! Fa: a functional reading of a program's fragment. Values are pure data (D); an expression is read as a function from the slots' data and a store of shared objects to a result; `den` turns such a function into a reading of the hand layer. -/
namespace Bx
open PySem L2

/-- pure data -/
inductive D where
  | non | bl (b : Bool) | int (i : Int) | str (s : Str)
  | tup (xs : List D) | lst (xs : List D)
  | ins (c : Str) (ns : List Str) (xs : List D)
  | ref (l : Nat) | fn (f : Str) | scr (ns : List Int)
  | dct (ks : List Str) (xs : List D)
  deriving Inhabited

/-- an object of the store -/
inductive O where
  | src (s : Int) (cs : List Int) (i : Int)
  | lst (ds : List D)
  | obj (c : Str) (ns : List Str) (xs : List D)
  | dic (kvs : List (NestedKey × Int))
  deriving Inhabited
abbrev Store := List O
/-- an exception: its class, its fields if it has an own __init__ -/
structure Exc where
  cls : Str
  fld : Option (List (Str × D))
/-- a result: a value and the store, an exception, or nothing known -/
inductive R (α : Type) where
  | ok (a : α) (S : Store)
  | er (x : Exc) (S : Store)
  | no
/-- a slot of a frame -/
inductive Sl where
  | un | fz (d : D) | ow (ds : List D) | nw (c : Str) (ns : List Str) (xs : List D) | ex (x : Exc)
abbrev Rho := List Sl
abbrev Fn (α : Type) := Rho → Store → R α
@[simp] def R.bind {α β : Type} : R α → (α → Store → R β) → R β
  | .ok a S, k => k a S
  | .er x S, _ => .er x S
  | .no, _ => .no

section
variable (K : PySem.W.Frag) (mg : Str → Option Value)
mutual
/-- v is the datum d, in the heap H -/
inductive Rep (μ : Nat → Option Addr) (H : Hp) : D → V → Prop
  | non : Rep μ H .non .non
  | bl (b : Bool) : Rep μ H (.bl b) (.bl b)
  | int (i : Int) : Rep μ H (.int i) (.int i)
  | str (s : Str) : Rep μ H (.str s) (.str s)
  | tup {a : Addr} {vs : List V} {ds : List D} : H a = some (.tup vs) → Reps μ H ds vs → Rep μ H (.tup ds) (.ref a)
  | lst {a : Addr} {vs : List V} {ds : List D} : H a = some (.lst vs) → Reps μ H ds vs → Rep μ H (.lst ds) (.ref a)
  | ins {a C dx : Addr} {c : Str} {ns : List Str} {vs : List V} {ds : List D} : mg c = some (.ref C) → H a = some (.ins C dx (ns.zip vs)) → ns.length = vs.length → Reps μ H ds vs → Rep μ H (.ins c ns ds) (.ref a)
  | ref {l : Nat} {a : Addr} : μ l = some a → Rep μ H (.ref l) (.ref a)
  | fn {f : Str} {a : Addr} : mg f = some (.ref a) → Rep μ H (.fn f) (.ref a)
  | scr {a : Addr} {ns : List Int} : SqL K H a (ns.map V.int) → Rep μ H (.scr ns) (.ref a)
  | dct {a : Addr} {ks : List Str} {vs : List V} {ds : List D} : H a = some (.dK ((ks.map Sum.inr).zip vs)) → ks.length = vs.length → Reps μ H ds vs → Rep μ H (.dct ks ds) (.ref a)
inductive Reps (μ : Nat → Option Addr) (H : Hp) : List D → List V → Prop
  | nil : Reps μ H [] []
  | cons {d : D} {ds : List D} {v : V} {vs : List V} : Rep μ H d v → Reps μ H ds vs → Reps μ H (d :: ds) (v :: vs)
end
end

theorem rd_mono {H H' : Hp} {a : Addr} {u : HO} (e : Same H H') (h : Rd H a u) : Rd H' a u := by
  rcases h with h | ⟨o, h⟩
  · exact .inl (e a _ h)
  · exact .inr ⟨o, e a _ h⟩
theorem sqt_mono {K : PySem.W.Frag} {H H' : Hp} {a : Addr} {xs : List V} (e : Same H H') (h : SqT K H a xs) : SqT K H' a xs := by
  rcases h with h | h
  · exact .inl (rd_mono e h)
  · exact .inr h
theorem sql_mono {K : PySem.W.Frag} {H H' : Hp} {a : Addr} {xs : List V} (e : Same H H') (h : SqL K H a xs) : SqL K H' a xs := by
  rcases h with h | h
  · exact .inl (rd_mono e h)
  · exact .inr h

section
variable {K : PySem.W.Frag} {mg : Str → Option Value} {μ μ' : Nat → Option Addr} {H H' : Hp}
mutual
theorem Rep.mono (hm : ∀ l a, μ l = some a → μ' l = some a) (e : Same H H') : ∀ (d : D) (v : V), Rep K mg μ H d v → Rep K mg μ' H' d v
  | .non, _, h => by cases h; exact .non
  | .bl _, _, h => by cases h; exact .bl _
  | .int _, _, h => by cases h; exact .int _
  | .str _, _, h => by cases h; exact .str _
  | .tup ds, _, h => by
    cases h with
    | tup h1 h2 => exact .tup (e _ _ h1) (Reps.mono hm e ds _ h2)
  | .lst ds, _, h => by
    cases h with
    | lst h1 h2 => exact .lst (e _ _ h1) (Reps.mono hm e ds _ h2)
  | .ins c ns ds, _, h => by
    cases h with
    | ins h0 h1 h2 h3 => exact .ins h0 (e _ _ h1) h2 (Reps.mono hm e ds _ h3)
  | .ref l, _, h => by
    cases h with
    | ref h => exact .ref (hm _ _ h)
  | .fn f, _, h => by
    cases h with
    | fn h => exact .fn h
  | .scr ns, _, h => by
    cases h with
    | scr h => exact .scr (sql_mono e h)
  | .dct ks ds, _, h => by
    cases h with
    | dct h1 h2 h3 => exact .dct (e _ _ h1) h2 (Reps.mono hm e ds _ h3)
theorem Reps.mono (hm : ∀ l a, μ l = some a → μ' l = some a) (e : Same H H') : ∀ (ds : List D) (vs : List V), Reps K mg μ H ds vs → Reps K mg μ' H' ds vs
  | [], _, h => by cases h; exact .nil
  | d :: ds, _, h => by
    cases h with
    | cons h1 h2 => exact .cons (Rep.mono hm e d _ h1) (Reps.mono hm e ds _ h2)
end
theorem Reps.len : ∀ {ds : List D} {vs : List V}, Reps K mg μ H ds vs → ds.length = vs.length
  | [], _, h => by cases h; rfl
  | d :: ds, _, h => by
    cases h with
    | cons h1 h2 => simp [Reps.len h2]
theorem Reps.get : ∀ {ds : List D} {vs : List V} {i : Nat} {d : D}, Reps K mg μ H ds vs → ds[i]? = some d → ∃ v, vs[i]? = some v ∧ Rep K mg μ H d v
  | [], _, i, d, h, e => by simp at e
  | d :: ds, _, 0, _, h, e => by
    cases h with
    | cons h1 h2 =>
      simp at e; subst e
      exact ⟨_, rfl, h1⟩
  | d :: ds, _, i + 1, _, h, e => by
    cases h with
    | cons h1 h2 =>
      obtain ⟨v, a, b⟩ := Reps.get (i := i) h2 (by simpa using e)
      exact ⟨v, by simpa using a, b⟩
theorem Reps.getV : ∀ {ds : List D} {vs : List V} {i : Nat} {v : V}, Reps K mg μ H ds vs → vs[i]? = some v → ∃ d, ds[i]? = some d ∧ Rep K mg μ H d v := fun {ds vs i v} h e => by
  have hi : i < ds.length := by
    rw [h.len]
    exact (List.getElem?_eq_some_iff.mp e).1
  obtain ⟨v', a, b⟩ := h.get (i := i) (d := ds[i]) (by simp [hi])
  rw [e] at a; cases a
  exact ⟨_, by simp [hi], b⟩
theorem Reps.append : ∀ {ds es : List D} {vs ws : List V}, Reps K mg μ H ds vs → Reps K mg μ H es ws → Reps K mg μ H (ds ++ es) (vs ++ ws)
  | [], _, _, _, h, g => by cases h; exact g
  | d :: ds, _, _, _, h, g => by
    cases h with
    | cons h1 h2 => exact .cons h1 (Reps.append h2 g)
theorem Reps.drop : ∀ {ds : List D} {vs : List V} (n : Nat), Reps K mg μ H ds vs → Reps K mg μ H (ds.drop n) (vs.drop n)
  | _, _, 0, h => h
  | [], _, n + 1, h => by cases h; exact .nil
  | d :: ds, _, n + 1, h => by
    cases h with
    | cons h1 h2 => exact Reps.drop n h2
theorem Reps.take : ∀ {ds : List D} {vs : List V} (n : Nat), Reps K mg μ H ds vs → Reps K mg μ H (ds.take n) (vs.take n)
  | _, _, 0, h => by simpa using Reps.nil
  | [], _, n + 1, h => by cases h; exact .nil
  | d :: ds, _, n + 1, h => by
    cases h with
    | cons h1 h2 => exact .cons h1 (Reps.take n h2)
theorem Reps.set : ∀ {ds : List D} {vs : List V} {d : D} {v : V} (i : Nat), Reps K mg μ H ds vs → Rep K mg μ H d v → Reps K mg μ H (ds.set i d) (vs.set i v)
  | [], _, _, _, _, h, _ => by cases h; exact .nil
  | d :: ds, _, _, _, 0, h, g => by
    cases h with
    | cons h1 h2 => exact .cons g h2
  | d :: ds, _, _, _, i + 1, h, g => by
    cases h with
    | cons h1 h2 => exact .cons h1 (Reps.set i h2 g)
theorem Reps.reverse : ∀ {ds : List D} {vs : List V}, Reps K mg μ H ds vs → Reps K mg μ H ds.reverse vs.reverse
  | [], _, h => by cases h; exact .nil
  | d :: ds, _, h => by
    cases h with
    | cons h1 h2 =>
      rw [List.reverse_cons, List.reverse_cons]
      exact (Reps.reverse h2).append (.cons h1 .nil)
theorem Reps.ints : ∀ {ns : List Int} {vs : List V}, Reps K mg μ H (ns.map D.int) vs → vs = ns.map V.int
  | [], _, h => by cases h; rfl
  | n :: ns, _, h => by
    cases h with
    | cons h1 h2 =>
      cases h1
      rw [Reps.ints h2]; rfl
theorem Reps.ofInts : ∀ (ns : List Int), Reps K mg μ H (ns.map D.int) (ns.map V.int)
  | [] => .nil
  | n :: ns => .cons (.int n) (Reps.ofInts ns)
end

mutual
/-- no lists in it -/
def noL : D → Bool
  | .tup xs => noLs xs
  | .ins _ _ xs => noLs xs
  | .lst _ => false
  | .scr _ => false
  | .dct _ _ => false
  | _ => true
def noLs : List D → Bool
  | [] => true
  | d :: ds => noL d && noLs ds
end
/-- all that is no list stands -/
def SameN (A B : Hp) : Prop := ∀ p o, A p = some o → (∀ vs, o ≠ .lst vs) → B p = some o
theorem _root_.L2.Same.n {A B : Hp} (e : Same A B) : SameN A B := fun p o h _ => e p o h
section
variable {K : PySem.W.Frag} {mg : Str → Option Value} {μ μ' : Nat → Option Addr} {H H' : Hp}
mutual
theorem Rep.monoN (hm : ∀ l a, μ l = some a → μ' l = some a) (e : SameN H H') : ∀ (d : D) (v : V), noL d = true → Rep K mg μ H d v → Rep K mg μ' H' d v
  | .non, _, _, h => by cases h; exact .non
  | .bl _, _, _, h => by cases h; exact .bl _
  | .int _, _, _, h => by cases h; exact .int _
  | .str _, _, _, h => by cases h; exact .str _
  | .tup ds, _, n, h => by
    cases h with
    | tup h1 h2 => exact .tup (e _ _ h1 fun _ z => by cases z) (Reps.monoN hm e ds _ n h2)
  | .lst ds, _, n, h => by cases n
  | .ins c ns ds, _, n, h => by
    cases h with
    | ins h0 h1 h2 h3 => exact .ins h0 (e _ _ h1 fun _ z => by cases z) h2 (Reps.monoN hm e ds _ n h3)
  | .ref l, _, _, h => by
    cases h with
    | ref h => exact .ref (hm _ _ h)
  | .fn f, _, _, h => by
    cases h with
    | fn h => exact .fn h
  | .scr ns, _, n, h => by cases n
  | .dct ks ds, _, n, h => by cases n
theorem Reps.monoN (hm : ∀ l a, μ l = some a → μ' l = some a) (e : SameN H H') : ∀ (ds : List D) (vs : List V), noLs ds = true → Reps K mg μ H ds vs → Reps K mg μ' H' ds vs
  | [], _, _, h => by cases h; exact .nil
  | d :: ds, _, n, h => by
    cases h with
    | cons h1 h2 =>
      have n : (noL d && noLs ds) = true := n
      rw [Bool.and_eq_true] at n
      exact .cons (Rep.monoN hm e d _ n.1 h1) (Reps.monoN hm e ds _ n.2 h2)
end
end
mutual
/-- a key's datum -/
def ofNk : NestedKey → D
  | .none => .non
  | .num i => .int i
  | .text x => .str x
  | .tup ks => .tup (ofNks ks)
def ofNks : List NestedKey → List D
  | [] => []
  | k :: ks => ofNk k :: ofNks ks
end
mutual
theorem noL_nk : ∀ k : NestedKey, noL (ofNk k) = true
  | .none => rfl
  | .num _ => rfl
  | .text _ => rfl
  | .tup ks => noLs_nk ks
theorem noLs_nk : ∀ ks : List NestedKey, noLs (ofNks ks) = true
  | [] => rfl
  | k :: ks => by
    show (noL (ofNk k) && noLs (ofNks ks)) = true
    rw [noL_nk k, noLs_nk ks]; rfl
end
/-- the dict at a, its entries by keys, their addresses and values -/
def DicO (w : World) (a : Addr) (xs : List (NestedKey × Addr × Value)) : HO := .ext fun h => ∃ o es ep, h.get? a = some o ∧ o.ExactDict ∧ o.data = .dict es ep ∧ es.toList = xs.map fun x => (⟨x.1.hash w, .ref x.2.1, x.2.2⟩ : DictEntry)
/-- what stays through a law's run: the tables told, the written part, the module's names, the world -/
structure Tx where
  tab : Addr → Option Str
  K : PySem.W.Frag
  mg : Str → Option Value
  w : World

/-! ### worlds: which addresses are hidden (some 0: a frame's own list; some 1: a table of code objects; some (l + 2): of the store's object l), where the store's objects lie, the store -/
structure Wd where
  M : Addr → Option Nat
  μ : Nat → Option Addr
  S : Store
  T : Tx
def hid (M : Addr → Option Nat) (H : Hp) : Hp := fun a => match M a with
  | none => H a
  | some _ => none
theorem hid_some {M : Addr → Option Nat} {H : Hp} {a : Addr} {o : HO} : hid M H a = some o ↔ M a = none ∧ H a = some o := by
  unfold hid
  split <;> simp_all
theorem hid_le {M : Addr → Option Nat} {H : Hp} : Same (hid M H) H := fun a o h => (hid_some.mp h).2
def ORep (W : Wd) (H : Hp) (l : Nat) (a : Addr) : O → Prop
  | .src s cs i => W.M a = some (l + 2) ∧ ∃ c, W.M c = some (l + 2) ∧ a ≠ c ∧ H a = some (.lst [.int s, .ref c, .int i]) ∧ H c = some (.lst (cs.map V.int))
  | .lst ds => W.M a = some (l + 2) ∧ noLs ds = true ∧ ∃ vs, H a = some (.lst vs) ∧ Reps W.T.K W.T.mg W.μ (hid W.M H) ds vs
  | .obj c ns xs => W.M a = some (l + 2) ∧ noLs xs = true ∧ ∃ C dx vs, W.T.mg c = some (.ref C) ∧ H a = some (.ins C dx (ns.zip vs)) ∧ ns.length = vs.length ∧ Reps W.T.K W.T.mg W.μ (hid W.M H) xs vs
  | .dic kvs => W.M a = some (l + 2) ∧ (a == sysModules) = false ∧ ∃ xs : List (NestedKey × Addr × Value), H a = some (DicO W.T.w a xs) ∧ (∀ x ∈ xs, x.1.depth ≤ 8 ∧ Rep W.T.K W.T.mg W.μ (hid W.M H) (ofNk x.1) (.ref x.2.1)) ∧ (xs.map (·.1)).Nodup ∧ xs.length = kvs.length ∧ ∀ p ∈ xs.zip kvs, p.1.1 = p.2.1 ∧ ∃ t, p.1.2.2 = .int p.2.2 t
/-- the table of code objects at P: what it tells is named q -/
def TabW (W : Wd) (H : Hp) (P : Addr) (q : Str) : Prop := W.M P = some 1 ∧ ∃ ps : Array Value, H P = some (.tbl ps) ∧ TriplesOk ps.toList ∧ ∀ (pos : Pos) (cv : Value), codeAmong pos ps.toList = some cv → ∃ c, cv = .ref c ∧ (∀ l, W.M c ≠ some (l + 1)) ∧ H c = some (LamX.CodeO c q)
structure WOk (W : Wd) (H : Hp) : Prop where
  dom : ∀ p, W.M p ≠ none → H p ≠ none
  obj : ∀ l o, W.S[l]? = some o → ∃ a, W.μ l = some a ∧ ORep W H l a o
  bd : ∀ l a, W.μ l = some a → l < W.S.length
  tab : ∀ P q, W.T.tab P = some q → TabW W H P q
theorem TabW.world {W W' : Wd} {H H' : Hp} {P : Addr} {q : Str} (t : TabW W H P q) (h1 : ∀ p, W.M p = some 1 → W'.M p = some 1 ∧ H' p = H p) (h2 : ∀ p q, (∀ l, W.M p ≠ some (l + 1)) → H p = some (LamX.CodeO p q) → (∀ l, W'.M p ≠ some (l + 1)) ∧ H' p = H p) : TabW W' H' P q := by
  obtain ⟨a, ps, b, c, d⟩ := t
  refine ⟨(h1 P a).1, ps, (h1 P a).2.trans b, c, fun pos cv hc => ?_⟩
  obtain ⟨c', e1, e2, e3⟩ := d pos cv hc
  obtain ⟨f1, f2⟩ := h2 c' q e2 e3
  exact ⟨c', e1, f1, f2.trans e3⟩
/-- what may have happened behind an expression: frozen things and frames' own lists stand -/
structure Gr (W : Wd) (H : Hp) (W' : Wd) (H' : Hp) : Prop where
  ms : ∀ p, H p ≠ none → W'.M p = W.M p
  ex : ∀ p o, H p = some o → (∀ l, W.M p ≠ some (l + 1)) → H' p = some o
  ds : ∀ p, H p ≠ none → H' p ≠ none
  mu : ∀ l a, W.μ l = some a → W'.μ l = some a
  tt : W'.T = W.T
/-- .. behind a statement: frozen things stand -/
structure GrS (W : Wd) (H : Hp) (W' : Wd) (H' : Hp) : Prop where
  fz : ∀ p o, W.M p = none → H p = some o → W'.M p = none ∧ H' p = some o
  mu : ∀ l a, W.μ l = some a → W'.μ l = some a
  tt : W'.T = W.T
theorem Gr.refl (W : Wd) (H : Hp) : Gr W H W H := ⟨fun _ _ => rfl, fun _ _ h _ => h, fun _ h => h, fun _ _ h => h, rfl⟩
theorem Gr.trans {W W1 W2 : Wd} {H H1 H2 : Hp} (a : Gr W H W1 H1) (b : Gr W1 H1 W2 H2) : Gr W H W2 H2 where
  ms := fun p h => (b.ms p (a.ds p h)).trans (a.ms p h)
  ex := fun p o h n => b.ex p o (a.ex p o h n) fun l => by rw [a.ms p (by simp [h])]; exact n l
  ds := fun p h => b.ds p (a.ds p h)
  mu := fun l x h => b.mu l x (a.mu l x h)
  tt := b.tt.trans a.tt
theorem Gr.s {W W1 : Wd} {H H1 : Hp} (a : Gr W H W1 H1) : GrS W H W1 H1 :=
  ⟨fun p o n h => ⟨(a.ms p (by simp [h])).trans n, a.ex p o h fun l => by rw [n]; simp⟩, a.mu, a.tt⟩
theorem GrS.refl (W : Wd) (H : Hp) : GrS W H W H := ⟨fun _ _ n h => ⟨n, h⟩, fun _ _ h => h, rfl⟩
theorem GrS.trans {W W1 W2 : Wd} {H H1 H2 : Hp} (a : GrS W H W1 H1) (b : GrS W1 H1 W2 H2) : GrS W H W2 H2 :=
  ⟨fun p o n h => b.fz p o (a.fz p o n h).1 (a.fz p o n h).2, fun l x h => b.mu l x (a.mu l x h), b.tt.trans a.tt⟩
theorem GrS.same {W W1 : Wd} {H H1 : Hp} (a : GrS W H W1 H1) : Same (hid W.M H) (hid W1.M H1) := fun p o h => by
  obtain ⟨n, e⟩ := hid_some.mp h
  exact hid_some.mpr (a.fz p o n e)

/-- a frame: the written part, the module's names, the world and heap at its start, what is wanted if it raises -/
structure Fm where
  K : PySem.W.Frag
  mg : Str → Option Value
  W0 : Wd
  H0 : Hp
  wish : WX
  self : Addr := (0 : Nat)
  T : Tx
  exc : Option (Addr × Value × Option Addr) := none
abbrev Fm.rep (F : Fm) (W : Wd) (H : Hp) (d : D) (v : V) : Prop := Rep F.K F.mg W.μ (hid W.M H) d v
abbrev Fm.reps (F : Fm) (W : Wd) (H : Hp) (d : List D) (v : List V) : Prop := Reps F.K F.mg W.μ (hid W.M H) d v
/-- the exception x: its class's object, its own dict -/
def ERep (F : Fm) (W : Wd) (H : Hp) (x : Exc) (cls : Value) (dd : Option Addr) : Prop :=
  ∃ C, F.mg x.cls = some (.ref C) ∧ cls = .ref C ∧ match x.fld with
    | none => dd = none
    | some fs => ∃ d vs, dd = some d ∧ hid W.M H d = some (.xd ((fs.map (·.1)).zip vs)) ∧ F.reps W H (fs.map (·.2)) vs
structure EnvOk (F : Fm) (W : Wd) (H : Hp) (σ : St) (ρ : Rho) : Prop where
  len : ρ.length = σ.length
  fz : ∀ (i : Nat) (d : D), ρ[i]? = some (.fz d) → ∃ v, σ[i]? = some (some v) ∧ F.rep W H d v
  ow : ∀ (i : Nat) (ds : List D), ρ[i]? = some (.ow ds) → ∃ p vs, σ[i]? = some (some (.ref p)) ∧ W.M p = some 0 ∧ F.H0 p = none ∧ H p = some (.lst vs) ∧ F.reps W H ds vs
  dj : ∀ (i j : Nat) (ds es : List D) (p : Addr), ρ[i]? = some (.ow ds) → ρ[j]? = some (.ow es) → σ[i]? = some (some (.ref p)) → σ[j]? = some (some (.ref p)) → i = j
  nw : ∀ (i : Nat) (c : Str) (ns : List Str) (xs : List D), ρ[i]? = some (.nw c ns xs) → ∃ p C dx vs, σ[i]? = some (some (.ref p)) ∧ F.mg c = some (.ref C) ∧ W.M p = some 0 ∧ F.H0 p = none ∧ H p = some (.ins C dx (ns.zip vs)) ∧ ns.length = vs.length ∧ F.reps W H xs vs ∧ p = F.self
  ex : ∀ (i : Nat) (x : Exc), ρ[i]? = some (.ex x) → ∃ a cls dd, F.exc = some (a, cls, dd) ∧ σ[i]? = some (some (.ref a)) ∧ ERep F W H x cls dd
  tk : W.T = F.T
structure IF (F : Fm) (W : Wd) (H : Hp) (σ : St) (ρ : Rho) : Prop where
  ok : WOk W H
  gr : Gr F.W0 F.H0 W H
  env : EnvOk F W H σ ρ
section
variable {F : Fm} {W W' : Wd} {H H' : Hp} {σ : St} {ρ : Rho}
theorem rep_gr {d : D} {v : V} (g : GrS W H W' H') (h : F.rep W H d v) : F.rep W' H' d v := Rep.mono g.mu g.same d v h
theorem reps_gr {d : List D} {v : List V} (g : GrS W H W' H') (h : F.reps W H d v) : F.reps W' H' d v := Reps.mono g.mu g.same d v h
theorem erep_gr {x : Exc} {cls : Value} {dd : Option Addr} (g : GrS W H W' H') (h : ERep F W H x cls dd) : ERep F W' H' x cls dd := by
  obtain ⟨C, h1, h2, h3⟩ := h
  refine ⟨C, h1, h2, ?_⟩
  cases hf : x.fld with
  | none => rw [hf] at h3; exact h3
  | some fs =>
    rw [hf] at h3
    obtain ⟨d, vs, e1, e2, e3⟩ := h3
    exact ⟨d, vs, e1, g.same d _ e2, reps_gr g e3⟩
theorem EnvOk.gr (e : EnvOk F W H σ ρ) (g : Gr W H W' H') : EnvOk F W' H' σ ρ where
  len := e.len
  fz := fun i d h => by
    obtain ⟨v, h1, h2⟩ := e.fz i d h
    exact ⟨v, h1, rep_gr g.s h2⟩
  ow := fun i ds h => by
    obtain ⟨p, vs, h1, h2, h3, h4, h5⟩ := e.ow i ds h
    exact ⟨p, vs, h1, (g.ms p (by simp [h4])).trans h2, h3, g.ex p _ h4 fun l => by rw [h2]; simp, reps_gr g.s h5⟩
  dj := e.dj
  nw := fun i c ns xs h => by
    obtain ⟨p, C, dx, vs, h1, h2, h3, h4, h5, h6, h7⟩ := e.nw i c ns xs h
    exact ⟨p, C, dx, vs, h1, h2, (g.ms p (by simp [h5])).trans h3, h4, g.ex p _ h5 fun l => by rw [h3]; simp, h6, reps_gr g.s h7.1, h7.2⟩
  ex := fun i x h => by
    obtain ⟨a, cls, dd, h1, h2, h3⟩ := e.ex i x h
    exact ⟨a, cls, dd, h1, h2, erep_gr g.s h3⟩
  tk := g.tt.trans e.tk
theorem IF.go (I : IF F W H σ ρ) (g : Gr W H W' H') (ok : WOk W' H') : IF F W' H' σ ρ := ⟨ok, I.gr.trans g, I.env.gr g⟩
end

/-! ### what is wanted behind an expression -/
def Post {α β : Type} (F : Fm) (rel : Wd → Hp → α → β → Prop) (W : Wd) (H : Hp) (σ : St) (r : R α) (Q : β → Hp → Prop) : Prop :=
  match r with
  | .ok a S' => ∀ b H' W', W'.S = S' → Gr W H W' H' → WOk W' H' → rel W' H' a b → Q b H'
  | .er x S' => ∀ cls dd H' W', W'.S = S' → Gr W H W' H' → WOk W' H' → ERep F W' H' x cls dd → F.wish cls dd σ H'
  | .no => False
/-- the reading that a function is -/
def den {α β : Type} (F : Fm) (rel : Wd → Hp → α → β → Prop) (f : Fn α) : St → Hp → (β → Hp → Prop) → Prop := fun σ H Q => ∃ ρ W, IF F W H σ ρ ∧ Post F rel W H σ (f ρ W.S) Q
abbrev relE {α : Type} : Wd → Hp → α → α → Prop := fun _ _ a b => a = b
abbrev denE (F : Fm) (f : Fn D) : TE := den F F.rep f
abbrev denT (F : Fm) (f : Fn Bool) : TT := den F relE f
abbrev denA (F : Fm) (f : Fn (List D)) : TA := den F F.reps f
def Mono {α β : Type} (rel : Wd → Hp → α → β → Prop) : Prop := ∀ W H W' H' a b, Gr W H W' H' → rel W H a b → rel W' H' a b
theorem mono_rep {F : Fm} : Mono F.rep := fun _ _ _ _ _ _ g h => rep_gr g.s h
theorem mono_reps {F : Fm} : Mono F.reps := fun _ _ _ _ _ _ g h => reps_gr g.s h
theorem mono_E {α : Type} : Mono (relE (α := α)) := fun _ _ _ _ _ _ _ h => h
section
variable {F : Fm} {W W' W1 : Wd} {H H' H1 : Hp} {σ : St} {ρ : Rho} {α β γ δ : Type} {rel : Wd → Hp → α → β → Prop} {rel2 : Wd → Hp → γ → δ → Prop} {Q : β → Hp → Prop} {r : R α}
theorem Post.weaken (g : Gr W H W1 H1) (h : Post F rel W H σ r Q) : Post F rel W1 H1 σ r Q := by
  cases r with
  | ok a S => exact fun b H' W' e g' ok hr => h b H' W' e (g.trans g') ok hr
  | er x S => exact fun cls dd H' W' e g' ok hr => h cls dd H' W' e (g.trans g') ok hr
  | no => exact h
theorem Post.imp {Q' : β → Hp → Prop} (h : Post F rel W H σ r Q) (k : ∀ b H', Q b H' → Q' b H') : Post F rel W H σ r Q' := by
  cases r with
  | ok a S => exact fun b H' W' e g' ok hr => k _ _ (h b H' W' e g' ok hr)
  | er x S => exact h
  | no => exact h
/-- one after another -/
theorem Post.bind {f : R γ} {k : γ → Store → R α} {Q2 : δ → Hp → Prop} (h : Post F rel W H σ (f.bind k) Q)
    (hk : ∀ c b H1 W1, Gr W H W1 H1 → WOk W1 H1 → rel2 W1 H1 c b → Post F rel W1 H1 σ (k c W1.S) Q → Q2 b H1) : Post F rel2 W H σ f Q2 := by
  cases f with
  | ok c S =>
    intro b H1 W1 e g ok hr
    have h' : Post F rel W H σ (k c S) Q := h
    rw [← e] at h'
    exact hk c b H1 W1 g ok hr (h'.weaken g)
  | er x S => exact h
  | no => exact h
theorem Post.val {a : α} {b : β} (ok : WOk W H) (h : Post F rel W H σ (.ok a W.S) Q) (hr : rel W H a b) : Q b H := h b H W rfl (Gr.refl W H) ok hr
end
theorem _root_.L2.PE.imp {X : Cx} {e : Expr} {t t' : TE} (h : PE X e t) (k : ∀ σ H Q, t' σ H Q → t σ H Q) : PE X e t' := ⟨fun pins s σ H Q I q => h.run pins s σ H Q I (k σ H Q q)⟩
theorem _root_.L2.PT.imp {X : Cx} {e : Expr} {t t' : TT} (h : PT X e t) (k : ∀ σ H Q, t' σ H Q → t σ H Q) : PT X e t' := ⟨fun pins s σ H Q I q => h.run pins s σ H Q I (k σ H Q q)⟩
theorem _root_.L2.PA.imp {X : Cx} {e : List Expr} {t t' : TA} (h : PA X e t) (k : ∀ σ H Q, t' σ H Q → t σ H Q) : PA X e t' := ⟨fun pos pins s σ H Q I q => h.run pos pins s σ H Q I (k σ H Q q)⟩
theorem _root_.L2.PS.imp {X : Cx} {e : Stmt} {t t' : TS} (h : PS X e t) (k : ∀ D σ H, t' D σ H → t D σ H) : PS X e t' := ⟨fun pins s σ H D I q => h.run pins s σ H D I (k D σ H q)⟩
theorem _root_.L2.PSs.imp {X : Cx} {e : List Stmt} {t t' : TS} (h : PSs X e t) (k : ∀ D σ H, t' D σ H → t D σ H) : PSs X e t' := ⟨fun pins s σ H D I q => h.run pins s σ H D I (k D σ H q)⟩

/-! ### expressions -/
@[simp] def fVar (i : Nat) : Fn D := fun ρ S => match ρ[i]? with
  | some (.fz d) => .ok d S
  | _ => .no
@[simp] def fC (d : D) : Fn D := fun _ S => .ok d S
def flatD : D → Bool
  | .non | .bl _ | .int _ | .str _ | .fn _ => true
  | _ => false
@[simp] def fBin (g : D → D → Store → R D) (f1 f2 : Fn D) : Fn D := fun ρ S => (f1 ρ S).bind fun a S1 => (f2 ρ S1).bind fun b S2 => g a b S2
@[simp] def fUn {α β : Type} (g : α → Store → R β) (f : Fn α) : Fn β := fun ρ S => (f ρ S).bind g
section
variable {X : Cx} {F : Fm} {a b e : Expr} {f f1 f2 f3 : Fn D} {pos : Pos}
theorem de_var {i : Nat} {e : Expr} (h : PE X e (tVar i)) : PE X e (denE F (fVar i)) := h.imp fun σ H Q ⟨ρ, W, I, q⟩ => by
  unfold fVar at q
  split at q
  · rename_i d hd
    obtain ⟨v, h1, h2⟩ := I.env.fz i d hd
    exact ⟨v, h1, q.val I.ok h2⟩
  · exact q.elim
theorem de_C {e : Expr} {v : V} {d : D} (h : PE X e (tC v)) (r : ∀ W H, F.rep W H d v) : PE X e (denE F (fC d)) := h.imp fun σ H Q ⟨ρ, W, I, q⟩ => q.val I.ok (r W H)
theorem de_int {i j pos} : PE X (.Constant (.int i) j pos) (denE F (fC (.int i))) := de_C pe_int fun _ _ => .int _
theorem de_bl {i j pos} : PE X (.Constant (.bool i) j pos) (denE F (fC (.bl i))) := de_C pe_bl fun _ _ => .bl _
theorem de_non {j pos} : PE X (.Constant .none j pos) (denE F (fC .non)) := de_C pe_non fun _ _ => .non
theorem de_str {i j pos} : PE X (.Constant (.str i) j pos) (denE F (fC (.str i))) := de_C pe_str fun _ _ => .str _
/-- an operation by values: what the rule of the layer asks, from the data -/
def OpD (F : Fm) (r : R2) (g : D → D → Store → R D) : Prop := ∀ (W : Wd) (H : Hp) (σ : St) (d e : D) (x y : V) (Q : VK), WOk W H → W.T = F.T → F.rep W H d x → F.rep W H e y → Post F F.rep W H σ (g d e W.S) Q → r x y H Q
theorem den_bin {r : R2} {g : D → D → Store → R D} (hr : OpD F r g) {σ : St} {H : Hp} {Q : VK} (h : denE F (fBin g f1 f2) σ H Q) : tOp r (denE F f1) (denE F f2) σ H Q := by
  obtain ⟨ρ, W, I, q⟩ := h
  refine ⟨ρ, W, I, q.bind fun c x H1 W1 g1 ok1 r1 q1 => ?_⟩
  have I1 := I.go g1 ok1
  refine ⟨ρ, W1, I1, q1.bind fun c2 y H2 W2 g2 ok2 r2 q2 => ?_⟩
  exact hr W2 H2 σ c c2 x y Q ok2 (I1.go g2 ok2).env.tk (rep_gr g2.s r1) r2 q2
theorem de_op {op : Operator} {r : R2} {g : D → D → Store → R D} (ho : OpR X (binaryOp op) r) (hr : OpD F r g) (ha : PE X a (denE F f1)) (hb : PE X b (denE F f2)) : PE X (.BinOp a op b pos) (denE F (fBin g f1 f2)) :=
  (pe_op ho ha hb).imp fun _ _ _ h => den_bin hr h
end
end Bx

namespace Bx
open PySem L2

abbrev LIM : Nat := 1000000
theorem lim_le {n : Nat} (h : n ≤ LIM) : n ≤ sizeLine := Nat.le_trans h (by decide)
theorem lim_lt {n : Nat} (h : n < LIM) : n < sizeLine := Nat.lt_of_lt_of_le h (by decide)

/-! ### new objects -/
section
variable {F : Fm} {W W' : Wd} {H H' : Hp} {σ : St} {ρ : Rho} {p : Addr} {o : HO} {α β : Type} {rel : Wd → Hp → α → β → Prop}
theorem hid_up {M : Addr → Option Nat} (e : Same H H') : Same (hid M H) (hid M H') := fun p o h => hid_some.mpr ⟨(hid_some.mp h).1, e _ _ (hid_some.mp h).2⟩
theorem ORep.same {l : Nat} {a : Addr} : ∀ {x : O}, ORep W H l a x → Same H H' → ORep W H' l a x
  | .src s cs i, ⟨h1, c, h2, h3, h4, h5⟩, e => ⟨h1, c, h2, h3, e _ _ h4, e _ _ h5⟩
  | .lst ds, ⟨h1, n, vs, h2, h3⟩, e => ⟨h1, n, vs, e _ _ h2, Reps.mono (fun _ _ q => q) (hid_up e) _ _ h3⟩
  | .obj c ns xs, ⟨h1, n, C, dx, vs, h2, h3, h4, h5⟩, e => ⟨h1, n, C, dx, vs, h2, e _ _ h3, h4, Reps.mono (fun _ _ q => q) (hid_up e) _ _ h5⟩
  | .dic kvs, ⟨h1, h0, xs, h2, h3, h4⟩, e => ⟨h1, h0, xs, e _ _ h2, fun x hx => ⟨(h3 x hx).1, Rep.mono (fun _ _ q => q) (hid_up e) _ _ (h3 x hx).2⟩, h4⟩
theorem WOk.same (ok : WOk W H) (e : Same H H') : WOk W H' := ⟨fun p h => by
  have := ok.dom p h
  cases q : H p with
  | none => exact absurd q this
  | some u => rw [e p u q]; simp, fun l x h => by
  obtain ⟨a, h1, h2⟩ := ok.obj l x h
  exact ⟨a, h1, h2.same e⟩, ok.bd, fun P q hT => by
  obtain ⟨a, ps, b, c, d⟩ := ok.tab P q hT
  exact ⟨a, ps, e _ _ b, c, fun pos cv hc => by
    obtain ⟨c', e1, e2, e3⟩ := d pos cv hc
    exact ⟨c', e1, e2, e _ _ e3⟩⟩⟩
theorem Gr.same (e : Same H H') : Gr W H W H' := ⟨fun _ _ => rfl, fun p o h _ => e p o h, fun p h => by
  cases q : H p with
  | none => exact absurd q h
  | some u => rw [e p u q]; simp, fun _ _ h => h, rfl⟩
theorem same_new (hp : H p = none) : Same H (upd H p o) := fun b u e => by rw [upd_ne (ne_of_none e hp)]; exact e
theorem WOk.clear (ok : WOk W H) (hp : H p = none) : W.M p = none := by
  cases q : W.M p with
  | none => rfl
  | some n => exact absurd hp (ok.dom p (by simp [q]))
theorem hid_new (ok : WOk W H) (hp : H p = none) : hid W.M (upd H p o) p = some o := hid_some.mpr ⟨ok.clear hp, upd_same⟩
/-- a new object: what follows it -/
theorem Post.new {a : α} {b : β} {Q : β → Hp → Prop} (ok : WOk W H) (hp : H p = none) (h : Post F rel W H σ (.ok a W.S) Q) (hr : rel W (upd H p o) a b) : Q b (upd H p o) :=
  h b _ W rfl (Gr.same (same_new hp)) (ok.same (same_new hp)) hr
theorem reps_new {ds : List D} {vs : List V} (hp : H p = none) (h : F.reps W H ds vs) : F.reps W (upd H p o) ds vs := reps_gr (Gr.same (same_new hp)).s h
theorem rep_new {ds : D} {vs : V} (hp : H p = none) (h : F.rep W H ds vs) : F.rep W (upd H p o) ds vs := rep_gr (Gr.same (same_new hp)).s h
theorem rep_tup {ds : List D} {vs : List V} (ok : WOk W H) (hp : H p = none) (h : F.reps W H ds vs) : F.rep W (upd H p (.tup vs)) (.tup ds) (.ref p) := .tup (hid_new ok hp) (reps_new hp h)
theorem rep_lst {ds : List D} {vs : List V} (ok : WOk W H) (hp : H p = none) (h : F.reps W H ds vs) : F.rep W (upd H p (.lst vs)) (.lst ds) (.ref p) := .lst (hid_new ok hp) (reps_new hp h)
end

/-! ### operators on data -/
def gAdd : D → D → Store → R D
  | .int i, .int j, S => .ok (.int (i + j)) S
  | .str i, .str j, S => if i.length + j.length ≤ LIM then .ok (.str (i ++ j)) S else .no
  | .lst a, .lst b, S => if a.length + b.length ≤ LIM then .ok (.lst (a ++ b)) S else .no
  | .tup a, .tup b, S => if a.length + b.length ≤ LIM then .ok (.tup (a ++ b)) S else .no
  | _, _, _ => .no
def gSub : D → D → Store → R D
  | .int i, .int j, S => .ok (.int (i - j)) S
  | _, _, _ => .no
def mulOk (i j : Int) : Bool := decide (-(2 ^ 64) < i ∧ i < 2 ^ 64) || decide (-(2 ^ 64) < j ∧ j < 2 ^ 64)
def gMul : D → D → Store → R D
  | .int i, .int j, S => if mulOk i j then .ok (.int (i * j)) S else .no
  | .lst a, .int k, S => if a.length * k.toNat ≤ LIM ∧ -1000000 ≤ k ∧ k ≤ 1000000 then .ok (.lst (List.replicate k.toNat a).flatten) S else .no
  | .tup a, .int k, S => if 2 ≤ k ∧ k ≤ 1000 ∧ a.length ≤ 1000 ∧ a ≠ [] then .ok (.tup (List.replicate k.toNat a).flatten) S else .no
  | _, _, _ => .no
def gFdiv : D → D → Store → R D
  | .int i, .int j, S => if 0 < j ∧ j < 2 ^ 256 then .ok (.int (i / j)) S else .no
  | _, _, _ => .no
def gMod : D → D → Store → R D
  | .int i, .int j, S => if 0 < j then .ok (.int (i % j)) S else .no
  | _, _, _ => .no
def gPow : D → D → Store → R D
  | .int i, .int j, S => if 0 ≤ j ∧ j ≤ 1000000 ∧ i.natAbs < 2 ^ 64 then .ok (.int (i ^ j.toNat)) S else .no
  | _, _, _ => .no
def gCmp (p : Int → Int → Bool) : D → D → Store → R D
  | .int i, .int j, S => .ok (.bl (p i j)) S
  | _, _, _ => .no
abbrev gLt := gCmp fun i j => decide (i < j)
abbrev gLe := gCmp fun i j => decide (i ≤ j)
abbrev gGt := gCmp fun i j => decide (j < i)
abbrev gGe := gCmp fun i j => decide (j ≤ i)
mutual
def toPy : D → Option PyData
  | .non => some .none
  | .bl b => some (.bool b)
  | .int i => some (.int i)
  | .str s => some (.str s)
  | .tup xs => (toPys xs).map .tuple
  | .lst xs => (toPys xs).map .list
  | _ => none
def toPys : List D → Option (List PyData)
  | [] => some []
  | d :: ds => match toPy d, toPys ds with
    | some x, some y => some (x :: y)
    | _, _ => none
end
def gEq (d e : D) (S : Store) : R D := match toPy d, toPy e with
  | some x, some y => if SeqAt.shaped x && SeqAt.shaped y then .ok (.bl (PyData.eqv x y)) S else .no
  | _, _ => .no
def gNe (d e : D) (S : Store) : R D := match toPy d, toPy e with
  | some x, some y => if SeqAt.shaped x && SeqAt.shaped y then .ok (.bl (!PyData.eqv x y)) S else .no
  | _, _ => .no
def isNon : D → Bool
  | .non => true
  | _ => false
def gIsN : D → D → Store → R D
  | d, .non, S => .ok (.bl (isNon d)) S
  | _, _, _ => .no
def gNotN : D → D → Store → R D
  | d, .non, S => .ok (.bl (!isNon d)) S
  | _, _, _ => .no
def flatV? : D → Option V
  | .non => some .non
  | .bl b => some (.bl b)
  | .int i => some (.int i)
  | .str s => some (.str s)
  | _ => none
def flats? : List D → Option (List V)
  | [] => some []
  | d :: ds => match flatV? d, flats? ds with
    | some x, some y => some (x :: y)
    | _, _ => none
def gIn (neg : Bool) : D → D → Store → R D := fun d e S => match e with
  | .lst xs | .tup xs => match flatV? d, flats? xs with
    | some x, some ys => .ok (.bl (if neg then !inV x ys else inV x ys)) S
    | _, _ => .no
  | .str z => match d with
    | .str y => (match y.cps.toList with
      | [c] => .ok (.bl (if neg then !decide (c ∈ z.cps.toList) else decide (c ∈ z.cps.toList))) S
      | _ => .no)
    | _ => .no
  | _ => .no

section
variable {F : Fm}
theorem opd_add : OpD F (fun x y H Q => (rI0 fun i j => .int (i + j)) x y H Q ∨ (fun x y H Q => ∃ i j, x = .str i ∧ y = .str j ∧ i.length + j.length ≤ sizeLine ∧ Q (.str (i ++ j)) H) x y H Q ∨ rCat x y H Q ∨ rCatA F.K x y H Q) gAdd := by
  intro W H σ d e x y Q ok hT rx ry h
  unfold gAdd at h
  split at h
  · cases rx; cases ry
    exact .inl ⟨_, _, rfl, rfl, h.val ok (.int _)⟩
  · split at h
    · rename_i hz
      cases rx; cases ry
      exact .inr (.inl ⟨_, _, rfl, rfl, lim_le hz, h.val ok (.str _)⟩)
    · exact h.elim
  · split at h
    · rename_i hz
      cases rx with
      | lst a1 b1 =>
        cases ry with
        | lst a2 b2 =>
          rw [b1.len, b2.len] at hz
          exact .inr (.inr (.inl ⟨_, _, _, _, rfl, rfl, hid_le _ _ a1, hid_le _ _ a2, lim_le hz, fun p hp => h.new ok hp (rep_lst ok hp (b1.append b2))⟩))
    · exact h.elim
  · split at h
    · rename_i hz
      cases rx with
      | tup a1 b1 =>
        cases ry with
        | tup a2 b2 =>
          rw [b1.len, b2.len] at hz
          refine .inr (.inr (.inr ⟨_, _, _, _, rfl, rfl, SqT.of (hid_le _ _ a1), SqT.of (hid_le _ _ a2), lim_le hz, fun e1 => ?_, fun _ e2 => ?_, fun _ _ p hp => h.new ok hp (rep_tup ok hp (b1.append b2))⟩))
          · subst e1; cases b1
            exact h.val ok (.tup a2 b2)
          · subst e2; cases b2
            rw [List.append_nil] at h
            exact h.val ok (.tup a1 b1)
    · exact h.elim
  · exact h.elim
theorem opd_sub : OpD F (rI0 fun i j => .int (i - j)) gSub := by
  intro W H σ d e x y Q ok hT rx ry h
  unfold gSub at h
  split at h
  · cases rx; cases ry
    exact ⟨_, _, rfl, rfl, h.val ok (.int _)⟩
  · exact h.elim
theorem Reps.rep {K : PySem.W.Frag} {mg : Str → Option Value} {μ : Nat → Option Addr} {H : Hp} {ds : List D} {vs : List V} (h : Reps K mg μ H ds vs) : ∀ n : Nat, Reps K mg μ H (List.replicate n ds).flatten (List.replicate n vs).flatten
  | 0 => .nil
  | n + 1 => by
    rw [List.replicate_succ, List.replicate_succ, List.flatten_cons, List.flatten_cons]
    exact h.append (Reps.rep h n)
theorem opd_mul : OpD F (fun x y H Q => (rI CMul fun i j => .int (i * j)) x y H Q ∨ rRep x y H Q ∨ rRepT F.K x y H Q) gMul := by
  intro W H σ d e x y Q ok hT rx ry h
  unfold gMul at h
  split at h
  · split at h
    · rename_i hm
      cases rx; cases ry
      refine .inl ⟨_, _, rfl, rfl, ?_, h.val ok (.int _)⟩
      unfold mulOk at hm
      simpa [CMul] using hm
    · exact h.elim
  · split at h
    · rename_i hz
      obtain ⟨h1, h2, h3⟩ := hz
      cases ry
      cases rx with
      | lst a b =>
        rw [b.len] at h1
        refine .inr (.inl ⟨_, _, _, rfl, rfl, hid_le _ _ a, by omega, by omega, lim_le h1, fun p hp => h.new ok hp (rep_lst ok hp (b.rep _))⟩)
    · exact h.elim
  · split at h
    · rename_i hz
      obtain ⟨h1, h2, h3, h4⟩ := hz
      cases ry
      cases rx with
      | tup a b =>
        rw [b.len] at h3
        refine .inr (.inr ⟨_, _, _, rfl, rfl, SqT.of (hid_le _ _ a), ?_, h1, h2, h3, fun p hp => h.new ok hp (rep_tup ok hp (b.rep _))⟩)
        rintro rfl
        cases b
        exact h4 rfl
    · exact h.elim
  · exact h.elim
theorem opd_fdiv : OpD F (rI CDivW fun i j => .int (i / j)) gFdiv := by
  intro W H σ d e x y Q ok hT rx ry h
  unfold gFdiv at h
  split at h
  · split at h
    · rename_i hz
      cases rx; cases ry
      exact ⟨_, _, rfl, rfl, wide_div (b := 256) hz.1 (by omega) (by decide) (by decide), h.val ok (.int _)⟩
    · exact h.elim
  · exact h.elim
theorem opd_mod : OpD F (rI (fun _ j => 0 < j) fun i j => .int (i % j)) gMod := by
  intro W H σ d e x y Q ok hT rx ry h
  unfold gMod at h
  split at h
  · split at h
    · rename_i hz
      cases rx; cases ry
      exact ⟨_, _, rfl, rfl, hz, h.val ok (.int _)⟩
    · exact h.elim
  · exact h.elim
theorem opd_pow : OpD F (rI CPow fun i j => .int (i ^ j.toNat)) gPow := by
  intro W H σ d e x y Q ok hT rx ry h
  unfold gPow at h
  split at h
  · split at h
    · rename_i hz
      cases rx; cases ry
      exact ⟨_, _, rfl, rfl, hz, h.val ok (.int _)⟩
    · exact h.elim
  · exact h.elim
theorem opd_cmp {p : Int → Int → Bool} : OpD F (rI0 fun i j => .bl (p i j)) (gCmp p) := by
  intro W H σ d e x y Q ok hT rx ry h
  unfold gCmp at h
  split at h
  · cases rx; cases ry
    exact ⟨_, _, rfl, rfl, h.val ok (.bl _)⟩
  · exact h.elim
mutual
theorem rep_dp {K : PySem.W.Frag} {mg : Str → Option Value} {μ : Nat → Option Addr} {M : Addr → Option Nat} {H : Hp} : ∀ (d : D) (v : V) (x : PyData), toPy d = some x → Rep K mg μ (hid M H) d v → Dp K H v x
  | .non, v, x, e, h => by
    cases h
    obtain rfl := Option.some.inj e
    exact .non
  | .bl b, v, x, e, h => by
    cases h
    obtain rfl := Option.some.inj e
    exact .bl _
  | .int b, v, x, e, h => by
    cases h
    obtain rfl := Option.some.inj e
    exact .int _
  | .str b, v, x, e, h => by
    cases h
    obtain rfl := Option.some.inj e
    exact .str _
  | .tup ds, v, x, e, h => by
    cases h with
    | tup h1 h2 =>
      obtain ⟨y, e1, e2⟩ := Option.map_eq_some_iff.mp (show (toPys ds).map PyData.tuple = some x from e)
      subst e2
      exact .tup (SqT.of (hid_le _ _ h1)) (reps_dp ds _ y e1 h2)
  | .lst ds, v, x, e, h => by
    cases h with
    | lst h1 h2 =>
      obtain ⟨y, e1, e2⟩ := Option.map_eq_some_iff.mp (show (toPys ds).map PyData.list = some x from e)
      subst e2
      exact .lst (SqL.of (hid_le _ _ h1)) (reps_dp ds _ y e1 h2)
  | .ins _ _ _, v, x, e, h => by cases e
  | .ref _, v, x, e, h => by cases e
  | .fn _, v, x, e, h => by cases e
  | .scr _, v, x, e, h => by cases e
  | .dct _ _, v, x, e, h => by cases e
theorem reps_dp {K : PySem.W.Frag} {mg : Str → Option Value} {μ : Nat → Option Addr} {M : Addr → Option Nat} {H : Hp} : ∀ (d : List D) (v : List V) (x : List PyData), toPys d = some x → Reps K mg μ (hid M H) d v → DpAll K H v x
  | [], v, x, e, h => by
    cases h
    obtain rfl := Option.some.inj e
    exact .nil
  | d :: ds, v, x, e, h => by
    cases h with
    | cons h1 h2 =>
      unfold toPys at e
      split at e
      · rename_i a b ea eb
        obtain rfl := Option.some.inj e
        exact .cons (rep_dp d _ _ ea h1) (reps_dp ds _ _ eb h2)
      · cases e
end
theorem opd_eq : OpD F (rEqD F.K) gEq := by
  intro W H σ d e x y Q ok hT rx ry h
  unfold gEq at h
  split at h
  · rename_i a b ea eb
    split at h
    · rename_i hs
      rw [Bool.and_eq_true] at hs
      exact ⟨a, b, rep_dp _ _ _ ea rx, rep_dp _ _ _ eb ry, hs.1, hs.2, h.val ok (.bl _)⟩
    · exact h.elim
  · exact h.elim
theorem opd_ne : OpD F (rNeD F.K) gNe := by
  intro W H σ d e x y Q ok hT rx ry h
  unfold gNe at h
  split at h
  · rename_i a b ea eb
    split at h
    · rename_i hs
      rw [Bool.and_eq_true] at hs
      exact ⟨a, b, rep_dp _ _ _ ea rx, rep_dp _ _ _ eb ry, hs.1, hs.2, h.val ok (.bl _)⟩
    · exact h.elim
  · exact h.elim
theorem rep_non {W : Wd} {H : Hp} {d : D} {v : V} (h : F.rep W H d v) : isNon d = decide (v = .non) := by
  cases h <;> simp [isNon]
theorem opd_isN : OpD F (fun x y H Q => y = .non ∧ Q (.bl (decide (x = .non))) H) gIsN := by
  intro W H σ d e x y Q ok hT rx ry h
  unfold gIsN at h
  split at h
  · cases ry
    rw [rep_non rx] at h
    exact ⟨rfl, h.val ok (.bl _)⟩
  · exact h.elim
theorem opd_notN : OpD F (fun x y H Q => y = .non ∧ Q (.bl (!decide (x = .non))) H) gNotN := by
  intro W H σ d e x y Q ok hT rx ry h
  unfold gNotN at h
  split at h
  · cases ry
    rw [rep_non rx] at h
    exact ⟨rfl, h.val ok (.bl _)⟩
  · exact h.elim
theorem flat_rep {W : Wd} {H : Hp} {d : D} {v x : V} (h : F.rep W H d v) (e : flatV? d = some x) : v = x ∧ flatV x = true := by
  cases h <;> simp_all [flatV?] <;> subst e <;> rfl
theorem flats_rep {W : Wd} {H : Hp} : ∀ {ds : List D} {vs xs : List V}, F.reps W H ds vs → flats? ds = some xs → vs = xs ∧ xs.all flatV = true
  | [], _, xs, h, e => by
    cases h
    obtain rfl := Option.some.inj e
    exact ⟨rfl, rfl⟩
  | d :: ds, _, xs, h, e => by
    cases h with
    | cons h1 h2 =>
      unfold flats? at e
      split at e
      · rename_i a b ea eb
        obtain rfl := Option.some.inj e
        obtain ⟨e1, f1⟩ := flat_rep h1 ea
        obtain ⟨e2, f2⟩ := flats_rep h2 eb
        subst e1 e2
        exact ⟨rfl, by simp [f1, f2]⟩
      · cases e
end
end Bx

namespace Bx
open PySem L2

/-! ### masks -/
def mask (p : Addr) (W : Wd) : Wd := { W with M := fun q => if q = p then some 0 else W.M q }
def unmask (p : Addr) (W : Wd) : Wd := { W with M := fun q => if q = p then none else W.M q }
section
variable {F : Fm} {W W' : Wd} {H H' : Hp} {σ : St} {ρ : Rho} {p : Addr} {o : HO} {α β : Type} {rel : Wd → Hp → α → β → Prop}
theorem mask_self : (mask p W).M p = some 0 := by simp [mask]
theorem mask_ne {q : Addr} (h : q ≠ p) : (mask p W).M q = W.M q := by simp [mask, h]
theorem unmask_self : (unmask p W).M p = none := by simp [unmask]
theorem unmask_ne {q : Addr} (h : q ≠ p) : (unmask p W).M q = W.M q := by simp [unmask, h]
theorem ORep.world {l : Nat} {a : Addr} : ∀ {x : O}, ORep W H l a x → (∀ m b, W.μ m = some b → W'.μ m = some b) → SameN (hid W.M H) (hid W'.M H') → W'.T = W.T → (∀ q, W.M q = some (l + 2) → W'.M q = some (l + 2) ∧ H' q = H q) → ORep W' H' l a x
  | .src s cs i, ⟨h1, c, h2, h3, h4, h5⟩, _, _, _, e => ⟨(e a h1).1, c, (e c h2).1, h3, (e a h1).2.trans h4, (e c h2).2.trans h5⟩
  | .lst ds, ⟨h1, n, vs, h2, h3⟩, hm, hs, ht, e => ⟨(e a h1).1, n, vs, (e a h1).2.trans h2, by rw [ht]; exact Reps.monoN hm hs _ _ n h3⟩
  | .obj c ns xs, ⟨h1, n, C, dx, vs, h2, h3, h4, h5⟩, hm, hs, ht, e => ⟨(e a h1).1, n, C, dx, vs, by rw [ht]; exact h2, (e a h1).2.trans h3, h4, by rw [ht]; exact Reps.monoN hm hs _ _ n h5⟩
  | .dic kvs, ⟨h1, h0, xs, h2, h3, h4⟩, hm, hs, ht, e => ⟨(e a h1).1, h0, xs, by rw [ht]; exact (e a h1).2.trans h2, fun x hx => ⟨(h3 x hx).1, by rw [ht]; exact Rep.monoN hm hs _ _ (noL_nk _) (h3 x hx).2⟩, h4⟩
theorem mask_same (hp : H p = none) : Same (hid W.M H) (hid (mask p W).M (upd H p o)) := fun q u h => by
  obtain ⟨h1, h2⟩ := hid_some.mp h
  have ne : q ≠ p := fun e => by rw [e, hp] at h2; cases h2
  exact hid_some.mpr ⟨(mask_ne ne).trans h1, (upd_ne ne).trans h2⟩
theorem hid_own (hp : W.M p ≠ none) : hid W.M (upd H p o) = hid W.M H := by
  funext a
  unfold hid
  split
  · rename_i h
    exact upd_ne fun e => hp (e ▸ h)
  · rfl
theorem unmask_same (hp : W.M p = some 0) : Same (hid W.M H) (hid (unmask p W).M H) := fun a u h => by
  obtain ⟨h1, h2⟩ := hid_some.mp h
  refine hid_some.mpr ⟨?_, h2⟩
  by_cases e : a = p
  · subst e; exact unmask_self
  · exact (unmask_ne e).trans h1
theorem mask_new (ok : WOk W H) (hp : H p = none) : WOk (mask p W) (upd H p o) ∧ Gr W H (mask p W) (upd H p o) := by
  have nd : ∀ q, H q ≠ none → q ≠ p := fun q h e => h (e ▸ hp)
  refine ⟨⟨fun q h => ?_, fun l x h => ?_, ok.bd, fun P q hT => (ok.tab P q hT).world (fun p h1 => ?_) (fun p q h1 h2 => ⟨fun l => by rw [mask_ne (nd p (by rw [h2]; simp))]; exact h1 l, upd_ne (nd p (by rw [h2]; simp))⟩)⟩, ⟨fun q h => mask_ne (nd q h), fun q u h _ => by rw [upd_ne (nd q (by simp [h]))]; exact h, fun q h => by rw [upd_ne (nd q h)]; exact h, fun _ _ h => h, rfl⟩⟩
  · by_cases e : q = p
    · subst e; rw [upd_same]; simp
    · rw [upd_ne e]
      rw [mask_ne e] at h
      exact ok.dom q h
  · obtain ⟨a, h1, h2⟩ := ok.obj l x h
    refine ⟨a, h1, h2.world (W' := mask p W) (fun _ _ q => q) (mask_same hp).n (by rfl) fun q hq => ?_⟩
    have hne : q ≠ p := nd q (ok.dom q (by simp [hq]))
    exact ⟨(mask_ne hne).trans hq, upd_ne hne⟩
  · have hne : p ≠ _ := nd p (ok.dom p (by simp [h1]))
    exact ⟨(mask_ne hne).trans h1, upd_ne hne⟩
theorem lst_code {H : Hp} {p : Addr} {xs : List V} (h : H p = some (.lst xs)) : ∀ c q, H p ≠ some (LamX.CodeO c q) := fun c q z => by rw [h] at z; cases z
theorem ins_code {H : Hp} {p C dx : Addr} {fs : List (Str × V)} (h : H p = some (.ins C dx fs)) : ∀ c q, H p ≠ some (LamX.CodeO c q) := fun c q z => by rw [h] at z; cases z
/-- a hidden object (a frame's own) changes -/
theorem WOk.own (ok : WOk W H) (hp : W.M p = some 0) (hx : ∀ c q, H p ≠ some (LamX.CodeO c q)) : WOk W (upd H p o) := by
  refine ⟨fun q h => ?_, fun l x h => ?_, ok.bd, fun P q hT => (ok.tab P q hT).world (fun a h1 => ⟨h1, upd_ne fun e => by rw [e, hp] at h1; simp at h1⟩) (fun a q h1 h2 => ⟨h1, upd_ne fun e => hx a q (by rw [← e]; exact h2)⟩)⟩
  · by_cases e : q = p
    · subst e; rw [upd_same]; simp
    · rw [upd_ne e]; exact ok.dom q h
  · obtain ⟨a, h1, h2⟩ := ok.obj l x h
    refine ⟨a, h1, h2.world (fun _ _ q => q) (by rw [hid_own (by rw [hp]; simp)]; exact (Same.refl _).n) rfl fun q hq => ⟨hq, upd_ne fun e => ?_⟩⟩
    rw [e, hp] at hq; simp at hq
/-- a hidden object is let be seen -/
theorem unmask_ok (ok : WOk W H) (hp : W.M p = some 0) : WOk (unmask p W) H := by
  refine ⟨fun q h => ?_, fun l x h => ?_, ok.bd, fun P q hT => (ok.tab P q hT).world (fun a h1 => ⟨(unmask_ne fun e => by rw [e, hp] at h1; simp at h1).trans h1, rfl⟩) (fun a q h1 h2 => ⟨fun l => by
    by_cases e : a = p
    · rw [e, unmask_self]; simp
    · rw [unmask_ne e]; exact h1 l, rfl⟩)⟩
  · by_cases e : q = p
    · subst e; exact absurd unmask_self h
    · rw [unmask_ne e] at h; exact ok.dom q h
  · obtain ⟨a, h1, h2⟩ := ok.obj l x h
    refine ⟨a, h1, h2.world (W' := unmask p W) (fun _ _ q => q) (unmask_same hp).n (by rfl) fun q hq => ⟨(unmask_ne fun e => ?_).trans hq, rfl⟩⟩
    rw [e, hp] at hq; simp at hq
theorem unmask_gr (hp : W'.M p = some 0) (hn : H p = none) (g : Gr W H W' H') : Gr W H (unmask p W') H' :=
  ⟨fun q h => (unmask_ne fun e => h (by rw [e]; exact hn)).trans (g.ms q h), g.ex, g.ds, g.mu, g.tt⟩
theorem unmask_grS (hp : W.M p = some 0) : GrS W H (unmask p W) H := ⟨fun q u n h => ⟨by
  by_cases e : q = p
  · subst e; exact unmask_self
  · exact (unmask_ne e).trans n, h⟩, fun _ _ h => h, rfl⟩
end

/-! ### an expression's value for a slot: seen by all, or a new list -/
def relX (F : Fm) (H0 : Hp) (W' : Wd) (H' : Hp) : Sl → V → Prop
  | .fz d, v => F.rep W' H' d v
  | .ow ds, v => ∃ p vs, v = .ref p ∧ H0 p = none ∧ W'.M p = some 0 ∧ H' p = some (.lst vs) ∧ F.reps W' H' ds vs
  | _, _ => False
/-- the reading whose relation knows the heap ahead -/
def denX (F : Fm) (f : Fn Sl) : TE := fun σ H Q => ∃ ρ W, IF F W H σ ρ ∧ Post F (relX F H) W H σ (f ρ W.S) Q
@[simp] def fMk (f : Fn D) : Fn Sl := fun ρ S => (f ρ S).bind fun d S1 => .ok (.fz d) S1
@[simp] def fOw (f : Fn (List D)) : Fn Sl := fun ρ S => (f ρ S).bind fun d S1 => .ok (.ow d) S1
def frz : Sl → Store → R D
  | .fz d, S => .ok d S
  | .ow ds, S => .ok (.lst ds) S
  | _, _ => .no
@[simp] def fFz (f : Fn Sl) : Fn D := fun ρ S => (f ρ S).bind frz
section
variable {X : Cx} {F : Fm} {a b c e : Expr} {es : List Expr} {f f1 f2 f3 : Fn D} {fs : Fn (List D)} {fx : Fn Sl} {pos : Pos}
theorem dx_E {e : Expr} (h : PE X e (denE F f)) : PE X e (denX F (fMk f)) := h.imp fun σ H Q ⟨ρ, W, I, q⟩ => ⟨ρ, W, I, q.bind fun d v H1 W1 g ok r q1 => q1.val ok r⟩
theorem de_X {e : Expr} (h : PE X e (denX F fx)) : PE X e (denE F (fFz fx)) := h.imp fun σ H Q ⟨ρ, W, I, q⟩ => ⟨ρ, W, I, by
  have q : Post F F.rep W H σ ((fx ρ W.S).bind frz) Q := q
  revert q
  cases fx ρ W.S with
  | ok sl S =>
    intro q v H1 W1 e g ok r
    cases sl with
    | fz d => exact q v H1 W1 e g ok r
    | ow ds =>
      obtain ⟨p, vs, rfl, hn, hm, hp, hr⟩ := r
      exact q (.ref p) H1 (unmask p W1) e (unmask_gr hm hn g) (unmask_ok ok hm) (.lst (hid_some.mpr ⟨unmask_self, hp⟩) (Reps.mono (fun _ _ h => h) (unmask_same hm) _ _ hr))
    | un => exact r.elim
    | nw _ _ _ => exact r.elim
    | ex _ => exact r.elim
  | er x S => exact fun q => q
  | no => exact fun q => q⟩

/-! ### arguments -/
@[simp] def fNil : Fn (List D) := fun _ S => .ok [] S
@[simp] def fCons (f : Fn D) (fs : Fn (List D)) : Fn (List D) := fun ρ S => (f ρ S).bind fun d S1 => (fs ρ S1).bind fun ds S2 => .ok (d :: ds) S2
theorem da_nil : PA X [] (denA F fNil) := pa_nil.imp fun σ H Q ⟨ρ, W, I, q⟩ => q.val I.ok .nil
theorem da_cons (ha : PE X e (denE F f)) (hr : PA X es (denA F fs)) (hs : starEach (e :: es) X.env = (false, eval e X.env) :: starEach es X.env := by rfl) : PA X (e :: es) (denA F (fCons f fs)) :=
  (pa_cons ha hr hs).imp fun σ H Q ⟨ρ, W, I, q⟩ => ⟨ρ, W, I, q.bind fun d v H1 W1 g ok r q1 => ⟨ρ, W1, I.go g ok, q1.bind fun ds vs H2 W2 g2 ok2 r2 q2 => q2.val ok2 (.cons (rep_gr g2.s r) r2)⟩⟩
@[simp] def fTup (fs : Fn (List D)) : Fn D := fun ρ S => (fs ρ S).bind fun ds S1 => if ds.length ≤ LIM then .ok (.tup ds) S1 else .no
@[simp] def fLst (fs : Fn (List D)) : Fn Sl := fun ρ S => (fs ρ S).bind fun ds S1 => if ds.length ≤ LIM then .ok (.ow ds) S1 else .no
theorem de_tup {k} (h : PA X es (denA F fs)) : PE X (.Tuple es k pos) (denE F (fTup fs)) := (pe_tup h).imp fun σ H Q ⟨ρ, W, I, q⟩ => ⟨ρ, W, I, q.bind fun ds vs H1 W1 g ok r q1 => by
  split at q1
  · rename_i hz
    rw [r.len] at hz
    exact ⟨lim_le hz, fun p hp => q1.new ok hp (rep_tup ok hp r)⟩
  · exact q1.elim⟩
/-- a new list: what follows it -/
theorem Post.newX {W0 W : Wd} {H0 H : Hp} {σ : St} {Q : VK} {ds : List D} {vs : List V} {p : Addr} (g : Gr W0 H0 W H) (ok : WOk W H) (hp : H p = none) (h : Post F (relX F H0) W H σ (.ok (.ow ds) W.S) Q) (hr : F.reps W H ds vs) : Q (.ref p) (upd H p (.lst vs)) := by
  obtain ⟨ok', g'⟩ := mask_new (o := .lst vs) ok hp
  refine h _ _ (mask p W) rfl g' ok' ⟨p, vs, rfl, ?_, mask_self, upd_same, reps_gr g'.s hr⟩
  cases e : H0 p with
  | none => rfl
  | some u => exact absurd hp (g.ds p (by simp [e]))
theorem dx_lst (h : PA X es (denA F fs)) : PE X (.List es pos) (denX F (fLst fs)) := (pe_lst h).imp fun σ H Q ⟨ρ, W, I, q⟩ => ⟨ρ, W, I, q.bind fun ds vs H1 W1 g ok r q1 => by
  split at q1
  · rename_i hz
    rw [r.len] at hz
    exact ⟨lim_le hz, fun p hp => Post.newX g ok hp q1 r⟩
  · exact q1.elim⟩
/-- [..] * n, a list for a slot -/
@[simp] def fRepL (f1 f2 : Fn D) : Fn Sl := fun ρ S => (fBin gMul f1 f2 ρ S).bind fun d S1 => match d with
  | .lst ds => .ok (.ow ds) S1
  | _ => .no

/-! ### operators -/
theorem de_add (ha : PE X a (denE F f1)) (hb : PE X b (denE F f2)) (hK : F.K = X.K := by rfl) : PE X (.BinOp a .Add b pos) (denE F (fBin gAdd f1 f2)) := de_op (op_add.or (op_add_str.or (op_cat.or op_catA))) (by have := @opd_add F; rw [hK] at this; exact this) ha hb
theorem de_sub (ha : PE X a (denE F f1)) (hb : PE X b (denE F f2)) : PE X (.BinOp a .Sub b pos) (denE F (fBin gSub f1 f2)) := de_op op_sub opd_sub ha hb
theorem de_mul (ha : PE X a (denE F f1)) (hb : PE X b (denE F f2)) (hK : F.K = X.K := by rfl) : PE X (.BinOp a .Mult b pos) (denE F (fBin gMul f1 f2)) := de_op (op_mul.or (op_rep.or op_repT)) (by have := @opd_mul F; rw [hK] at this; exact this) ha hb
theorem de_fdiv (ha : PE X a (denE F f1)) (hb : PE X b (denE F f2)) : PE X (.BinOp a .FloorDiv b pos) (denE F (fBin gFdiv f1 f2)) := de_op op_fdivW opd_fdiv ha hb
theorem de_mod (ha : PE X a (denE F f1)) (hb : PE X b (denE F f2)) : PE X (.BinOp a .Mod b pos) (denE F (fBin gMod f1 f2)) := de_op op_mod opd_mod ha hb
theorem de_pow (ha : PE X a (denE F f1)) (hb : PE X b (denE F f2)) : PE X (.BinOp a .Pow b pos) (denE F (fBin gPow f1 f2)) := de_op op_pow opd_pow ha hb
def gNeg : D → Store → R D
  | .int i, S => .ok (.int (-i)) S
  | _, _ => .no
theorem de_neg (ha : PE X a (denE F f)) : PE X (.UnaryOp .USub a pos) (denE F (fUn gNeg f)) := (pe_un un_neg ha).imp fun σ H Q ⟨ρ, W, I, q⟩ => ⟨ρ, W, I, q.bind fun d v H1 W1 g ok r q1 => by
  unfold gNeg at q1
  split at q1
  · cases r
    exact ⟨_, rfl, q1.val ok (.int _)⟩
  · exact q1.elim⟩
theorem de_cmp {op : CmpOp} {r : R2} {g : D → D → Store → R D} (ho : OpR X (compareOp op) r) (hr : OpD F r g) (ha : PE X a (denE F f1)) (hb : PE X b (denE F f2)) (hm : behindInMarks op b = false) : PE X (.Compare a [op] [b] pos) (denE F (fBin g f1 f2)) :=
  (pe_cmpR ho ha hb hm).imp fun _ _ _ h => den_bin hr h
theorem de_lt (ha : PE X a (denE F f1)) (hb : PE X b (denE F f2)) : PE X (.Compare a [.Lt] [b] pos) (denE F (fBin gLt f1 f2)) := de_cmp op_lt opd_cmp ha hb (nomark _)
theorem de_le (ha : PE X a (denE F f1)) (hb : PE X b (denE F f2)) : PE X (.Compare a [.LtE] [b] pos) (denE F (fBin gLe f1 f2)) := de_cmp op_le opd_cmp ha hb (nomark _)
theorem de_gt (ha : PE X a (denE F f1)) (hb : PE X b (denE F f2)) : PE X (.Compare a [.Gt] [b] pos) (denE F (fBin gGt f1 f2)) := de_cmp op_gt opd_cmp ha hb (nomark _)
theorem de_ge (ha : PE X a (denE F f1)) (hb : PE X b (denE F f2)) : PE X (.Compare a [.GtE] [b] pos) (denE F (fBin gGe f1 f2)) := de_cmp op_ge opd_cmp ha hb (nomark _)
theorem de_eq (hu : X.A.units + 64 < cLine) (ha : PE X a (denE F f1)) (hb : PE X b (denE F f2)) (hK : F.K = X.K := by rfl) : PE X (.Compare a [.Eq] [b] pos) (denE F (fBin gEq f1 f2)) := de_cmp (op_eqD hu) (by rw [← hK]; exact opd_eq) ha hb (nomark _)
theorem de_ne (hu : X.A.units + 64 < cLine) (ha : PE X a (denE F f1)) (hb : PE X b (denE F f2)) (hK : F.K = X.K := by rfl) : PE X (.Compare a [.NotEq] [b] pos) (denE F (fBin gNe f1 f2)) := de_cmp (op_neD hu) (by rw [← hK]; exact opd_ne) ha hb (nomark _)
theorem de_isN (ha : PE X a (denE F f1)) (hb : PE X b (denE F f2)) : PE X (.Compare a [.Is] [b] pos) (denE F (fBin gIsN f1 f2)) := de_cmp op_isN opd_isN ha hb (nomark _)
theorem de_notN (ha : PE X a (denE F f1)) (hb : PE X b (denE F f2)) : PE X (.Compare a [.IsNot] [b] pos) (denE F (fBin gNotN f1 f2)) := de_cmp op_notN opd_notN ha hb (nomark _)
theorem str_one {y : Str} {c : Nat} (h : y.cps.toList = [c]) : y = ⟨#[c]⟩ := by
  obtain ⟨a⟩ := y
  congr 1
  apply Array.toList_inj.mp
  exact h
theorem opd_in : OpD F (fun x y H Q => rIn F.K false x y H Q ∨ rInS x y H Q) (gIn false) := by
  intro W H σ d e x y Q ok hT rx ry h
  unfold gIn at h
  split at h
  · split at h
    · rename_i ea eb
      cases ry with
      | lst a b =>
        obtain ⟨e1, f1⟩ := flat_rep rx ea
        obtain ⟨e2, f2⟩ := flats_rep b eb
        subst e1 e2
        exact .inl ⟨_, _, rfl, .inl (SqL.of (hid_le _ _ a)), f1, f2, h.val ok (.bl _)⟩
    · exact h.elim
  · split at h
    · rename_i ea eb
      cases ry with
      | tup a b =>
        obtain ⟨e1, f1⟩ := flat_rep rx ea
        obtain ⟨e2, f2⟩ := flats_rep b eb
        subst e1 e2
        exact .inl ⟨_, _, rfl, .inr (SqT.of (hid_le _ _ a)), f1, f2, h.val ok (.bl _)⟩
    · exact h.elim
  · split at h
    · split at h
      · rename_i y _ c hc
        cases rx; cases ry
        obtain rfl : y = ⟨#[c]⟩ := str_one hc
        exact .inr ⟨_, _, rfl, rfl, h.val ok (.bl _)⟩
      · exact h.elim
    · exact h.elim
  · exact h.elim
theorem opd_notIn : OpD F (fun x y H Q => rIn F.K true x y H Q ∨ rNotInS x y H Q) (gIn true) := by
  intro W H σ d e x y Q ok hT rx ry h
  unfold gIn at h
  split at h
  · split at h
    · rename_i ea eb
      cases ry with
      | lst a b =>
        obtain ⟨e1, f1⟩ := flat_rep rx ea
        obtain ⟨e2, f2⟩ := flats_rep b eb
        subst e1 e2
        exact .inl ⟨_, _, rfl, .inl (SqL.of (hid_le _ _ a)), f1, f2, h.val ok (.bl _)⟩
    · exact h.elim
  · split at h
    · rename_i ea eb
      cases ry with
      | tup a b =>
        obtain ⟨e1, f1⟩ := flat_rep rx ea
        obtain ⟨e2, f2⟩ := flats_rep b eb
        subst e1 e2
        exact .inl ⟨_, _, rfl, .inr (SqT.of (hid_le _ _ a)), f1, f2, h.val ok (.bl _)⟩
    · exact h.elim
  · split at h
    · split at h
      · rename_i y _ c hc
        cases rx; cases ry
        obtain rfl : y = ⟨#[c]⟩ := str_one hc
        exact .inr ⟨_, _, rfl, rfl, h.val ok (.bl _)⟩
      · exact h.elim
    · exact h.elim
  · exact h.elim
theorem de_in (ha : PE X a (denE F f1)) (hb : PE X b (denE F f2)) (hm : behindInMarks .In b = false := by rfl) (hK : F.K = X.K := by rfl) : PE X (.Compare a [.In] [b] pos) (denE F (fBin (gIn false) f1 f2)) := de_cmp (op_in_seq.or op_inS) (by rw [← hK]; exact opd_in) ha hb hm
theorem de_notIn (ha : PE X a (denE F f1)) (hb : PE X b (denE F f2)) (hm : behindInMarks .NotIn b = false := by rfl) (hK : F.K = X.K := by rfl) : PE X (.Compare a [.NotIn] [b] pos) (denE F (fBin (gIn true) f1 f2)) := de_cmp (op_notIn_seq.or op_notInS) (by rw [← hK]; exact opd_notIn) ha hb hm
@[simp] def fChain (g1 g2 : D → D → Store → R D) (f1 f2 f3 : Fn D) : Fn D := fun ρ S => (f1 ρ S).bind fun a S1 => (f2 ρ S1).bind fun b S2 => (g1 a b S2).bind fun z S3 => match z with
  | .bl true => (f3 ρ S3).bind fun c S4 => g2 b c S4
  | .bl false => .ok (.bl false) S3
  | _ => .no
theorem den_chain {r r' : R2} {g1 g2 : D → D → Store → R D} (hr : OpD F r g1) (hr' : OpD F r' g2) : ∀ σ H Q, denE F (fChain g1 g2 f1 f2 f3) σ H Q → tChain r r' (denE F f1) (denE F f2) (denE F f3) σ H Q := fun σ H Q ⟨ρ, W, I, q⟩ =>
  ⟨ρ, W, I, q.bind fun d x H1 W1 g ok r1 q1 => ⟨ρ, W1, I.go g ok, q1.bind fun e y H2 W2 g2 ok2 r2 q2 => by
    have I2 := (I.go g ok).go g2 ok2
    refine hr W2 H2 σ d e x y _ ok2 I2.env.tk (rep_gr g2.s r1) r2 (q2.bind fun z u H3 W3 g3 ok3 r3 q3 => ?_)
    split at q3
    · cases r3
      refine ⟨true, rfl, ?_⟩
      rw [if_pos rfl]
      exact ⟨ρ, W3, I2.go g3 ok3, q3.bind fun k w H4 W4 g4 ok4 r4 q4 => hr' W4 H4 σ e k y w Q ok4 ((I2.go g3 ok3).go g4 ok4).env.tk (rep_gr (g3.trans g4).s r2) r4 q4⟩
    · cases r3
      refine ⟨false, rfl, ?_⟩
      rw [if_neg Bool.false_ne_true]
      exact q3.val ok3 (.bl _)
    · exact q3.elim⟩⟩

theorem de_chain {op op' : CmpOp} {r r' : R2} {g1 g2 : D → D → Store → R D} (ho : OpR X (compareOp op) r) (ho' : OpR X (compareOp op') r') (hr : OpD F r g1) (hr' : OpD F r' g2) (ha : PE X a (denE F f1)) (hb : PE X b (denE F f2)) (hc : PE X c (denE F f3))
    (hm : lastMarks [op, op'] [b, c] = false := by with_unfolding_all rfl) : PE X (.Compare a [op, op'] [b, c] pos) (denE F (fChain g1 g2 f1 f2 f3)) := (pe_chain ho ho' ha hb hc hm).imp (den_chain hr hr')

/-! comparisons as tests -/
def gBl : D → Store → R Bool
  | .bl k, S => .ok k S
  | _, _ => .no
theorem dt_of {e : Expr} {te : TE} (h : PT X e (tTest te)) (k : ∀ σ H Q, denE F f σ H Q → te σ H Q) : PT X e (denT F (fUn gBl f)) := h.imp fun σ H Q ⟨ρ, W, I, q⟩ => k σ H _ ⟨ρ, W, I, q.bind fun d v H1 W1 g ok r q1 => by
  unfold gBl at q1
  split at q1
  · cases r
    exact ⟨_, rfl, q1.val ok rfl⟩
  · exact q1.elim⟩
theorem dt_cmp {op : CmpOp} {r : R2} {g : D → D → Store → R D} (ho : OpR X (compareOp op) r) (hr : OpD F r g) (ha : PE X a (denE F f1)) (hb : PE X b (denE F f2)) (hm : behindInMarks op b = false) : PT X (.Compare a [op] [b] pos) (denT F (fUn gBl (fBin g f1 f2))) :=
  dt_of (pt_cmpR ho ha hb hm) fun _ _ _ h => den_bin hr h
theorem dt_lt (ha : PE X a (denE F f1)) (hb : PE X b (denE F f2)) : PT X (.Compare a [.Lt] [b] pos) (denT F (fUn gBl (fBin gLt f1 f2))) := dt_cmp op_lt opd_cmp ha hb (nomark _)
theorem dt_le (ha : PE X a (denE F f1)) (hb : PE X b (denE F f2)) : PT X (.Compare a [.LtE] [b] pos) (denT F (fUn gBl (fBin gLe f1 f2))) := dt_cmp op_le opd_cmp ha hb (nomark _)
theorem dt_gt (ha : PE X a (denE F f1)) (hb : PE X b (denE F f2)) : PT X (.Compare a [.Gt] [b] pos) (denT F (fUn gBl (fBin gGt f1 f2))) := dt_cmp op_gt opd_cmp ha hb (nomark _)
theorem dt_ge (ha : PE X a (denE F f1)) (hb : PE X b (denE F f2)) : PT X (.Compare a [.GtE] [b] pos) (denT F (fUn gBl (fBin gGe f1 f2))) := dt_cmp op_ge opd_cmp ha hb (nomark _)
theorem dt_eq (hu : X.A.units + 64 < cLine) (ha : PE X a (denE F f1)) (hb : PE X b (denE F f2)) (hK : F.K = X.K := by rfl) : PT X (.Compare a [.Eq] [b] pos) (denT F (fUn gBl (fBin gEq f1 f2))) := dt_cmp (op_eqD hu) (by rw [← hK]; exact opd_eq) ha hb (nomark _)
theorem dt_ne (hu : X.A.units + 64 < cLine) (ha : PE X a (denE F f1)) (hb : PE X b (denE F f2)) (hK : F.K = X.K := by rfl) : PT X (.Compare a [.NotEq] [b] pos) (denT F (fUn gBl (fBin gNe f1 f2))) := dt_cmp (op_neD hu) (by rw [← hK]; exact opd_ne) ha hb (nomark _)
theorem dt_isN (ha : PE X a (denE F f1)) (hb : PE X b (denE F f2)) : PT X (.Compare a [.Is] [b] pos) (denT F (fUn gBl (fBin gIsN f1 f2))) := dt_cmp op_isN opd_isN ha hb (nomark _)
theorem dt_notN (ha : PE X a (denE F f1)) (hb : PE X b (denE F f2)) : PT X (.Compare a [.IsNot] [b] pos) (denT F (fUn gBl (fBin gNotN f1 f2))) := dt_cmp op_notN opd_notN ha hb (nomark _)
theorem dt_in (ha : PE X a (denE F f1)) (hb : PE X b (denE F f2)) (hm : behindInMarks .In b = false := by rfl) (hK : F.K = X.K := by rfl) : PT X (.Compare a [.In] [b] pos) (denT F (fUn gBl (fBin (gIn false) f1 f2))) := dt_cmp (op_in_seq.or op_inS) (by rw [← hK]; exact opd_in) ha hb hm
theorem dt_notIn (ha : PE X a (denE F f1)) (hb : PE X b (denE F f2)) (hm : behindInMarks .NotIn b = false := by rfl) (hK : F.K = X.K := by rfl) : PT X (.Compare a [.NotIn] [b] pos) (denT F (fUn gBl (fBin (gIn true) f1 f2))) := dt_cmp (op_notIn_seq.or op_notInS) (by rw [← hK]; exact opd_notIn) ha hb hm
theorem dt_chain {op op' : CmpOp} {r r' : R2} {g1 g2 : D → D → Store → R D} (ho : OpR X (compareOp op) r) (ho' : OpR X (compareOp op') r') (hr : OpD F r g1) (hr' : OpD F r' g2) (ha : PE X a (denE F f1)) (hb : PE X b (denE F f2)) (hc : PE X c (denE F f3))
    (hm : lastMarks [op, op'] [b, c] = false := by with_unfolding_all rfl) : PT X (.Compare a [op, op'] [b, c] pos) (denT F (fUn gBl (fChain g1 g2 f1 f2 f3))) := dt_of (pt_chain ho ho' ha hb hc hm) (den_chain hr hr')

/-! ### tests, truth -/
def tru? : D → Option Bool
  | .non => some false
  | .bl b => some b
  | .int i => some (i != 0)
  | .str s => if s.length ≤ LIM then some ((s.length : Int) != 0) else none
  | .lst xs => some (!xs.isEmpty)
  | .tup xs => some (!xs.isEmpty)
  | _ => none
theorem tru_rep {W : Wd} {H : Hp} {d : D} {v : V} {k : Bool} (h : F.rep W H d v) (e : tru? d = some k) : TruV F.K v H k := by
  cases h with
  | non => exact (Option.some.inj e).symm
  | bl b => exact (Option.some.inj e).symm
  | int b => exact (Option.some.inj e).symm
  | str s =>
    have e' : (if s.length ≤ LIM then some ((s.length : Int) != 0) else none) = some k := e
    split at e'
    · rename_i hz
      exact ⟨lim_le hz, (Option.some.inj e').symm⟩
    · cases e'
  | tup h1 h2 =>
    obtain rfl := Option.some.inj e
    refine .inr (.inl ⟨_, SqT.of (hid_le _ _ h1), ?_⟩)
    cases h2 <;> rfl
  | lst h1 h2 =>
    obtain rfl := Option.some.inj e
    refine .inl ⟨_, SqL.of (hid_le _ _ h1), ?_⟩
    cases h2 <;> rfl
  | ins _ _ _ _ => cases e
  | ref _ => cases e
  | fn _ => cases e
  | scr _ => cases e
  | dct _ _ _ => cases e
def gTru (d : D) (S : Store) : R Bool := match tru? d with
  | some k => .ok k S
  | none => .no
/-- a value's truth as a test -/
theorem dt_tru (ha : PE X a (denE F f)) (he : ∀ whole, isTrue a X.env whole = (do let v ← whole; standAt a.pos; holding [v] (truthy v)) := by intro _; rfl) (hK : F.K = X.K := by rfl) : PT X a (denT F (fUn gTru f)) :=
  (pt_truth ha he).imp fun σ H Q ⟨ρ, W, I, q⟩ => ⟨ρ, W, I, q.bind fun d v H1 W1 g ok r q1 => by
    unfold gTru at q1
    split at q1
    · rename_i k hk
      have := tru_rep r hk
      rw [hK] at this
      exact ⟨k, this, q1.val ok rfl⟩
    · exact q1.elim⟩
@[simp] def fNotT (f : Fn Bool) : Fn Bool := fun ρ S => (f ρ S).bind fun b S1 => .ok (!b) S1
@[simp] def fAndT (f g : Fn Bool) : Fn Bool := fun ρ S => (f ρ S).bind fun b S1 => if b = true then g ρ S1 else .ok false S1
@[simp] def fOrT (f g : Fn Bool) : Fn Bool := fun ρ S => (f ρ S).bind fun b S1 => if b = true then .ok true S1 else g ρ S1
variable {t1 t2 : Fn Bool} {rest : List Expr}
theorem dt_not (ha : PT X a (denT F t1)) : PT X (.UnaryOp .Not a pos) (denT F (fNotT t1)) := (pt_not ha).imp fun σ H Q ⟨ρ, W, I, q⟩ => ⟨ρ, W, I, q.bind fun d v H1 W1 g ok r q1 => by
  subst r; exact q1.val ok rfl⟩
theorem _root_.L2.PW.imp {e : Expr} {t t' : TT} (h : PW X e t) (k : ∀ σ H Q, t' σ H Q → t σ H Q) : PW X e t' := ⟨fun whole pins s σ H Q I q => h.run whole pins s σ H Q I (k σ H Q q)⟩
theorem dw_and1 (ha : PT X a (denT F t1)) : PW X (.BoolOp .And [a] pos) (denT F t1) := pw_and1 ha
theorem dw_or1 (ha : PT X a (denT F t1)) : PW X (.BoolOp .Or [a] pos) (denT F t1) := pw_or1 ha
theorem dw_and (ha : PT X a (denT F t1)) (hb : PW X (.BoolOp .And (b :: rest) pos) (denT F t2)) : PW X (.BoolOp .And (a :: b :: rest) pos) (denT F (fAndT t1 t2)) := (pw_and ha hb).imp fun σ H Q ⟨ρ, W, I, q⟩ =>
  ⟨ρ, W, I, q.bind fun d v H1 W1 g ok r q1 => by
    subst r
    cases d with
    | true =>
      rw [if_pos rfl]
      exact ⟨ρ, W1, I.go g ok, q1⟩
    | false =>
      rw [if_neg Bool.false_ne_true]
      exact q1.val ok rfl⟩
theorem dw_or (ha : PT X a (denT F t1)) (hb : PW X (.BoolOp .Or (b :: rest) pos) (denT F t2)) : PW X (.BoolOp .Or (a :: b :: rest) pos) (denT F (fOrT t1 t2)) := (pw_or ha hb).imp fun σ H Q ⟨ρ, W, I, q⟩ =>
  ⟨ρ, W, I, q.bind fun d v H1 W1 g ok r q1 => by
    subst r
    cases d with
    | true =>
      rw [if_pos rfl]
      exact q1.val ok rfl
    | false =>
      rw [if_neg Bool.false_ne_true]
      exact ⟨ρ, W1, I.go g ok, q1⟩⟩
@[simp] def fIfE (t : Fn Bool) (f1 f2 : Fn D) : Fn D := fun ρ S => (t ρ S).bind fun b S1 => if b = true then f1 ρ S1 else f2 ρ S1
theorem de_if (hc : PT X c (denT F t1)) (ha : PE X a (denE F f1)) (hb : PE X b (denE F f2)) : PE X (.IfExp c a b pos) (denE F (fIfE t1 f1 f2)) := (pe_ifExp hc ha hb).imp fun σ H Q ⟨ρ, W, I, q⟩ =>
  ⟨ρ, W, I, q.bind fun d v H1 W1 g ok r q1 => by
    subst r
    cases d with
    | true =>
      rw [if_pos rfl]
      exact ⟨ρ, W1, I.go g ok, q1⟩
    | false =>
      rw [if_neg Bool.false_ne_true]
      exact ⟨ρ, W1, I.go g ok, q1⟩⟩
/-- x and y, x or y, not x as values -/
@[simp] def fAndV (f g : Fn D) : Fn D := fun ρ S => (f ρ S).bind fun d S1 => match tru? d with
  | some true => g ρ S1
  | some false => .ok d S1
  | none => .no
@[simp] def fOrV (f g : Fn D) : Fn D := fun ρ S => (f ρ S).bind fun d S1 => match tru? d with
  | some true => .ok d S1
  | some false => g ρ S1
  | none => .no
def gNot (d : D) (S : Store) : R D := match tru? d with
  | some k => .ok (.bl (!k)) S
  | none => .no
theorem de_one {op} (h : PE X a (denE F f)) : PE X (.BoolOp op [a] pos) (denE F f) := pe_one h
theorem de_and (ha : PE X a (denE F f1)) (hb : PE X (.BoolOp .And (b :: rest) pos) (denE F f2)) (hK : F.K = X.K := by rfl) : PE X (.BoolOp .And (a :: b :: rest) pos) (denE F (fAndV f1 f2)) := (pe_andT ha hb).imp fun σ H Q ⟨ρ, W, I, q⟩ =>
  ⟨ρ, W, I, q.bind fun d v H1 W1 g ok r q1 => by
    split at q1
    · rename_i hk
      have := tru_rep r hk
      rw [hK] at this
      exact ⟨true, this, by rw [if_pos rfl]; exact ⟨ρ, W1, I.go g ok, q1⟩⟩
    · rename_i hk
      have := tru_rep r hk
      rw [hK] at this
      exact ⟨false, this, by rw [if_neg Bool.false_ne_true]; exact q1.val ok r⟩
    · exact q1.elim⟩
theorem de_or (ha : PE X a (denE F f1)) (hb : PE X (.BoolOp .Or (b :: rest) pos) (denE F f2)) (hK : F.K = X.K := by rfl) : PE X (.BoolOp .Or (a :: b :: rest) pos) (denE F (fOrV f1 f2)) := (pe_orT ha hb).imp fun σ H Q ⟨ρ, W, I, q⟩ =>
  ⟨ρ, W, I, q.bind fun d v H1 W1 g ok r q1 => by
    split at q1
    · rename_i hk
      have := tru_rep r hk
      rw [hK] at this
      exact ⟨true, this, by rw [if_pos rfl]; exact q1.val ok r⟩
    · rename_i hk
      have := tru_rep r hk
      rw [hK] at this
      exact ⟨false, this, by rw [if_neg Bool.false_ne_true]; exact ⟨ρ, W1, I.go g ok, q1⟩⟩
    · exact q1.elim⟩
theorem de_not (ha : PE X a (denE F f)) (hK : F.K = X.K := by rfl) : PE X (.UnaryOp .Not a pos) (denE F (fUn gNot f)) := (pe_notT ha).imp fun σ H Q ⟨ρ, W, I, q⟩ =>
  ⟨ρ, W, I, q.bind fun d v H1 W1 g ok r q1 => by
    unfold gNot at q1
    split at q1
    · rename_i k hk
      have := tru_rep r hk
      rw [hK] at this
      exact ⟨k, this, q1.val ok (.bl _)⟩
    · exact q1.elim⟩

/-! ### subscripts, slices -/
def gIx : D → D → Store → R D
  | .lst xs, .int i, S => match atI xs i with
    | some d => .ok d S
    | none => .no
  | .tup xs, .int i, S => match atI xs i with
    | some d => .ok d S
    | none => .no
  | .str z, .int i, S => if z.length ≤ LIM then (match atI z.cps.toList i with
    | some c => .ok (.str ⟨#[c]⟩) S
    | none => .no) else .no
  | _, _, _ => .no
theorem atI_rep {W : Wd} {H : Hp} {ds : List D} {vs : List V} {i : Int} {d : D} (h : F.reps W H ds vs) (e : atI ds i = some d) : ∃ v, atI vs i = some v ∧ F.rep W H d v := by
  unfold atI at *
  rw [h.len] at e
  cases q : ixN vs.length i with
  | none => rw [q] at e; cases e
  | some j =>
    rw [q] at e
    obtain ⟨v, a, b⟩ := h.get (i := j) e
    exact ⟨v, a, b⟩
theorem opd_ix : OpD F (rIx F.K) gIx := by
  intro W H σ d e x y Q ok hT rx ry h
  unfold gIx at h
  split at h
  · split at h
    · rename_i hd
      cases ry
      cases rx with
      | lst a b =>
        obtain ⟨v, e1, r1⟩ := atI_rep b hd
        exact .inl ⟨_, _, _, v, rfl, rfl, SqL.of (hid_le _ _ a), e1, h.val ok r1⟩
    · exact h.elim
  · split at h
    · rename_i hd
      cases ry
      cases rx with
      | tup a b =>
        obtain ⟨v, e1, r1⟩ := atI_rep b hd
        exact .inr (.inl ⟨_, _, _, v, rfl, rfl, SqT.of (hid_le _ _ a), e1, h.val ok r1⟩)
    · exact h.elim
  · split at h
    · rename_i hz
      split at h
      · rename_i hd
        cases rx; cases ry
        exact .inr (.inr ⟨_, _, _, rfl, rfl, lim_le hz, hd, h.val ok (.str _)⟩)
      · exact h.elim
    · exact h.elim
  · exact h.elim
theorem de_ix (ha : PE X a (denE F f1)) (hb : PE X b (denE F f2)) (hs : PlainIx b := by exact fun _ _ => rfl) (hK : F.K = X.K := by rfl) : PE X (.Subscript a b pos) (denE F (fBin gIx f1 f2)) := (pe_ix ix_seq ha hb hs).imp fun _ _ _ h => den_bin (by rw [← hK]; exact opd_ix) h
def cutD (xs : List D) (lo hi : Option Int) : List D := (xs.drop (HT.sIx xs.length 0 lo)).take (HT.sIx xs.length xs.length hi - HT.sIx xs.length 0 lo)
theorem cut_rep {W : Wd} {H : Hp} {ds : List D} {vs : List V} {lo hi : Option Int} (h : F.reps W H ds vs) : F.reps W H (cutD ds lo hi) (cutV vs lo hi) := by
  unfold cutD cutV
  rw [h.len]
  exact (h.drop _).take _
abbrev denO (F : Fm) (f : Fn (Option Int)) : TO := den F relE f
@[simp] def fPn : Fn (Option Int) := fun _ S => .ok none S
def gPart : D → Store → R (Option Int)
  | .int i, S => .ok (some i) S
  | _, _ => .no
theorem _root_.L2.PO.imp {e : Option Expr} {t t' : TO} (h : PO X e t) (k : ∀ σ H Q, t' σ H Q → t σ H Q) : PO X e t' := ⟨fun pins s σ H Q I q => h.run pins s σ H Q I (k σ H Q q)⟩
theorem do_none : PO X none (denO F fPn) := po_none.imp fun σ H Q ⟨ρ, W, I, q⟩ => q.val I.ok rfl
theorem do_some (ha : PE X a (denE F f)) : PO X (some a) (denO F (fUn gPart f)) := (po_some ha).imp fun σ H Q ⟨ρ, W, I, q⟩ => ⟨ρ, W, I, q.bind fun d v H1 W1 g ok r q1 => by
  unfold gPart at q1
  split at q1
  · cases r
    exact ⟨_, rfl, q1.val ok rfl⟩
  · exact q1.elim⟩
def gSl : D → Option Int → Option Int → Store → R D
  | .lst xs, lo, hi, S => .ok (.lst (cutD xs lo hi)) S
  | .tup xs, lo, hi, S => .ok (.tup (cutD xs lo hi)) S
  | _, _, _, _ => .no
@[simp] def fSl (f : Fn D) (l h : Fn (Option Int)) : Fn D := fun ρ S => (f ρ S).bind fun d S1 => (l ρ S1).bind fun lo S2 => (h ρ S2).bind fun hi S3 => gSl d lo hi S3
variable {lo hi : Option Expr} {fl fh : Fn (Option Int)} {p2 : Pos}
theorem cutD_whole {xs : List D} {lo hi : Option Int} (h1 : HT.sIx xs.length 0 lo = 0) (h2 : HT.sIx xs.length xs.length hi = xs.length) : cutD xs lo hi = xs := by
  unfold cutD
  rw [h1, h2]
  simp
theorem de_slice (ha : PE X a (denE F f)) (hl : PO X lo (denO F fl)) (hh : PO X hi (denO F fh)) (hK : F.K = X.K := by rfl) : PE X (.Subscript a (.Slice lo hi none p2) pos) (denE F (fSl f fl fh)) :=
  (pe_slice (sl_list.or sl_tupA) ha hl hh).imp fun σ H Q ⟨ρ, W, I, q⟩ => ⟨ρ, W, I, q.bind fun d v H1 W1 g ok r q1 => ⟨ρ, W1, I.go g ok, q1.bind fun l l' H2 W2 g2 ok2 r2 q2 => ⟨ρ, W2, (I.go g ok).go g2 ok2, q2.bind fun u u' H3 W3 g3 ok3 r3 q3 => by
    subst r2 r3
    have r := rep_gr (g2.trans g3).s r
    unfold gSl at q3
    split at q3
    · cases r with
      | lst a b => exact .inl ⟨_, _, rfl, SqL.of (hid_le _ _ a), fun p hp => q3.new ok3 hp (rep_lst ok3 hp (cut_rep b))⟩
    · cases r with
      | tup a b =>
        refine .inr ⟨_, _, rfl, SqT.of (hid_le _ _ a), fun hw => ?_, fun _ p hp => q3.new ok3 hp (rep_tup ok3 hp (cut_rep b))⟩
        rw [← b.len] at hw
        rw [cutD_whole hw.1 hw.2] at q3
        exact q3.val ok3 (.tup a b)
    · exact q3.elim⟩⟩⟩

/-! ### calls of built-ins by name -/
def CalD (F : Fm) (r : List V → Hp → VK → Prop) (g : List D → Store → R D) : Prop := ∀ (W : Wd) (H : Hp) (σ : St) (ds : List D) (vs : List V) (Q : VK), WOk W H → F.reps W H ds vs → Post F F.rep W H σ (g ds W.S) Q → r vs H Q
theorem den_cb {r : List V → Hp → VK → Prop} {g : List D → Store → R D} (hg : CalD F r g) {σ : St} {H : Hp} {Q : VK} (h : denE F (fUn g fs) σ H Q) : tCB r (denA F fs) σ H Q := by
  obtain ⟨ρ, W, I, q⟩ := h
  exact ⟨ρ, W, I, q.bind fun d v H1 W1 g1 ok r q1 => hg W1 H1 σ d v Q ok r q1⟩
variable {x : Str} {p : Pos}
theorem de_cb {r : List V → Hp → VK → Prop} {g : List D → Store → R D} {id : String} (hc : CallR X (.builtin id) r) (hd : CalD F r g) (hg : Gl X x) (hm : X.mg x = none) (hv : bootBuiltins x = some (.builtin id)) (ha : PA X (e :: es) (denA F fs))
    (hn : x ≠ "__name__" := by decide) (hdb : (x == ("__debug__" : Str)) = false := by decide) (he : starEach (e :: es) X.env = (false, eval e X.env) :: starEach es X.env := by rfl) (hpl : (backTo pos (starEach es X.env)).any (·.1) = false := by rfl) :
    PE X (.Call (.Name x p) (e :: es) [] pos) (denE F (fUn g fs)) := (pe_callB hc hg hm hv ha hn hdb he hpl).imp fun _ _ _ h => den_cb hd h
theorem de_ct {r : List V → Hp → VK → Prop} {g : List D → Store → R D} {T : String} (hc : CallR X (.type T) r) (hd : CalD F r g) (hg : Gl X x) (hm : X.mg x = none) (hv : bootBuiltins x = some (.type T)) (ha : PA X (e :: es) (denA F fs))
    (hn : x ≠ "__name__" := by decide) (hdb : (x == ("__debug__" : Str)) = false := by decide) (he : starEach (e :: es) X.env = (false, eval e X.env) :: starEach es X.env := by rfl) (hpl : (backTo pos (starEach es X.env)).any (·.1) = false := by rfl) :
    PE X (.Call (.Name x p) (e :: es) [] pos) (denE F (fUn g fs)) := (pe_callTy hc hg hm hv ha hn hdb he hpl).imp fun _ _ _ h => den_cb hd h
/-- .. that make a new list -/
def CalX (F : Fm) (r : List V → Hp → VK → Prop) (g : List D → Store → R (List D)) : Prop := ∀ (W : Wd) (H : Hp) (σ : St) (ds : List D) (vs : List V) (Q : VK) (es : List D) (S' : Store), WOk W H → F.reps W H ds vs → g ds W.S = .ok es S' →
  (∀ p ws, H p = none → F.reps W H es ws → Q (.ref p) (upd H p (.lst ws))) → r vs H Q
@[simp] def fCx (g : List D → Store → R (List D)) (fs : Fn (List D)) : Fn Sl := fun ρ S => (fs ρ S).bind fun ds S1 => match g ds S1 with
  | .ok es _ => .ok (.ow es) S1
  | _ => .no
theorem den_cx {r : List V → Hp → VK → Prop} {g : List D → Store → R (List D)} (hg : CalX F r g) {σ : St} {H : Hp} {Q : VK} (h : denX F (fCx g fs) σ H Q) : tCB r (denA F fs) σ H Q := by
  obtain ⟨ρ, W, I, q⟩ := h
  refine ⟨ρ, W, I, q.bind fun ds vs H1 W1 g1 ok r q1 => ?_⟩
  split at q1
  · rename_i es S' he
    exact hg W1 H1 σ ds vs Q es S' ok r he fun p ws hp hr => Post.newX g1 ok hp q1 hr
  · exact q1.elim
end
end Bx

namespace Bx
open PySem L2 PyProof.Rows

/-! ### built-ins on data -/
def gLen : List D → Store → R D
  | [.lst xs], S => .ok (.int xs.length) S
  | [.tup xs], S => .ok (.int xs.length) S
  | [.str z], S => if z.length ≤ LIM then .ok (.int z.length) S else .no
  | _, _ => .no
def gInt : List D → Store → R D
  | [.int i], S => .ok (.int i) S
  | [.bl b], S => .ok (.int (if b then 1 else 0)) S
  | _, _ => .no
def ints? : List D → Option (List Int)
  | [] => some []
  | .int i :: ds => (ints? ds).map (i :: ·)
  | _ :: _ => none
def mx (m x : Int) : Int := if m > x then m else x
def mn (m x : Int) : Int := if m < x then m else x
def maxL : List Int → Int
  | [] => 0
  | [x] => x
  | x :: xs => mx (maxL xs) x
def minL : List Int → Int
  | [] => 0
  | [x] => x
  | x :: xs => mn (minL xs) x
def gMax : List D → Store → R D
  | [.int i, .int j], S => .ok (.int (if j > i then j else i)) S
  | [.lst xs], S => match ints? xs with
    | some (n :: ns) => .ok (.int (maxL (n :: ns))) S
    | _ => .no
  | [.tup xs], S => match ints? xs with
    | some (n :: ns) => .ok (.int (maxL (n :: ns))) S
    | _ => .no
  | _, _ => .no
def gMin : List D → Store → R D
  | [.int i, .int j], S => .ok (.int (if j < i then j else i)) S
  | [.int i, .int j, .int k], S => .ok (.int (if k < (if j < i then j else i) then k else (if j < i then j else i))) S
  | [.lst xs], S => match ints? xs with
    | some (n :: ns) => .ok (.int (minL (n :: ns))) S
    | _ => .no
  | _, _ => .no
theorem gMin_two (i j : Int) (S : Store) : gMin [.int i, .int j] S = .ok (.int (if j < i then j else i)) S := by simp only [gMin]
theorem gMin_three (i j k : Int) (S : Store) : gMin [.int i, .int j, .int k] S = .ok (.int (if k < (if j < i then j else i) then k else (if j < i then j else i))) S := by simp only [gMin]
def gSum : List D → Store → R D
  | [.lst xs], S => match ints? xs with
    | some ns => .ok (.int ns.sum) S
    | none => .no
  | [.tup xs], S => match ints? xs with
    | some ns => .ok (.int ns.sum) S
    | none => .no
  | _, _ => .no
def insI (x : Int) : List Int → List Int
  | [] => [x]
  | y :: ys => if x ≤ y then x :: y :: ys else y :: insI x ys
def sortI : List Int → List Int
  | [] => []
  | x :: xs => insI x (sortI xs)
def gSorted : List D → Store → R (List D)
  | [.lst xs], S => match ints? xs with
    | some ns => .ok ((sortI ns).map .int) S
    | _ => .no
  | _, _ => .no
def gSortedRev : List D → Store → R (List D)
  | [.lst xs], S => match ints? xs with
    | some ns => .ok ((sortI ns).reverse.map .int) S
    | _ => .no
  | _, _ => .no
def gList : List D → Store → R (List D)
  | [.lst xs], S => .ok xs S
  | [.tup xs], S => .ok xs S
  | [.scr ns], S => .ok (ns.map .int) S
  | _, _ => .no
def gTuple : List D → Store → R D
  | [.lst xs], S => .ok (.tup xs) S
  | [.tup xs], S => .ok (.tup xs) S
  | _, _ => .no

theorem insI_perm (x : Int) : ∀ l, (insI x l).Perm (x :: l)
  | [] => .refl _
  | y :: ys => by
    unfold insI
    split
    · exact .refl _
    · exact ((insI_perm x ys).cons y).trans (.swap x y ys)
theorem sortI_perm : ∀ l, (sortI l).Perm l
  | [] => .refl _
  | x :: xs => (insI_perm x _).trans ((sortI_perm xs).cons x)
theorem insI_sorted (x : Int) : ∀ l : List Int, l.Pairwise (· ≤ ·) → (insI x l).Pairwise (· ≤ ·)
  | [], _ => by simp [insI]
  | y :: ys, h => by
    unfold insI
    rw [List.pairwise_cons] at h
    split
    · rename_i hxy
      rw [List.pairwise_cons]
      refine ⟨fun z hz => ?_, List.pairwise_cons.mpr h⟩
      rcases List.mem_cons.mp hz with rfl | hz
      · exact hxy
      · exact Int.le_trans hxy (h.1 z hz)
    · rename_i hxy
      rw [List.pairwise_cons]
      refine ⟨fun z hz => ?_, insI_sorted x ys h.2⟩
      rcases List.mem_cons.mp ((insI_perm x ys).mem_iff.mp hz) with rfl | hz
      · omega
      · exact h.1 z hz
theorem sortI_sorted : ∀ l : List Int, (sortI l).Pairwise (· ≤ ·)
  | [] => .nil
  | x :: xs => insI_sorted x _ (sortI_sorted xs)
theorem sort_same {a b : List Int} (hp : a.Perm b) (ha : a.Pairwise (· ≤ ·)) (hb : b.Pairwise (· ≤ ·)) : a = b := hp.eq_of_pairwise (fun x y _ _ h1 h2 => Int.le_antisymm h1 h2) ha hb
theorem sortI_is {a b : List Int} (hp : a.Perm b) (ha : a.Pairwise (· ≤ ·)) : a = sortI b := sort_same (hp.trans (sortI_perm b).symm) ha (sortI_sorted b)
theorem maxL_mem : ∀ {l : List Int}, l ≠ [] → maxL l ∈ l
  | [x], _ => by simp [maxL]
  | x :: y :: ys, _ => by
    unfold maxL mx
    have := maxL_mem (l := y :: ys) (by simp)
    split
    · exact .tail _ this
    · exact .head _
theorem maxL_ge : ∀ {l : List Int}, ∀ y ∈ l, y ≤ maxL l
  | [x], y, h => by simp [maxL] at *; omega
  | x :: z :: ys, y, h => by
    have := maxL_ge (l := z :: ys)
    unfold maxL mx
    rcases List.mem_cons.mp h with rfl | h
    · split <;> omega
    · have := this y h
      split <;> omega
theorem minL_mem : ∀ {l : List Int}, l ≠ [] → minL l ∈ l
  | [x], _ => by simp [minL]
  | x :: y :: ys, _ => by
    unfold minL mn
    have := minL_mem (l := y :: ys) (by simp)
    split
    · exact .tail _ this
    · exact .head _
theorem minL_le : ∀ {l : List Int}, ∀ y ∈ l, minL l ≤ y
  | [x], y, h => by simp [minL] at *; omega
  | x :: z :: ys, y, h => by
    have := minL_le (l := z :: ys)
    unfold minL mn
    rcases List.mem_cons.mp h with rfl | h
    · split <;> omega
    · have := this y h
      split <;> omega
theorem ints_eq : ∀ {ds : List D} {ns : List Int}, ints? ds = some ns → ds = ns.map .int
  | [], ns, h => by
    obtain rfl := Option.some.inj h
    rfl
  | .int i :: ds, ns, h => by
    obtain ⟨m, h1, rfl⟩ := Option.map_eq_some_iff.mp (show (ints? ds).map (i :: ·) = some ns from h)
    rw [ints_eq h1]; rfl
@[simp] theorem ints_map : ∀ ns : List Int, ints? (ns.map D.int) = some ns
  | [] => rfl
  | n :: ns => by simp [ints?, ints_map ns]
section
variable {F : Fm} {X : Cx}
theorem rep_int {W : Wd} {H : Hp} {i : Int} {v : V} (h : F.rep W H (.int i) v) : v = .int i := by cases h; rfl
theorem cal_len : CalD F (fun xs H Q => ∃ x n, xs = [x] ∧ LenV F.K x H n ∧ Q (.int n) H) gLen := by
  intro W H σ ds vs Q ok r h
  unfold gLen at h
  split at h
  · cases r with
    | cons r1 r2 =>
      cases r2
      cases r1 with
      | lst a b => exact ⟨_, _, rfl, .inl ⟨_, SqL.of (hid_le _ _ a), rfl⟩, by rw [← b.len]; exact h.val ok (.int _)⟩
  · cases r with
    | cons r1 r2 =>
      cases r2
      cases r1 with
      | tup a b => exact ⟨_, _, rfl, .inr ⟨_, SqT.of (hid_le _ _ a), rfl⟩, by rw [← b.len]; exact h.val ok (.int _)⟩
  · split at h
    · rename_i hz
      cases r with
      | cons r1 r2 =>
        cases r2
        cases r1
        exact ⟨_, _, rfl, ⟨lim_le hz, rfl⟩, h.val ok (.int _)⟩
    · exact h.elim
  · exact h.elim
theorem cal_int : CalD F (fun xs H Q => (∃ i, xs = [.int i] ∧ Q (.int i) H) ∨ ∃ k, xs = [.bl k] ∧ Q (.int (if k then 1 else 0)) H) gInt := by
  intro W H σ ds vs Q ok r h
  unfold gInt at h
  split at h
  · cases r with
    | cons r1 r2 =>
      cases r2
      cases r1
      exact .inl ⟨_, rfl, h.val ok (.int _)⟩
  · cases r with
    | cons r1 r2 =>
      cases r2
      cases r1
      exact .inr ⟨_, rfl, h.val ok (.int _)⟩
  · exact h.elim
theorem readsInts (h : Heap) : ∀ {ns : List Int} {its : List Value}, Vals (ns.map V.int) its → ∃ as, ReadsAll h its (ns.map .int) as
  | [], _, r => by
    cases r
    exact ⟨_, .nil⟩
  | n :: ns, _, r => by
    cases r with
    | cons r1 r2 =>
      obtain ⟨t, rfl⟩ := r1
      obtain ⟨as, h2⟩ := readsInts h r2
      exact ⟨_, .cons (.int n t) h2⟩
def rMaxT (K : PySem.W.Frag) : List V → Hp → VK → Prop := fun vs H Q => ∃ (a : Addr) (ns : List Int), vs = [V.ref a] ∧ SqT K H a (ns.map V.int) ∧ 0 < ns.length ∧ ∀ m, m ∈ ns → (∀ y, y ∈ ns → y ≤ m) → Q (.int m) H
theorem foldl_max (n : Int) : ∀ ns : List Int, ns.foldl max n ∈ n :: ns ∧ ∀ y, y ∈ n :: ns → y ≤ ns.foldl max n := by
  intro ns
  induction ns generalizing n with
  | nil => simp
  | cons k r ih =>
    obtain ⟨h1, h2⟩ := ih (max n k)
    simp only [List.foldl_cons]
    refine ⟨?_, fun y hy => ?_⟩
    · rcases List.mem_cons.mp h1 with e | e
      · rw [e]
        rcases Int.le_total n k with z | z
        · rw [Int.max_eq_right z]; simp
        · rw [Int.max_eq_left z]; simp
      · exact List.mem_cons_of_mem _ (List.mem_cons_of_mem _ e)
    · have hm := h2 (max n k) (List.mem_cons_self ..)
      simp only [List.mem_cons] at hy
      rcases hy with rfl | rfl | hy
      · omega
      · omega
      · exact h2 y (List.mem_cons_of_mem _ hy)
theorem cr_maxT {X : Cx} (hc : X.calm = true) (hu : X.A.units + 1 < cLine) : CallR X (.builtin "max") (rMaxT X.K) := by
  intro pins s σ H vs us Q I r h
  obtain ⟨a, ns, rfl, hs, hne, q⟩ := h
  obtain ⟨its, rv, ht, hz⟩ := I.tuple hs
  rw [Vals.ref1 r]
  cases ns with
  | nil => simp at hne
  | cons n ns =>
    obtain ⟨as, hR⟩ := readsInts s.heap rv
    refine PySem.W.max_tuple_data (x := .int n) (xs := ns.map .int) (I.ok.hd hc) ht (by simpa using hR) ⟨fun x hx y hy => ?_, fun x hx => ?_⟩ ?_ fun i v h' tk bs hv hr hk => ?_
    · obtain ⟨x', _, rfl⟩ := List.mem_map.mp (show x ∈ (n :: ns).map PyData.int from hx)
      obtain ⟨y', _, rfl⟩ := List.mem_map.mp (show y ∈ (n :: ns).map PyData.int from hy)
      rfl
    · obtain ⟨x', _, rfl⟩ := List.mem_map.mp (show x ∈ (n :: ns).map PyData.int from hx)
      simp
    · have := PyProof.Rows.depthAll_ints (n :: ns)
      simp only [List.map_cons] at this
      rw [this]
      exact hu
    · rw [PySem.W.maxD_ints] at hr
      obtain ⟨h1, h2⟩ := foldl_max n ns
      cases hr
      exact ⟨.int _, H, I.kept hk, ⟨_, rfl⟩, q _ h1 h2⟩
theorem cal_max : CalD F (fun xs H Q => (∃ i j, xs = [.int i, .int j] ∧ Q (.int (if j > i then j else i)) H) ∨ rMax F.K xs H Q ∨ rMaxT F.K xs H Q) gMax := by
  intro W H σ ds vs Q ok r h
  unfold gMax at h
  split at h
  · cases r with
    | cons r1 r2 =>
      cases r2 with
      | cons r3 r4 =>
        cases r4; cases r1; cases r3
        exact .inl ⟨_, _, rfl, h.val ok (.int _)⟩
  · split at h
    · rename_i hi
      cases r with
      | cons r1 r2 =>
        cases r2
        cases r1 with
        | lst a b =>
          rw [ints_eq hi] at b
          obtain rfl := b.ints
          refine .inr (.inl ⟨_, _, rfl, SqL.of (hid_le _ _ a), by simp, fun m hm hle => ?_⟩)
          rename_i n ns _
          have e : m = maxL (n :: ns) := Int.le_antisymm (maxL_ge m hm) (hle _ (maxL_mem (by simp)))
          rw [e]
          exact h.val ok (.int _)
    · exact h.elim
  · split at h
    · rename_i hi
      cases r with
      | cons r1 r2 =>
        cases r2
        cases r1 with
        | tup a b =>
          rw [ints_eq hi] at b
          obtain rfl := b.ints
          refine .inr (.inr ⟨_, _, rfl, SqT.of (hid_le _ _ a), by simp, fun m hm hle => ?_⟩)
          rename_i n ns _
          have e : m = maxL (n :: ns) := Int.le_antisymm (maxL_ge m hm) (hle _ (maxL_mem (by simp)))
          rw [e]
          exact h.val ok (.int _)
    · exact h.elim
  · exact h.elim
theorem cal_min : CalD F (fun xs H Q => (∃ i j, xs = [.int i, .int j] ∧ Q (.int (if j < i then j else i)) H) ∨ rMin F.K xs H Q ∨ rNuC3 nuMin3 xs H Q) gMin := by
  intro W H σ ds vs Q ok r h
  unfold gMin at h
  split at h
  · cases r with
    | cons r1 r2 =>
      cases r2 with
      | cons r3 r4 =>
        cases r4; cases r1; cases r3
        exact .inl ⟨_, _, rfl, h.val ok (.int _)⟩
  · rename_i i j k
    cases r with
    | cons r1 r2 =>
      cases r2 with
      | cons r3 r4 =>
        cases r4 with
        | cons r5 r6 =>
          cases r6; cases r1; cases r3; cases r5
          refine .inr (.inr ⟨.int i, .int j, .int k, .int (if k < (if j < i then j else i) then k else (if j < i then j else i)), rfl, ?_, h.val ok (.int _)⟩)
          by_cases c : j < i
          · rw [if_pos c]
            by_cases d : k < j
            · simp [nuMin3, nuMin2, nuLt, nuCB, c, d]
            · simp only [nuMin3, nuMin2, nuLt, nuCB, c, d, decide_true, decide_false, Option.map_some, Option.bind_some, if_true, if_false, Bool.false_eq_true]
          · rw [if_neg c]
            by_cases d : k < i
            · simp [nuMin3, nuMin2, nuLt, nuCB, c, d]
            · simp only [nuMin3, nuMin2, nuLt, nuCB, c, d, decide_true, decide_false, Option.map_some, Option.bind_some, if_true, if_false, Bool.false_eq_true]
  · split at h
    · rename_i hi
      cases r with
      | cons r1 r2 =>
        cases r2
        cases r1 with
        | lst a b =>
          rw [ints_eq hi] at b
          obtain rfl := b.ints
          refine .inr (.inl ⟨_, _, rfl, SqL.of (hid_le _ _ a), by simp, fun m hm hle => ?_⟩)
          rename_i n ns _
          have e : m = minL (n :: ns) := Int.le_antisymm (hle _ (minL_mem (by simp))) (minL_le m hm)
          rw [e]
          exact h.val ok (.int _)
    · exact h.elim
  · exact h.elim
def rSumT (K : PySem.W.Frag) : List V → Hp → VK → Prop := fun vs H Q => ∃ (a : Addr) (ns : List Int), vs = [V.ref a] ∧ SqT K H a (ns.map V.int) ∧ Q (.int ns.sum) H
theorem cr_sumT {X : Cx} (hc : X.calm = true) : CallR X (.builtin "sum") (rSumT X.K) := by
  intro pins s σ H vs us Q I r h
  obtain ⟨a, ns, rfl, hs, q⟩ := h
  obtain ⟨its, rv, hl, _⟩ := I.tuple hs
  rw [Vals.ref1 r]
  have hi := rv.ints
  obtain ⟨xs, e⟩ := hi.allInts.items
  have hn : numsOf (intItems xs).toList = ns := by rw [← e]; exact hi.numsOf
  rw [nums_intItems] at hn
  rw [e] at hl
  refine PySem.W.ktm_sumG (I.ok.hd hc) hl fun h' tk t' hk => ?_
  rw [preSum_eq, List.take_of_length_le (by simp), hn]
  exact ⟨.int _, H, I.kept hk, ⟨_, rfl⟩, q⟩
theorem cal_sum : CalD F (fun vs H Q => rSum F.K vs H Q ∨ rSumT F.K vs H Q) gSum := by
  intro W H σ ds vs Q ok r h
  unfold gSum at h
  split at h
  · split at h
    · rename_i hi
      cases r with
      | cons r1 r2 =>
        cases r2
        cases r1 with
        | lst a b =>
          rw [ints_eq hi] at b
          obtain rfl := b.ints
          exact .inl ⟨_, _, rfl, SqL.of (hid_le _ _ a), h.val ok (.int _)⟩
    · exact h.elim
  · split at h
    · rename_i hi
      cases r with
      | cons r1 r2 =>
        cases r2
        cases r1 with
        | tup a b =>
          rw [ints_eq hi] at b
          obtain rfl := b.ints
          exact .inr ⟨_, _, rfl, SqT.of (hid_le _ _ a), h.val ok (.int _)⟩
    · exact h.elim
  · exact h.elim
theorem cal_tuple : CalD F (fun xs H Q => ∃ p ys, xs = [.ref p] ∧ ((SqL F.K H p ys ∧ ∀ l, H l = none → Q (.ref l) (upd H l (.tup ys))) ∨ (SqT F.K H p ys ∧ Q (.ref p) H))) gTuple := by
  intro W H σ ds vs Q ok r h
  unfold gTuple at h
  split at h
  · cases r with
    | cons r1 r2 =>
      cases r2
      cases r1 with
      | lst a b => exact ⟨_, _, rfl, .inl ⟨SqL.of (hid_le _ _ a), fun l hl => h.new ok hl (rep_tup ok hl b)⟩⟩
  · cases r with
    | cons r1 r2 =>
      cases r2
      cases r1 with
      | tup a b => exact ⟨_, _, rfl, .inr ⟨SqT.of (hid_le _ _ a), h.val ok (.tup a b)⟩⟩
  · exact h.elim
theorem cal_list : CalX F (fun xs H Q => ∃ p ys, xs = [.ref p] ∧ (SqL F.K H p ys ∨ SqT F.K H p ys) ∧ ∀ l, H l = none → Q (.ref l) (upd H l (.lst ys))) gList := by
  intro W H σ ds vs Q es S' ok r he h
  unfold gList at he
  split at he
  · cases he
    cases r with
    | cons r1 r2 =>
      cases r2
      cases r1 with
      | lst a b => exact ⟨_, _, rfl, .inl (SqL.of (hid_le _ _ a)), fun l hl => h l _ hl b⟩
  · cases he
    cases r with
    | cons r1 r2 =>
      cases r2
      cases r1 with
      | tup a b => exact ⟨_, _, rfl, .inr (SqT.of (hid_le _ _ a)), fun l hl => h l _ hl b⟩
  · cases he
    cases r with
    | cons r1 r2 =>
      cases r2
      cases r1 with
      | scr a => exact ⟨_, _, rfl, .inl (sql_mono hid_le a), fun l hl => h l _ hl (Reps.ofInts _)⟩
  · cases he
theorem cal_sorted : CalX F (rSortedI F.K) gSorted := by
  intro W H σ ds vs Q es S' ok r he h
  unfold gSorted at he
  split at he
  · split at he
    · rename_i hi
      cases he
      cases r with
      | cons r1 r2 =>
        cases r2
        cases r1 with
        | lst a b =>
          rw [ints_eq hi] at b
          obtain rfl := b.ints
          refine ⟨_, _, rfl, SqL.of (hid_le _ _ a), fun ns' p hp hs hn => ?_⟩
          obtain rfl := sortI_is hp hs
          exact h p _ hn (Reps.ofInts _)
    · cases he
  · cases he
theorem cal_sortedRev : CalX F (fun vs H Q => rSortedKw F.K true [V.bl true] vs [V.bl true] H Q) gSortedRev := by
  intro W H σ ds vs Q es S' ok r he h
  unfold gSortedRev at he
  split at he
  · split at he
    · rename_i hi
      cases he
      cases r with
      | cons r1 r2 =>
        cases r2
        cases r1 with
        | lst a b =>
          rw [ints_eq hi] at b
          obtain rfl := b.ints
          refine ⟨_, _, rfl, rfl, SqL.of (hid_le _ _ a), fun ns' p hp hs hn => ?_⟩
          have hs' : ns'.reverse.Pairwise (· ≤ ·) := by
            have hs2 : ns'.Pairwise (· ≥ ·) := by simpa [OrdB] using hs
            exact List.pairwise_reverse.mpr (hs2.imp fun h => h)
          have e1 := sortI_is (ns'.reverse_perm.trans hp) hs'
          rw [← e1, List.reverse_reverse] at h
          exact h p _ hn (Reps.ofInts _)
    · cases he
  · cases he
variable {e : Expr} {es : List Expr} {f : Fn D} {fs : Fn (List D)} {pos p : Pos}
theorem de_len (hg : Gl X "len") (hm : X.mg "len" = none) (ha : PA X [e] (denA F fs)) (he : starEach [e] X.env = (false, eval e X.env) :: starEach [] X.env := by rfl) (hK : F.K = X.K := by rfl) : PE X (.Call (.Name "len" p) [e] [] pos) (denE F (fUn gLen fs)) :=
  de_cb call_len (by rw [← hK]; exact cal_len) hg hm PySem.boot_len ha (he := he)
theorem de_intc (hg : Gl X "int") (hm : X.mg "int" = none) (ha : PA X [e] (denA F fs)) (he : starEach [e] X.env = (false, eval e X.env) :: starEach [] X.env := by rfl) : PE X (.Call (.Name "int" p) [e] [] pos) (denE F (fUn gInt fs)) :=
  de_ct call_int1 cal_int hg hm (by decide +kernel) ha (he := he)
theorem de_max (hu : X.A.units + 1 < cLine) (hc : X.calm = true) (hg : Gl X "max") (hm : X.mg "max" = none) (ha : PA X (e :: es) (denA F fs)) (he : starEach (e :: es) X.env = (false, eval e X.env) :: starEach es X.env := by rfl) (hpl : (backTo pos (starEach es X.env)).any (·.1) = false := by rfl) (hK : F.K = X.K := by rfl) : PE X (.Call (.Name "max" p) (e :: es) [] pos) (denE F (fUn gMax fs)) :=
  de_cb ((call_max2 hc).or ((cr_max hc).or (cr_maxT hc hu))) (by rw [← hK]; exact cal_max) hg hm (by decide +kernel) ha (he := he) (hpl := hpl)
theorem de_min (hc : X.calm = true) (hg : Gl X "min") (hm : X.mg "min" = none) (ha : PA X (e :: es) (denA F fs)) (he : starEach (e :: es) X.env = (false, eval e X.env) :: starEach es X.env := by rfl) (hpl : (backTo pos (starEach es X.env)).any (·.1) = false := by rfl) (hK : F.K = X.K := by rfl) : PE X (.Call (.Name "min" p) (e :: es) [] pos) (denE F (fUn gMin fs)) :=
  de_cb ((call_min2 hc).or ((cr_min hc).or (call_min3Nu hc))) (by rw [← hK]; exact cal_min) hg hm (by decide +kernel) ha (he := he) (hpl := hpl)
theorem de_sum (hc : X.calm = true) (hg : Gl X "sum") (hm : X.mg "sum" = none) (ha : PA X [e] (denA F fs)) (he : starEach [e] X.env = (false, eval e X.env) :: starEach [] X.env := by rfl) (hK : F.K = X.K := by rfl) : PE X (.Call (.Name "sum" p) [e] [] pos) (denE F (fUn gSum fs)) :=
  de_cb ((cr_sum hc).or (cr_sumT hc)) (by rw [← hK]; exact cal_sum) hg hm (by decide +kernel) ha (he := he)
theorem de_tuple (hg : Gl X "tuple") (hm : X.mg "tuple" = none) (ha : PA X [e] (denA F fs)) (he : starEach [e] X.env = (false, eval e X.env) :: starEach [] X.env := by rfl) (hK : F.K = X.K := by rfl) : PE X (.Call (.Name "tuple" p) [e] [] pos) (denE F (fUn gTuple fs)) :=
  de_ct call_tuple_of (by rw [← hK]; exact cal_tuple) hg hm (by decide +kernel) ha (he := he)
theorem dx_list (hg : Gl X "list") (hm : X.mg "list" = none) (ha : PA X [e] (denA F fs)) (he : starEach [e] X.env = (false, eval e X.env) :: starEach [] X.env := by rfl) (hK : F.K = X.K := by rfl) : PE X (.Call (.Name "list" p) [e] [] pos) (denX F (fCx gList fs)) :=
  (pe_callTy call_list_of hg hm (by decide +kernel) ha (he := he)).imp fun _ _ _ h => den_cx (by rw [← hK]; exact cal_list) h
theorem dx_sorted (hg : Gl X "sorted") (hm : X.mg "sorted" = none) (ha : PA X [e] (denA F fs)) (he : starEach [e] X.env = (false, eval e X.env) :: starEach [] X.env := by rfl) (hK : F.K = X.K := by rfl) : PE X (.Call (.Name "sorted" p) [e] [] pos) (denX F (fCx gSorted fs)) :=
  (pe_callB cr_sortedI hg hm (by decide +kernel) ha (he := he)).imp fun _ _ _ h => den_cx (by rw [← hK]; exact cal_sorted) h
/-- sorted(xs, reverse=True) -/
theorem dx_sortedRev {kws : List Keyword} (hg : Gl X "sorted") (hm : X.mg "sorted" = none) (ha : PA X [e] (denA F fs)) (hk : PK X kws (tCons (tC (.bl true)) tNil))
    (he : backTo pos (starEach [e] X.env) = (false, eval e X.env) :: backTo pos (starEach [] X.env) := by rfl) (hpl : (backTo pos (starEach [e] X.env)).any (·.1) = false := by rfl)
    (hall : (backToKw pos (keywordEach kws X.env)).all (·.1.isSome) = true := by rfl) (hnone : (backToKw pos (keywordEach kws X.env)).any (·.1.isNone) = false := by rfl) (hks : (backToKw pos (keywordEach kws X.env)).filterMap (·.1) = [Str.ofString "reverse"] := by rfl)
    (hK : F.K = X.K := by rfl) : PE X (.Call (.Name "sorted" p) [e] kws pos) (denX F (fCx gSortedRev fs)) :=
  (pe_callBK (cr_sortedRev (b := true)) hg hm (by decide +kernel) ha hk (he := he) (hpl := hpl) (hall := hall) (hnone := hnone) (hks := hks)).imp fun σ H Q h => den_cx (r := fun vs H Q => rSortedKw X.K true [V.bl true] vs [V.bl true] H Q) (by rw [← hK]; exact cal_sortedRev) h
end
end Bx

namespace Bx
open PySem L2

/-! ### what is walked -/
def PostI (F : Fm) (W : Wd) (H : Hp) (σ : St) (r : R (List D)) (T : It → Hp → Prop) : Prop :=
  match r with
  | .ok ds S' => ∀ J Y G H' W', W'.S = S' → Gr W H W' H' → WOk W' H' → Walk J ds.length G Y → (∀ W2 H2, GrS W' H' W2 H2 → G H2) →
      (∀ i d W2 H2 x H3, GrS W' H' W2 H2 → WOk W2 H2 → ds[i]? = some d → Y i H2 x H3 → Same H2 H3 ∧ F.rep W2 H3 d x) → T J H'
  | .er x S' => ∀ cls dd H' W', W'.S = S' → Gr W H W' H' → WOk W' H' → ERep F W' H' x cls dd → F.wish cls dd σ H'
  | .no => False
def denI (F : Fm) (f : Fn (List D)) : TI := fun σ H T => ∃ ρ W, IF F W H σ ρ ∧ PostI F W H σ (f ρ W.S) T
section
variable {F : Fm} {W W' W1 : Wd} {H H' H1 : Hp} {σ : St} {ρ : Rho} {γ δ : Type} {rel2 : Wd → Hp → γ → δ → Prop} {T : It → Hp → Prop}
theorem PostI.weaken {r : R (List D)} (g : Gr W H W1 H1) (h : PostI F W H σ r T) : PostI F W1 H1 σ r T := by
  cases r with
  | ok a S => exact fun J Y G H' W' e g' ok w k1 k2 => h J Y G H' W' e (g.trans g') ok w k1 k2
  | er x S => exact fun cls dd H' W' e g' ok hr => h cls dd H' W' e (g.trans g') ok hr
  | no => exact h
theorem PostI.bind {f : R γ} {k : γ → Store → R (List D)} {Q2 : δ → Hp → Prop} (h : PostI F W H σ (f.bind k) T)
    (hk : ∀ c b H1 W1, Gr W H W1 H1 → WOk W1 H1 → rel2 W1 H1 c b → PostI F W1 H1 σ (k c W1.S) T → Q2 b H1) : Post F rel2 W H σ f Q2 := by
  cases f with
  | ok c S =>
    intro b H1 W1 e g ok hr
    have h' : PostI F W H σ (k c S) T := h
    rw [← e] at h'
    exact hk c b H1 W1 g ok hr (h'.weaken g)
  | er x S => exact h
  | no => exact h
end
theorem _root_.L2.PI.imp {X : Cx} {tg e : Expr} {t t' : TI} (h : PI X tg e t) (k : ∀ σ H Q, t' σ H Q → t σ H Q) : PI X tg e t' := ⟨fun pins s σ H R I q => h.run pins s σ H R I (k σ H R q)⟩
theorem _root_.L2.PG.imp {X : Cx} {tg : Expr} {t t' : TG} (h : PG X tg t) (k : ∀ v σ H Q, t' v σ H Q → t v σ H Q) : PG X tg t' := ⟨fun pins s σ H v u Q I r q => h.run pins s σ H v u Q I r (k v σ H Q q)⟩
theorem _root_.L2.PGs.imp {X : Cx} {tg : List Expr} {t t' : TGs} (h : PGs X tg t) (k : ∀ v σ H Q, t' v σ H Q → t v σ H Q) : PGs X tg t' := ⟨fun pins s σ H v u Q I r q => h.run pins s σ H v u Q I r (k v σ H Q q)⟩
theorem pi_seq {X : Cx} {tg l : Expr} {tl : TE} (hl : PE X l tl) : PI X tg l (fun σ H R => tl σ H fun x H1 => (∃ a xs, x = .ref a ∧ SqL X.K H1 a xs ∧ R (Itl X.K a) H1) ∨ (∃ a xs, x = .ref a ∧ SqT X.K H1 a xs ∧ R (Itt X.K a) H1)) := by
  refine ⟨fun pins s σ H R I h => ?_⟩
  refine thn (hl.run pins s σ H _ I h) fun v s1 ⟨x, H1, I1, r1, q1⟩ => ?_
  rcases q1 with ⟨a, xs, rfl, hq, q⟩ | ⟨a, xs, rfl, hq, q⟩
  · cases r1
    obtain ⟨its, rv, p, hz⟩ := I1.list hq
    refine wpAny_pyIter_list p.isList ?_
    refine ⟨s1.heap.objs.size, [s1.heap.objs.size], _, _, H1, rfl, I1.kept (t' := s1.toks) fun b o e => Heap.get?_push_of_some _ e, turn_list a _, ⟨_, Heap.get?_push_size _ rfl, rfl, rfl⟩, fun b hb => ?_, q⟩
    have e : b = s1.heap.objs.size := by simpa using hb
    subst e
    exact I1.fpOk (Nat.le_refl _) (I1.hok.fresh (Nat.le_refl _))
  · cases r1
    obtain ⟨its, rv, p, hz⟩ := I1.tuple hq
    refine wpAny_pyIter_tuple (show s1.heap.IsTuple a its.toArray from p) ?_
    refine ⟨s1.heap.objs.size, [s1.heap.objs.size], _, _, H1, rfl, I1.kept (t' := s1.toks) fun b o e => Heap.get?_push_of_some _ e, turn_tuple a _, ⟨_, Heap.get?_push_size _ rfl, rfl, rfl⟩, fun b hb => ?_, q⟩
    have e : b = s1.heap.objs.size := by simpa using hb
    subst e
    exact I1.fpOk (Nat.le_refl _) (I1.hok.fresh (Nat.le_refl _))
def gItems : D → Store → R (List D)
  | .lst xs, S => .ok xs S
  | .tup xs, S => .ok xs S
  | .scr ns, S => .ok (ns.map .int) S
  | _, _ => .no
section
variable {X : Cx} {F : Fm} {tg e e2 : Expr} {es : List Expr} {f : Fn D} {fs : Fn (List D)} {p pos : Pos}
theorem ystand {W' W2 : Wd} {H' H2 H3 : Hp} {vs : List V} {ds : List D} {i : Nat} {d : D} {x : V} (b : F.reps W' H' ds vs) (g : GrS W' H' W2 H2) (hd : ds[i]? = some d) (y : YAt vs i H2 x H3) : Same H2 H3 ∧ F.rep W2 H3 d x := by
  obtain ⟨rfl, hx⟩ := y
  obtain ⟨v, h1, h2⟩ := b.get (i := i) hd
  rw [hx] at h1
  cases h1
  exact ⟨Same.refl _, rep_gr g h2⟩
theorem stands {M : Addr → Option Nat} {H : Hp} {a : Addr} {o : HO} {W' W2 : Wd} {H2 : Hp} (h : hid W'.M H a = some o) (g : GrS W' H W2 H2) : H2 a = some o := (hid_some.mp (g.same a o h)).2
theorem di_seq (h : PE X e (denE F f)) (hK : F.K = X.K := by rfl) : PI X tg e (denI F (fUn gItems f)) := (pi_seq h).imp fun σ H T ⟨ρ, W, I, q⟩ => ⟨ρ, W, I, q.bind fun d v H1 W1 g ok r q1 => by
  unfold gItems at q1
  split at q1
  · cases r with
    | @lst a vs _ h1 h2 =>
      refine .inl ⟨a, vs, rfl, SqL.of (hid_le _ _ h1), ?_⟩
      refine q1 _ (YAt vs) (fun H => SqL X.K H a vs) H1 W1 rfl (Gr.refl _ _) ok (by rw [h2.len]; exact walk_list) (fun W2 H2 g2 => SqL.of (stands (M := W1.M) h1 g2)) fun i d W2 H2 x H3 g2 _ hd y => ystand h2 g2 hd y
  · cases r with
    | @tup a vs _ h1 h2 =>
      refine .inr ⟨a, vs, rfl, SqT.of (hid_le _ _ h1), ?_⟩
      refine q1 _ (YAt vs) (fun H => SqT X.K H a vs) H1 W1 rfl (Gr.refl _ _) ok (by rw [h2.len]; exact walk_tup) (fun W2 H2 g2 => SqT.of (stands (M := W1.M) h1 g2)) fun i d W2 H2 x H3 g2 _ hd y => ystand h2 g2 hd y
  · rename_i xs
    cases r with
    | @scr a _ h1 =>
      have h2 : F.reps W1 H1 (xs.map D.int) (xs.map V.int) := Reps.ofInts _
      refine .inl ⟨a, xs.map V.int, rfl, sql_mono hid_le (by rw [← hK]; exact h1), ?_⟩
      refine q1 _ (YAt (xs.map V.int)) (fun H => SqL X.K H a (xs.map V.int)) H1 W1 rfl (Gr.refl _ _) ok (by rw [h2.len]; exact walk_list) (fun W2 H2 g2 => sql_mono hid_le (sql_mono g2.same (by rw [← hK]; exact h1))) fun i d W2 H2 x H3 g2 _ hd y => ystand h2 g2 hd y
  · exact q1.elim⟩
def rangeD (lo : Int) (n : Nat) : List D := (List.range n).map fun (k : Nat) => .int (lo + k)
def gRange1 : List D → Store → R (List D)
  | [.int j], S => if -1000000 ≤ j ∧ j ≤ 1000000 then .ok (rangeD 0 j.toNat) S else .no
  | _, _ => .no
def gRange2 : List D → Store → R (List D)
  | [.int i, .int j], S => if -1000000 ≤ i ∧ i ≤ 1000000 ∧ -1000000 ≤ j ∧ j ≤ 1000000 then .ok (rangeD i (j - i).toNat) S else .no
  | _, _ => .no
theorem rangeD_len {lo : Int} {n : Nat} : (rangeD lo n).length = n := by simp [rangeD]
theorem yrange {lo : Int} {n i : Nat} {d : D} {W2 : Wd} {H2 H3 : Hp} {x : V} (hd : (rangeD lo n)[i]? = some d) (y : YFn (fun i => V.int (lo + i)) i H2 x H3) : Same H2 H3 ∧ F.rep W2 H3 d x := by
  obtain ⟨rfl, rfl⟩ := y
  unfold rangeD at hd
  rw [List.getElem?_map] at hd
  obtain ⟨k, hk, rfl⟩ := Option.map_eq_some_iff.mp hd
  obtain ⟨hi, e⟩ := List.getElem?_eq_some_iff.mp hk
  rw [List.getElem_range] at e
  subst e
  exact ⟨Same.refl _, .int _⟩
theorem di_range1 (hg : Gl X "range") (hm : X.mg "range" = none) (ha : PA X [e] (denA F fs)) (hs : starEach [e] X.env = [(false, eval e X.env)] := by rfl) : PI X tg (.Call (.Name "range" p) [e] [] pos) (denI F (fUn gRange1 fs)) :=
  (pi_range1 hg hm ha hs).imp fun σ H T ⟨ρ, W, I, q⟩ => ⟨ρ, W, I, q.bind fun ds v H1 W1 g ok r q1 => by
    unfold gRange1 at q1
    split at q1
    · split at q1
      · rename_i hz
        cases r with
        | cons r1 r2 =>
          cases r2; cases r1
          refine ⟨_, rfl, by omega, by omega, ?_⟩
          exact q1 _ _ _ H1 W1 rfl (Gr.refl _ _) ok (by rw [rangeD_len]; exact walk_range) (fun _ _ _ => trivial) fun i d W2 H2 x H3 g2 _ hd y => yrange hd y
      · exact q1.elim
    · exact q1.elim⟩
theorem di_range2 (hg : Gl X "range") (hm : X.mg "range" = none) (ha : PA X [e, e2] (denA F fs)) (hs : starEach [e, e2] X.env = [(false, eval e X.env), (false, eval e2 X.env)] := by rfl) (hs2 : starEach [e2] X.env = [(false, eval e2 X.env)] := by rfl) :
    PI X tg (.Call (.Name "range" p) [e, e2] [] pos) (denI F (fUn gRange2 fs)) :=
  (pi_range2 hg hm ha hs hs2).imp fun σ H T ⟨ρ, W, I, q⟩ => ⟨ρ, W, I, q.bind fun ds v H1 W1 g ok r q1 => by
    unfold gRange2 at q1
    split at q1
    · split at q1
      · rename_i hz
        cases r with
        | cons r1 r2 =>
          cases r2 with
          | cons r3 r4 =>
            cases r4; cases r1; cases r3
            refine ⟨_, _, rfl, ⟨by omega, by omega, by omega, by omega⟩, ?_⟩
            exact q1 _ _ _ H1 W1 rfl (Gr.refl _ _) ok (by rw [rangeD_len]; exact walk_range) (fun _ _ _ => trivial) fun i d W2 H2 x H3 g2 _ hd y => yrange hd y
      · exact q1.elim
    · exact q1.elim⟩
def gEnum : List D → Store → R (List D)
  | [.lst xs], S => .ok (xs.zipIdx.map fun p => .tup [.int p.2, p.1]) S
  | _, _ => .no
theorem ypair {W2 : Wd} {H2 H3 : Hp} {v : V} {xs ys : Nat → Option V} {i : Nat} {a b : D} (ok : WOk W2 H2) (y : YPair xs ys i H2 v H3) (h1 : ∀ x, xs i = some x → F.rep W2 H2 a x) (h2 : ∀ x, ys i = some x → F.rep W2 H2 b x) : Same H2 H3 ∧ F.rep W2 H3 (.tup [a, b]) v := by
  obtain ⟨T, x, z, rfl, hT, rfl, e1, e2⟩ := y
  exact ⟨same_new hT, rep_tup ok hT (.cons (h1 x e1) (.cons (h2 z e2) .nil))⟩
variable {elts : List Expr} {kk : Nat} {tpos : Pos}
theorem di_enum (hg : Gl X "enumerate") (hm : X.mg "enumerate" = none) (ha : PA X [e] (denA F fs)) (hs : starEach [e] X.env = [(false, eval e X.env)] := by rfl) (hK : F.K = X.K := by rfl) :
    PI X (.Tuple elts kk tpos) (.Call (.Name "enumerate" p) [e] [] pos) (denI F (fUn gEnum fs)) := (pi_enum hg hm ha hs).imp fun σ H T ⟨ρ, W, I, q⟩ => ⟨ρ, W, I, q.bind fun ds v H1 W1 g ok r q1 => by
    unfold gEnum at q1
    split at q1
    · cases r with
      | cons r1 r2 =>
        cases r2
        cases r1 with
        | @lst a vs _ h1 h2 =>
          refine ⟨a, vs, rfl, SqL.of (hid_le _ _ h1), ?_⟩
          refine q1 _ _ (fun H => SqL X.K H a vs) H1 W1 rfl (Gr.refl _ _) ok (by rw [List.length_map, List.length_zipIdx, h2.len]; exact walk_enum) (fun W2 H2 g2 => SqL.of (stands (M := W1.M) h1 g2)) fun i d W2 H2 x H3 g2 ok2 hd y => ?_
          rw [List.getElem?_map, List.getElem?_zipIdx] at hd
          obtain ⟨⟨d', j⟩, hd', rfl⟩ := Option.map_eq_some_iff.mp hd
          obtain ⟨d'', hd'', e⟩ := Option.map_eq_some_iff.mp hd'
          cases e
          refine ypair ok2 y (fun x e => ?_) fun x e => ?_
          · cases e
            rw [Nat.zero_add]
            exact .int _
          · obtain ⟨v', e1, e2⟩ := h2.get (i := i) hd''
            rw [e] at e1; cases e1
            exact rep_gr g2 e2
    · exact q1.elim⟩
def gZip : List D → Store → R (List D)
  | [.lst xs, .lst ys], S => .ok ((xs.zip ys).map fun p => .tup [p.1, p.2]) S
  | [.tup xs, .tup ys], S => .ok ((xs.zip ys).map fun p => .tup [p.1, p.2]) S
  | [.tup xs, .lst ys], S => .ok ((xs.zip ys).map fun p => .tup [p.1, p.2]) S
  | _, _ => .no
/-! zip of a tuple with a list -/
def ItzM (K : PySem.W.Frag) (a b : Addr) : It :=
  ⟨fun i H => ∃ (xs ys : List V) (x y : V), SqT K H a xs ∧ SqL K H b ys ∧ xs[i]? = some x ∧ ys[i]? = some y,
    fun i H v H' => ∃ T x y, v = .ref T ∧ H T = none ∧ H' = upd H T (.tup [x, y]) ∧ (∀ xs, SqT K H a xs → xs[i]? = some x) ∧ ∀ ys, SqL K H b ys → ys[i]? = some y,
    fun i H => ∃ xs ys : List V, SqT K H a xs ∧ SqL K H b ys ∧ i = min xs.length ys.length⟩
theorem sep_of {z TI TO i1 i2 a b : Addr} (D : ZipApart z TI TO i1 i2 a b) : ZipSep2 z TI TO i1 i2 [i1, a] [i2, b] where
  TIz := D.TIz
  TOz := D.TOz
  TITO := D.TITO
  TIi1 := D.TIi1
  mem1 := by simp
  zf1 := by simp; exact ⟨D.i1z.symm, D.l1z.symm⟩
  Tf1 := by simp; exact ⟨D.TOi1, D.l1TO.symm⟩
  TIi2 := D.TIi2
  mem2 := by simp
  zf2 := by simp; exact ⟨D.i2z.symm, D.l2z.symm⟩
  Tf2 := by simp; exact ⟨D.TOi2, D.l2TO.symm⟩
  sep1_2 := by simp; exact ⟨D.i12, D.l2i1.symm⟩
  sep2_1 := by simp; exact ⟨D.i12.symm, D.l1i2.symm⟩
theorem turn_zipM {P : Program} {w : World} {K : PySem.W.Frag} {elts : List Expr} {kk : Nat} {tpos : Pos} {a b z TI TO i1 i2 : Addr} (D : ZipApart z TI TO i1 i2 a b) :
    Turn P w K (.Tuple elts kk tpos) (ItzM K a b) [z, TI, TO, i1, i2] z (fun i h => IsZip h z TI TO .none ∧ IsTupOf2 h TI (.ref i1) (.ref i2) ∧ (∃ x y, IsTupOf2 h TO x y) ∧ h.IsTupleIter i1 a i ∧ h.IsListIter i2 b i) where
  mem := by simp
  obj := fun i h st c hc => by
    obtain ⟨hz, hTI, ⟨x, y, hTO⟩, ⟨o1, e1, _, d1⟩, ⟨o2, e2, _, d2⟩⟩ := st
    simp only [List.mem_cons, List.not_mem_nil, or_false] at hc
    rcases hc with rfl | rfl | rfl | rfl | rfl
    · exact ⟨_, hz, fun v q => nomatch q⟩
    · exact ⟨_, hTI, fun v q => nomatch q⟩
    · exact ⟨_, hTO, fun v q => nomatch q⟩
    · exact ⟨o1, e1, fun v q => by rw [d1] at q; cases q⟩
    · exact ⟨o2, e2, fun v q => by rw [d2] at q; cases q⟩
  keep := fun i h h' st k => by
    obtain ⟨hz, hTI, ⟨x, y, hTO⟩, h1, h2⟩ := st
    exact ⟨k z (by simp) _ hz, k TI (by simp) _ hTI, ⟨x, y, k TO (by simp) _ hTO⟩, h1.at fun o q => k i1 (by simp) o q, h2.at fun o q => k i2 (by simp) o q⟩
  item := by
    intro X hP hw hK hc i pins s σ H E I hf st hg
    subst hP hw hK
    obtain ⟨hz, hTI, ⟨x0, y0, hTO⟩, h1, h2⟩ := st
    obtain ⟨xs, ys, x, y, hqx, hqy, hx, hy⟩ := hg
    obtain ⟨its, rv, p, _⟩ := I.tuple hqx
    obtain ⟨its2, rv2, p2, _⟩ := I.list hqy
    obtain ⟨u, hu, ru⟩ := rv.get hx
    obtain ⟨u2, hu2, ru2⟩ := rv2.get hy
    have hzl : z < s.heap.objs.size := Heap.lt_size hz
    have n1 : i < its.toArray.size := by simpa using (List.getElem?_eq_some_iff.mp hu).1
    have n2 : i < its2.toArray.size := by simpa using (List.getElem?_eq_some_iff.mp hu2).1
    refine wpAny_pyNext_zipD2_item (sep_of D) (Draws.tuple (prog := X.prog) (w := X.w) (A := X.A.in1) (I.ok.hd hc) i1 a D.l1i1 its.toArray) (Draws.list (prog := X.prog) (w := X.w) (A := X.A.in1) (I.ok.hd hc) i2 b D.l2i2 its2.toArray) hz hTI hTO ⟨h1, p⟩ ⟨h2, p2.isList⟩ n1 n2 fun x1 x2 h' tk e1 e2 z' TO' d1 d2 hT hsz hk => ?_
    obtain rfl : u = x1 := by
      have e1 : its.toArray[i]? = some x1 := e1
      simp at e1
      rw [hu] at e1
      exact Option.some.inj e1
    obtain rfl : u2 = x2 := by
      have e2 : its2.toArray[i]? = some x2 := e2
      simp at e2
      rw [hu2] at e2
      exact Option.some.inj e2
    refine ⟨_, rfl, wpAny_letOwnedTupleGo_zip (s := { s with heap := h', toks := tk }) z' fun h'' z'' sb => ?_⟩
    have hT2 : h''.get? s.heap.objs.size = some { cls := .type "tuple", data := .seq #[u, u2] } := (sb.2 _ (Nat.ne_of_gt hzl)).trans hT
    have new : ObjOk X.prog X.w (upd H s.heap.objs.size (.tup [x, y])) h'' s.heap.objs.size (.tup [x, y]) :=
      ⟨by show 2 ≤ sizeLine; decide, [u, u2], .cons ru (.cons ru2 .nil), ⟨_, hT2, rfl, _, rfl⟩⟩
    have I1 : Inv X pins σ (upd H s.heap.objs.size (.tup [x, y])) { s with heap := h'', toks := tk } :=
      I.turnedNew (t' := tk) (ch := [z, TI, TO, i1, i2]) (fun c o hb q => (sb.2 c (fun q' => hb (by simp [q']))).trans (hk c o (fun q' => hb (by simp [q'])) (fun q' => hb (by simp [q'])) (fun q' => hb (by simp [q'])) (fun q' => hb (by simp [q'])) q)) hf (Nat.le_refl _) new
    refine ⟨.ref s.heap.objs.size, _, I1, rfl, ⟨_, x, y, rfl, I.hok.fresh (Nat.le_refl _), rfl, fun l hl => by rw [I.tuple_inj hl hqx]; exact hx, fun l hl => by rw [I.list_inj hl hqy]; exact hy⟩, ⟨z'', ?_, ⟨u, u2, ?_⟩, ?_, ?_⟩, fun c hcm => ?_⟩
    · exact (sb.2 _ D.TIz).trans (hk _ _ D.TIz D.TITO D.TIi1 D.TIi2 hTI)
    · exact (sb.2 _ D.TOz).trans TO'
    · exact d1.1.at fun o q => (sb.2 _ D.i1z).trans q
    · exact d2.1.at fun o q => (sb.2 _ D.i2z).trans q
    · have hlt : c < s.heap.objs.size := by
        simp only [List.mem_cons, List.not_mem_nil, or_false] at hcm
        rcases hcm with q | q | q | q | q
        · rw [q]; exact hzl
        · rw [q]; exact Heap.lt_size hTI
        · rw [q]; exact Heap.lt_size hTO
        · rw [q]; obtain ⟨_, e1, _⟩ := h1; exact Heap.lt_size e1
        · rw [q]; obtain ⟨_, e2, _⟩ := h2; exact Heap.lt_size e2
      rw [upd_ne (Nat.ne_of_lt hlt)]
      exact (hf c hcm).1
  done := by
    intro X hP hw hK hc i pins s σ H E I hf st hg
    subst hP hw hK
    obtain ⟨hz, hTI, ⟨x0, y0, hTO⟩, h1, h2⟩ := st
    obtain ⟨xs, ys, hqx, hqy, hend⟩ := hg
    obtain ⟨its, rv, p, _⟩ := I.tuple hqx
    obtain ⟨its2, rv2, p2, _⟩ := I.list hqy
    have l1 := rv.length
    have l2 := rv2.length
    exact wpAny_pyNext_zipD2_end (sep_of D) (Draws.tuple (prog := X.prog) (w := X.w) (A := X.A.in1) (I.ok.hd hc) i1 a D.l1i1 its.toArray) (Draws.list (prog := X.prog) (w := X.w) (A := X.A.in1) (I.ok.hd hc) i2 b D.l2i2 its2.toArray) hz hTI hTO ⟨h1, p⟩ ⟨h2, p2.isList⟩ (by simp; omega) (by simp; omega) (by simp; omega) fun h' tk hk =>
      ⟨rfl, I.turnedL (t' := tk) (ch := [z, TI, TO, i1, i2]) (fun c o hb q => hk c o (fun q' => hb (by simp [q'])) (fun q' => hb (by simp [q'])) (fun q' => hb (by simp [q'])) (fun q' => hb (by simp [q'])) q) hf⟩
  self := fun A i s Q E st h => wpAny_pyIter_zip st.1 h
theorem walk_zipT {K : PySem.W.Frag} {a b : Addr} {xs ys : List V} {n : Nat} (hn : n = min xs.length ys.length) : Walk (RZ.ItzT K a b) n (fun H => SqT K H a xs ∧ SqT K H b ys) (YPair (fun i => xs[i]?) (fun i => ys[i]?)) := by
  subst hn
  refine ⟨fun i _ hi q => ?_, fun _ q => ⟨xs, ys, q.1, q.2, by omega⟩, fun i H v H' _ q y => ?_⟩
  · have h1 : i < xs.length := by omega
    have h2 : i < ys.length := by omega
    exact ⟨xs, ys, xs[i], ys[i], q.1, q.2, by simp [h1], by simp [h2]⟩
  · obtain ⟨T, x, z, h1, h2, h3, h4, h5⟩ := y
    exact ⟨T, x, z, h1, h2, h3, h4 xs q.1, h5 ys q.2⟩
theorem walk_zipM {K : PySem.W.Frag} {a b : Addr} {xs ys : List V} {n : Nat} (hn : n = min xs.length ys.length) : Walk (ItzM K a b) n (fun H => SqT K H a xs ∧ SqL K H b ys) (YPair (fun i => xs[i]?) (fun i => ys[i]?)) := by
  subst hn
  refine ⟨fun i _ hi q => ?_, fun _ q => ⟨xs, ys, q.1, q.2, rfl⟩, fun i H v H' _ q y => ?_⟩
  · have h1 : i < xs.length := by omega
    have h2 : i < ys.length := by omega
    exact ⟨xs, ys, xs[i], ys[i], q.1, q.2, by simp [h1], by simp [h2]⟩
  · obtain ⟨T, x, z, h1, h2, h3, h4, h5⟩ := y
    exact ⟨T, x, z, h1, h2, h3, h4 xs q.1, h5 ys q.2⟩
/-- zip of two lists, of two tuples, of a tuple with a list -/
def iZipB (K : PySem.W.Frag) (ta : TA) : TI := fun σ H R => ta σ H fun vs H1 => ∃ a b xs ys, vs = [.ref a, .ref b] ∧ ((SqL K H1 a xs ∧ SqL K H1 b ys ∧ R (Itz K a b) H1) ∨ (SqT K H1 a xs ∧ SqT K H1 b ys ∧ R (RZ.ItzT K a b) H1) ∨ (SqT K H1 a xs ∧ SqL K H1 b ys ∧ R (ItzM K a b) H1))
theorem pi_zipB {X : Cx} {e e2 : Expr} {ta : TA} {p pos tpos : Pos} {elts : List Expr} {kk : Nat} (hg : Gl X "zip") (hm : X.mg "zip" = none) (ha : PA X [e, e2] ta)
    (hs : starEach [e, e2] X.env = (false, eval e X.env) :: starEach [e2] X.env := by rfl) (hpl : (backTo pos (starEach [e2] X.env)).any (·.1) = false := by rfl) :
    PI X (.Tuple elts kk tpos) (.Call (.Name "zip" p) [e, e2] [] pos) (iZipB X.K ta) := by
  refine ⟨fun pins s σ H R I h => ?_⟩
  refine PyProof.Rows.Call_ (ld_blt I hg hm PyProof.Rows.boot_zip (PyProof.Rows.callWith_type1 (thn (ha.run pos pins s σ H _ I h) fun us s1 ⟨vs, H1, I1, r1, q1⟩ => ?_) hs hpl))
  obtain ⟨a, b, xs, ys, rfl, q1⟩ := q1
  obtain ⟨w1, w2, rfl, e1, e2⟩ := vals2 r1
  obtain rfl : w1 = Value.ref a := e1
  obtain rfl : w2 = Value.ref b := e2
  have fresh5 : ∀ c, c ∈ [s1.heap.objs.size + 4, s1.heap.objs.size + 2, s1.heap.objs.size + 3, s1.heap.objs.size, s1.heap.objs.size + 1] → FpOk X pins H1 c := fun c hcm => by
    have hle : s1.heap.objs.size ≤ c := by
      simp only [List.mem_cons, List.not_mem_nil, or_false] at hcm
      have hcm : c = s1.heap.objs.size + 4 ∨ c = s1.heap.objs.size + 2 ∨ c = s1.heap.objs.size + 3 ∨ c = s1.heap.objs.size ∨ c = s1.heap.objs.size + 1 := hcm
      rcases hcm with z | z | z | z | z <;> rw [z] <;> first | exact Nat.le_refl _ | exact Nat.le_add_right _ _
    exact I1.fpOk hle (I1.hok.fresh hle)
  rcases q1 with ⟨hqx, hqy, q⟩ | ⟨hqx, hqy, q⟩ | ⟨hqx, hqy, q⟩
  · obtain ⟨its, rv, p1, _⟩ := I1.list hqx
    obtain ⟨its2, rv2, p2, _⟩ := I1.list hqy
    refine call_zip_2 p1.isList p2.isList fun h' hz hTI hTO h1 h2 hsz hk => wpAny_pyIter_zip hz ?_
    exact ⟨s1.heap.objs.size + 4, [s1.heap.objs.size + 4, s1.heap.objs.size + 2, s1.heap.objs.size + 3, s1.heap.objs.size, s1.heap.objs.size + 1], _, _, H1, rfl, I1.kept (t' := s1.toks) hk, turn_zip (PySem.W.ktu_apart s1.heap.objs.size a b p1.lt p2.lt), ⟨hz, hTI, ⟨_, _, hTO⟩, h1, h2⟩, fresh5, q⟩
  · obtain ⟨its, rv, p1, _⟩ := I1.tuple hqx
    obtain ⟨its2, rv2, p2, _⟩ := I1.tuple hqy
    obtain ⟨o1, ho1, _⟩ := id p1
    obtain ⟨o2, ho2, _⟩ := id p2
    refine RZ.call_zipT (show s1.heap.IsTuple a its.toArray from p1) (show s1.heap.IsTuple b its2.toArray from p2) fun h' hz hTI hTO h1 h2 hsz hk => wpAny_pyIter_zip hz ?_
    exact ⟨s1.heap.objs.size + 4, [s1.heap.objs.size + 4, s1.heap.objs.size + 2, s1.heap.objs.size + 3, s1.heap.objs.size, s1.heap.objs.size + 1], _, _, H1, rfl, I1.kept (t' := s1.toks) hk, RZ.turn_zipT (PySem.W.ktu_apart s1.heap.objs.size a b (Heap.lt_size ho1) (Heap.lt_size ho2)), ⟨hz, hTI, ⟨_, _, hTO⟩, h1, h2⟩, fresh5, q⟩
  · obtain ⟨its, rv, p1, _⟩ := I1.tuple hqx
    obtain ⟨its2, rv2, p2, _⟩ := I1.list hqy
    obtain ⟨o1, ho1, _⟩ := id p1
    refine zip_begins2 (begins_tuple a its.toArray) (begins_list b its2.toArray) p1 p2.isList fun h' hz hTI hTO g1 g2 hsz hk => wpAny_pyIter_zip hz ?_
    exact ⟨s1.heap.objs.size + 4, [s1.heap.objs.size + 4, s1.heap.objs.size + 2, s1.heap.objs.size + 3, s1.heap.objs.size, s1.heap.objs.size + 1], _, _, H1, rfl, I1.kept (t' := s1.toks) hk, turn_zipM (PySem.W.ktu_apart s1.heap.objs.size a b (Heap.lt_size ho1) p2.lt), ⟨hz, hTI, ⟨_, _, hTO⟩, ⟨_, g1, rfl, rfl⟩, ⟨_, g2, rfl, rfl⟩⟩, fresh5, q⟩
theorem yzip {W1 W2 : Wd} {H1 H2 H3 : Hp} {vs ws : List V} {xs ys : List D} {i : Nat} {d : D} {x : V} (ok : WOk W2 H2) (b1 : F.reps W1 H1 xs vs) (b2 : F.reps W1 H1 ys ws) (g : GrS W1 H1 W2 H2) (hd : ((xs.zip ys).map fun p => D.tup [p.1, p.2])[i]? = some d)
    (y : YPair (fun i => vs[i]?) (fun i => ws[i]?) i H2 x H3) : Same H2 H3 ∧ F.rep W2 H3 d x := by
  rw [List.getElem?_map] at hd
  obtain ⟨⟨d1, d2⟩, hd', rfl⟩ := Option.map_eq_some_iff.mp hd
  rw [List.getElem?_zip_eq_some] at hd'
  refine ypair ok y (fun x e => ?_) fun x e => ?_
  · obtain ⟨v', e1, e2⟩ := b1.get (i := i) hd'.1
    rw [e] at e1; cases e1
    exact rep_gr g e2
  · obtain ⟨v', e1, e2⟩ := b2.get (i := i) hd'.2
    rw [e] at e1; cases e1
    exact rep_gr g e2
theorem di_zip (hg : Gl X "zip") (hm : X.mg "zip" = none) (ha : PA X [e, e2] (denA F fs)) (hs : starEach [e, e2] X.env = (false, eval e X.env) :: starEach [e2] X.env := by rfl) (hpl : (backTo pos (starEach [e2] X.env)).any (·.1) = false := by rfl) (hK : F.K = X.K := by rfl) :
    PI X (.Tuple elts kk tpos) (.Call (.Name "zip" p) [e, e2] [] pos) (denI F (fUn gZip fs)) := (pi_zipB hg hm ha hs hpl).imp fun σ H T ⟨ρ, W, I, q⟩ => ⟨ρ, W, I, q.bind fun ds v H1 W1 g ok r q1 => by
    unfold gZip at q1
    split at q1
    · cases r with
      | cons r1 r2 =>
        cases r2 with
        | cons r3 r4 =>
          cases r4
          cases r1 with
          | @lst a vs _ h1 h2 =>
            cases r3 with
            | @lst b ws _ h3 h4 =>
              refine ⟨a, b, vs, ws, rfl, .inl ⟨SqL.of (hid_le _ _ h1), SqL.of (hid_le _ _ h3), ?_⟩⟩
              exact q1 _ _ (fun H => SqL X.K H a vs ∧ SqL X.K H b ws) H1 W1 rfl (Gr.refl _ _) ok (by rw [List.length_map, List.length_zip, h2.len, h4.len]; exact walk_zip rfl) (fun W2 H2 g2 => ⟨SqL.of (stands (M := W1.M) h1 g2), SqL.of (stands (M := W1.M) h3 g2)⟩) fun i d W2 H2 x H3 g2 ok2 hd y => yzip ok2 h2 h4 g2 hd y
    · cases r with
      | cons r1 r2 =>
        cases r2 with
        | cons r3 r4 =>
          cases r4
          cases r1 with
          | @tup a vs _ h1 h2 =>
            cases r3 with
            | @tup b ws _ h3 h4 =>
              refine ⟨a, b, vs, ws, rfl, .inr (.inl ⟨SqT.of (hid_le _ _ h1), SqT.of (hid_le _ _ h3), ?_⟩)⟩
              exact q1 _ _ (fun H => SqT X.K H a vs ∧ SqT X.K H b ws) H1 W1 rfl (Gr.refl _ _) ok (by rw [List.length_map, List.length_zip, h2.len, h4.len]; exact walk_zipT rfl) (fun W2 H2 g2 => ⟨SqT.of (stands (M := W1.M) h1 g2), SqT.of (stands (M := W1.M) h3 g2)⟩) fun i d W2 H2 x H3 g2 ok2 hd y => yzip ok2 h2 h4 g2 hd y
    · cases r with
      | cons r1 r2 =>
        cases r2 with
        | cons r3 r4 =>
          cases r4
          cases r1 with
          | @tup a vs _ h1 h2 =>
            cases r3 with
            | @lst b ws _ h3 h4 =>
              refine ⟨a, b, vs, ws, rfl, .inr (.inr ⟨SqT.of (hid_le _ _ h1), SqL.of (hid_le _ _ h3), ?_⟩)⟩
              exact q1 _ _ (fun H => SqT X.K H a vs ∧ SqL X.K H b ws) H1 W1 rfl (Gr.refl _ _) ok (by rw [List.length_map, List.length_zip, h2.len, h4.len]; exact walk_zipM rfl) (fun W2 H2 g2 => ⟨SqT.of (stands (M := W1.M) h1 g2), SqL.of (stands (M := W1.M) h3 g2)⟩) fun i d W2 H2 x H3 g2 ok2 hd y => yzip ok2 h2 h4 g2 hd y
    · exact q1.elim⟩
end

/-! ### targets -/
theorem wipe_get (σ : L2.St) (j : Nat) : ∀ vs : List Nat, (wipe σ vs)[j]? = if j ∈ vs then (σ[j]?).map (fun _ => none) else σ[j]?
  | [] => by simp [wipe]
  | v :: vs => by
    unfold wipe
    by_cases h : v = j
    · subst h
      rw [List.getElem?_set_self']
      rw [wipe_get σ v vs]
      by_cases h2 : v ∈ vs
      · simp only [h2, List.mem_cons, or_true, if_true]
        cases σ[v]? <;> rfl
      · simp only [h2, List.mem_cons, true_or, if_true, if_false]
        cases σ[v]? <;> rfl
    · rw [List.getElem?_set_ne h, wipe_get σ j vs]
      have : j ∈ v :: vs ↔ j ∈ vs := by simp [Ne.symm h]
      simp only [this]
theorem wipe_set {σ : L2.St} {i : Nat} {x : Option V} {vs : List Nat} (h : i ∈ vs) : wipe (σ.set i x) vs = wipe σ vs := by
  apply List.ext_getElem?
  intro j
  rw [wipe_get, wipe_get]
  by_cases e : i = j
  · subst e
    simp only [h, if_true, List.getElem?_set_self']
    cases σ[i]? <;> rfl
  · rw [List.getElem?_set_ne e]
def wipeR (ρ : Rho) : List Nat → Rho
  | [] => ρ
  | v :: vs => (wipeR ρ vs).set v .un
theorem wipeR_len (ρ : Rho) : ∀ vs, (wipeR ρ vs).length = ρ.length
  | [] => rfl
  | v :: vs => by unfold wipeR; rw [List.length_set, wipeR_len ρ vs]
theorem wipeR_get {ρ : Rho} {j : Nat} {s : Sl} (hs : s ≠ .un) : ∀ {vs : List Nat}, (wipeR ρ vs)[j]? = some s → ρ[j]? = some s ∧ j ∉ vs
  | [], h => ⟨h, by simp⟩
  | v :: vs, h => by
    unfold wipeR at h
    by_cases e : v = j
    · subst e
      rw [List.getElem?_set_self'] at h
      cases q : (wipeR ρ vs)[v]? with
      | none => rw [q] at h; cases h
      | some u => rw [q] at h; cases h; exact absurd rfl hs
    · rw [List.getElem?_set_ne e] at h
      obtain ⟨h1, h2⟩ := wipeR_get hs h
      exact ⟨h1, by simp only [List.mem_cons, not_or]; exact ⟨fun z => e z.symm, h2⟩⟩
section
variable {F : Fm} {W W' : Wd} {H H' : Hp} {σ : L2.St} {ρ : Rho}
theorem EnvOk.wipe (e : EnvOk F W H σ ρ) (vs : List Nat) : EnvOk F W H (wipe σ vs) (wipeR ρ vs) where
  len := by rw [wipeR_len, wipe_length, e.len]
  fz := fun i d h => by
    obtain ⟨h1, h2⟩ := wipeR_get (by simp) h
    obtain ⟨v, a, b⟩ := e.fz i d h1
    exact ⟨v, by rw [wipe_get, if_neg h2]; exact a, b⟩
  ow := fun i d h => by
    obtain ⟨h1, h2⟩ := wipeR_get (by simp) h
    obtain ⟨p, vs', a, b⟩ := e.ow i d h1
    exact ⟨p, vs', by rw [wipe_get, if_neg h2]; exact a, b⟩
  dj := fun i j ds es p h1 h2 h3 h4 => by
    obtain ⟨a1, a2⟩ := wipeR_get (by simp) h1
    obtain ⟨b1, b2⟩ := wipeR_get (by simp) h2
    rw [wipe_get, if_neg a2] at h3
    rw [wipe_get, if_neg b2] at h4
    exact e.dj i j ds es p a1 b1 h3 h4
  nw := fun i c ns xs h => by
    obtain ⟨h1, h2⟩ := wipeR_get (by simp) h
    obtain ⟨p, C, dx, vs', a, b⟩ := e.nw i c ns xs h1
    exact ⟨p, C, dx, vs', by rw [wipe_get, if_neg h2]; exact a, b⟩
  ex := fun i x h => by
    obtain ⟨h1, h2⟩ := wipeR_get (by simp) h
    obtain ⟨p, cls, dd, a, b, c⟩ := e.ex i x h1
    exact ⟨p, cls, dd, a, by rw [wipe_get, if_neg h2]; exact b, c⟩
  tk := e.tk
/-- a slot gets a datum seen by all -/
theorem EnvOk.set (e : EnvOk F W H σ ρ) {i : Nat} {d : D} {v : V} (r : F.rep W H d v) (hi : i < ρ.length) : EnvOk F W H (σ.set i (some v)) (ρ.set i (.fz d)) where
  len := by rw [List.length_set, List.length_set, e.len]
  fz := fun j d' h => by
    by_cases z : i = j
    · subst z
      rw [List.getElem?_set_self hi] at h
      cases h
      exact ⟨v, by rw [List.getElem?_set_self (by rw [← e.len]; exact hi)], r⟩
    · rw [List.getElem?_set_ne z] at h ⊢
      exact e.fz j d' h
  ow := fun j d' h => by
    by_cases z : i = j
    · subst z
      rw [List.getElem?_set_self hi] at h
      cases h
    · rw [List.getElem?_set_ne z] at h ⊢
      exact e.ow j d' h
  dj := fun j k ds es p h1 h2 h3 h4 => by
    by_cases z : i = j
    · subst z
      rw [List.getElem?_set_self hi] at h1
      cases h1
    · by_cases z2 : i = k
      · subst z2
        rw [List.getElem?_set_self hi] at h2
        cases h2
      · rw [List.getElem?_set_ne z] at h1 h3
        rw [List.getElem?_set_ne z2] at h2 h4
        exact e.dj j k ds es p h1 h2 h3 h4
  nw := fun j c ns xs h => by
    by_cases z : i = j
    · subst z
      rw [List.getElem?_set_self hi] at h
      cases h
    · rw [List.getElem?_set_ne z] at h ⊢
      exact e.nw j c ns xs h
  ex := fun j x h => by
    by_cases z : i = j
    · subst z
      rw [List.getElem?_set_self hi] at h
      cases h
    · rw [List.getElem?_set_ne z] at h
      obtain ⟨p, cls, dd, a, b, c⟩ := e.ex j x h
      exact ⟨p, cls, dd, a, by rw [List.getElem?_set_ne z]; exact b, c⟩
  tk := e.tk
/-- a slot gets a list of its own -/
theorem EnvOk.setOw (e : EnvOk F W H σ ρ) {i : Nat} {ds : List D} {p : Addr} {vs : List V} (hm : W.M p = some 0) (h0 : F.H0 p = none) (hp : H p = some (.lst vs)) (r : F.reps W H ds vs) (hi : i < ρ.length)
    (hn : ∀ j es, j ≠ i → ρ[j]? = some (.ow es) → σ[j]? ≠ some (some (.ref p))) : EnvOk F W H (σ.set i (some (.ref p))) (ρ.set i (.ow ds)) where
  len := by rw [List.length_set, List.length_set, e.len]
  fz := fun j d' h => by
    by_cases z : i = j
    · subst z
      rw [List.getElem?_set_self hi] at h
      cases h
    · rw [List.getElem?_set_ne z] at h ⊢
      exact e.fz j d' h
  ow := fun j d' h => by
    by_cases z : i = j
    · subst z
      rw [List.getElem?_set_self hi] at h
      cases h
      exact ⟨p, vs, by rw [List.getElem?_set_self (by rw [← e.len]; exact hi)], hm, h0, hp, r⟩
    · rw [List.getElem?_set_ne z] at h ⊢
      exact e.ow j d' h
  dj := fun j k ds es q h1 h2 h3 h4 => by
    by_cases z : i = j
    · by_cases z2 : i = k
      · omega
      · subst z
        rw [List.getElem?_set_self (by rw [← e.len]; exact hi)] at h3
        rw [List.getElem?_set_ne z2] at h2 h4
        cases h3
        exact absurd h4 (hn k es (Ne.symm z2) h2)
    · by_cases z2 : i = k
      · subst z2
        rw [List.getElem?_set_self (by rw [← e.len]; exact hi)] at h4
        rw [List.getElem?_set_ne z] at h1 h3
        cases h4
        exact absurd h3 (hn j ds (Ne.symm z) h1)
      · rw [List.getElem?_set_ne z] at h1 h3
        rw [List.getElem?_set_ne z2] at h2 h4
        exact e.dj j k ds es q h1 h2 h3 h4
  nw := fun j c ns xs h => by
    by_cases z : i = j
    · subst z
      rw [List.getElem?_set_self hi] at h
      cases h
    · rw [List.getElem?_set_ne z] at h ⊢
      exact e.nw j c ns xs h
  ex := fun j x h => by
    by_cases z : i = j
    · subst z
      rw [List.getElem?_set_self hi] at h
      cases h
    · rw [List.getElem?_set_ne z] at h
      obtain ⟨p, cls, dd, a, b, c⟩ := e.ex j x h
      exact ⟨p, cls, dd, a, by rw [List.getElem?_set_ne z]; exact b, c⟩
  tk := e.tk
end
abbrev Tgt (α : Type) := α → Rho → Option Rho
def denG {α β : Type} (F : Fm) (rel : Wd → Hp → α → β → Prop) (g : Tgt α) (ixs : List Nat) : β → L2.St → Hp → (L2.St → Hp → Prop) → Prop := fun v σ H Q => ∃ ρ W d ρ', IF F W H σ ρ ∧ rel W H d v ∧ g d ρ = some ρ' ∧
  ∀ σ', IF F W H σ' ρ' → (∀ vs : List Nat, (∀ i ∈ ixs, i ∈ vs) → wipe σ' vs = wipe σ vs) → Q σ' H
def gtName (i : Nat) : Tgt D := fun d ρ => if i < ρ.length then some (ρ.set i (.fz d)) else none
def gtNil : Tgt (List D) := fun ds ρ => match ds with
  | [] => some ρ
  | _ => none
def gtCons (g : Tgt D) (gs : Tgt (List D)) : Tgt (List D) := fun ds ρ => match ds with
  | [] => none
  | d :: ds => (g d ρ).bind fun ρ1 => gs ds ρ1
def gtTup (n : Nat) (gs : Tgt (List D)) : Tgt D := fun d ρ => match d with
  | .tup ds => if ds.length = n then gs ds ρ else none
  | .lst ds => if ds.length = n then gs ds ρ else none
  | _ => none
section
variable {X : Cx} {F : Fm} {t : Expr} {ts : List Expr} {g : Tgt D} {gs : Tgt (List D)} {is js : List Nat}
theorem dg_name {i : Nat} (h : PG X t (gName i)) : PG X t (denG F F.rep (gtName i) [i]) := h.imp fun v σ H Q ⟨ρ, W, d, ρ', I, r, e, k⟩ => by
  unfold gtName at e
  split at e
  · rename_i hi
    cases e
    exact k _ ⟨I.ok, I.gr, I.env.set r hi⟩ fun vs hv => wipe_set (hv i (by simp))
  · cases e
theorem dgs_nil : PGs X [] (denG F F.reps gtNil []) := pgs_nil.imp fun v σ H Q ⟨ρ, W, d, ρ', I, r, e, k⟩ => by
  cases r with
  | nil =>
    cases e
    exact ⟨rfl, k σ I fun _ _ => rfl⟩
  | cons _ _ => cases e
theorem dgs_cons (h1 : PG X t (denG F F.rep g is)) (h2 : PGs X ts (denG F F.reps gs js)) (hs : (assignEach (t :: ts) X.env).map (·.2) = assign t X.env :: (assignEach ts X.env).map (·.2) := by rfl) : PGs X (t :: ts) (denG F F.reps (gtCons g gs) (is ++ js)) :=
  (pgs_cons h1 h2 hs).imp fun v σ H Q ⟨ρ, W, d, ρ', I, r, e, k⟩ => by
    cases r with
    | nil => cases e
    | @cons d ds v vs r1 r2 =>
      obtain ⟨ρ1, e1, e2⟩ := Option.bind_eq_some_iff.mp (show (g d ρ).bind (fun ρ1 => gs ds ρ1) = some ρ' from e)
      refine ⟨v, vs, rfl, ρ, W, d, ρ1, I, r1, e1, fun σ1 I1 w1 => ⟨ρ1, W, ds, ρ', I1, r2, e2, fun σ2 I2 w2 => k σ2 I2 fun vs hv => ?_⟩⟩
      rw [w2 vs fun i hi => hv i (List.mem_append_right _ hi), w1 vs fun i hi => hv i (List.mem_append_left _ hi)]
theorem pg_or {e : Expr} {t1 t2 : TG} (h1 : PG X e t1) (h2 : PG X e t2) : PG X e (fun v σ H Q => t1 v σ H Q ∨ t2 v σ H Q) :=
  ⟨fun pins s σ H v u Q I r h => h.elim (fun k => h1.run pins s σ H v u Q I r k) (fun k => h2.run pins s σ H v u Q I r k)⟩
theorem dg_tup {k : Nat} {pos : Pos} {n : Nat} (hc : X.calm = true) (h : PGs X ts (denG F F.reps gs is)) (hn : (assignEach ts X.env).length = n := by rfl) (hst : (assignEach ts X.env).findIdx? (·.1) = none := by rfl) (hK : F.K = X.K := by rfl) : PG X (.Tuple ts k pos) (denG F F.rep (gtTup n gs) is) :=
  (pg_or (pg_tup hc h hn hst) (pg_unl hc h hn hst)).imp fun v σ H Q ⟨ρ, W, d, ρ', I, r, e, k⟩ => by
    cases r with
    | @tup a vs ds h1 h2 =>
      have e' : (if ds.length = n then gs ds ρ else none) = some ρ' := e
      split at e'
      · rename_i hl
        exact .inl ⟨a, vs, rfl, SqT.of (hid_le _ _ h1), by rw [← h2.len]; exact hl, ρ, W, ds, ρ', I, h2, e', k⟩
      · cases e'
    | @lst a vs ds h1 h2 =>
      have e' : (if ds.length = n then gs ds ρ else none) = some ρ' := e
      split at e'
      · rename_i hl
        exact .inr ⟨a, vs, rfl, SqL.of (hid_le _ _ h1), by rw [← h2.len]; exact hl, ρ, W, ds, ρ', I, h2, e', k⟩
      · cases e'
    | _ => cases e
end
end Bx

namespace Bx
open PySem L2

/-! ### comprehensions -/
def Fm.nw (F : Fm) : Fm := { F with wish := fun _ _ _ _ => False }
theorem EnvOk.nwF {F : Fm} {W : Wd} {H : Hp} {σ : L2.St} {ρ : Rho} (e : EnvOk F W H σ ρ) : EnvOk F.nw W H σ ρ := ⟨e.len, e.fz, e.ow, e.dj, e.nw, e.ex, e.tk⟩
theorem IF.nwF {F : Fm} {W : Wd} {H : Hp} {σ : L2.St} {ρ : Rho} (I : IF F W H σ ρ) : IF F.nw W H σ ρ := ⟨I.ok, I.gr, I.env.nwF⟩
def fYes : Fn Bool := fun _ S => .ok true S
def lcL (g : Tgt D) (t : Fn Bool) (e : Fn D) (ρ : Rho) : List D → List D → Store → R (List D)
  | [], acc, S => .ok acc S
  | d :: ds, acc, S => match g d ρ with
    | none => .no
    | some ρ1 => (t ρ1 S).bind fun b S1 => if b = true then (e ρ1 S1).bind fun y S2 => lcL g t e ρ ds (acc ++ [y]) S2 else lcL g t e ρ ds acc S1
def noer {α β : Type} (k : α → Store → R β) : R α → R β
  | .ok a S => k a S
  | _ => .no
def fLc (fi : Fn (List D)) (g : Tgt D) (t : Fn Bool) (e : Fn D) (vs : List Nat) : Fn Sl := fun ρ S => (fi ρ S).bind fun ds S1 => if ds.length ≤ LIM then noer (fun ys S2 => .ok (.ow ys) S2) (lcL g t e (wipeR ρ vs) ds [] S1) else .no
theorem den_lc {F : Fm} {fi : Fn (List D)} {g : Tgt D} {t : Fn Bool} {e : Fn D} {vs is : List Nat} (hv : ∀ i ∈ is, i ∈ vs) {σ : L2.St} {H : Hp} {Q : VK} (h : denX F (fLc fi g t e vs) σ H Q) :
    tLc (denI F fi) (denG F F.rep g is) (denT F.nw t) (denE F.nw e) vs σ H Q := by
  obtain ⟨ρ, W, I, q⟩ := h
  refine ⟨ρ, W, I, ?_⟩
  unfold fLc at q
  cases hfi : fi ρ W.S with
  | no => rw [hfi] at q; exact q.elim
  | er x S => rw [hfi] at q; exact q
  | ok ds S1 =>
    rw [hfi] at q
    have q1 : Post F (relX F H) W H σ (if ds.length ≤ LIM then noer (fun ys S2 => .ok (.ow ys) S2) (lcL g t e (wipeR ρ vs) ds [] S1) else .no) Q := q
    split at q1
    · rename_i hlen
      cases hl : lcL g t e (wipeR ρ vs) ds [] S1 with
      | no => rw [hl] at q1; exact q1.elim
      | er x S => rw [hl] at q1; exact q1.elim
      | ok ys S2 =>
        rw [hl] at q1
        have q1 : Post F (relX F H) W H σ (.ok (.ow ys) S2) Q := q1
        intro J Y G H1 W1 e1 g1 ok1 wk st yl Dl hD
        have nD : ∀ q, H1 q ≠ none → q ≠ Dl := fun q hq z => hq (z ▸ hD)
        have hD0 : H Dl = none := by
          cases z : H Dl with
          | none => rfl
          | some u => exact absurd hD (g1.ds Dl (by simp [z]))
        refine lc_it wk (fun i H' => ∃ W' acc ws, WOk W' H' ∧ Gr W1 H1 W' H' ∧ W'.M Dl = some 0 ∧ H' Dl = some (.lst ws) ∧ F.reps W' H' acc ws ∧ acc.length ≤ i ∧ lcL g t e (wipeR ρ vs) (ds.drop i) acc W'.S = .ok ys S2) ?_ ?_ ?_ ?_
        · obtain ⟨a, b⟩ := mask_new (o := .lst []) ok1 hD
          exact ⟨mask Dl W1, [], [], a, b, mask_self, upd_same, .nil, Nat.le_refl _, by rw [← e1] at hl; exact hl⟩
        · rintro i H' hi ⟨W', acc, ws, _, g', _⟩
          exact st W' H' g'.s
        · rintro i x H2 H3 hi ⟨W', acc, ws, ok', g', hM, hDl, hr, hacc, hres⟩ y
          have hdi : ds[i]? = some ds[i] := by simp [hi]
          obtain ⟨sm, rx⟩ := yl i ds[i] W' H2 x H3 g'.s ok' hdi y
          rw [List.drop_eq_getElem_cons hi] at hres
          unfold lcL at hres
          cases hg : g ds[i] (wipeR ρ vs) with
          | none => rw [hg] at hres; cases hres
          | some ρ1 =>
            rw [hg] at hres
            have g3 : Gr W1 H1 W' H3 := g'.trans (Gr.same sm)
            have ok3 := ok'.same sm
            have IE : EnvOk F W' H3 (wipe σ vs) (wipeR ρ vs) := ((I.env.gr g1).gr g3).wipe vs
            refine ⟨wipeR ρ vs, W', ds[i], ρ1, ⟨ok3, I.gr.trans (g1.trans g3), IE⟩, rx, hg, fun σ2 I2 w2 => ⟨?_, ?_⟩⟩
            · rw [w2 vs hv, ]
              apply List.ext_getElem?
              intro j
              rw [wipe_get, wipe_get]
              by_cases hj : j ∈ vs
              · simp only [hj, if_true]
                cases σ[j]? <;> rfl
              · simp only [hj, if_false]
            · refine ⟨ρ1, W', I2.nwF, ?_⟩
              have hres' : (t ρ1 W'.S).bind (fun b S1 => if b = true then (e ρ1 S1).bind fun y S2 => lcL g t e (wipeR ρ vs) (ds.drop (i + 1)) (acc ++ [y]) S2 else lcL g t e (wipeR ρ vs) (ds.drop (i + 1)) acc S1) = .ok ys S2 := hres
              cases ht : t ρ1 W'.S with
              | no => rw [ht] at hres'; cases hres'
              | er x S => rw [ht] at hres'; cases hres'
              | ok b S3 =>
                rw [ht] at hres'
                intro b' H4 W4 e4 g4 ok4 rb
                cases (show b = b' from rb)
                have hD4 : H4 Dl = some (.lst ws) := g4.ex Dl _ (sm _ _ hDl) fun l => by rw [hM]; simp
                have hM4 : W4.M Dl = some 0 := (g4.ms Dl (by rw [sm _ _ hDl]; simp)).trans hM
                have hr4 : F.reps W4 H4 acc ws := reps_gr ((Gr.same sm).trans g4).s hr
                cases b with
                | false =>
                  rw [if_neg Bool.false_ne_true]
                  exact ⟨W4, acc, ws, ok4, g3.trans g4, hM4, hD4, hr4, by omega, by rw [e4]; exact hres'⟩
                | true =>
                  rw [if_pos rfl]
                  have hres2 : (e ρ1 S3).bind (fun y S2 => lcL g t e (wipeR ρ vs) (ds.drop (i + 1)) (acc ++ [y]) S2) = .ok ys S2 := hres'
                  refine ⟨ρ1, W4, (I2.nwF).go g4 ok4, ?_⟩
                  rw [e4]
                  cases he : e ρ1 S3 with
                  | no => rw [he] at hres2; cases hres2
                  | er x S => rw [he] at hres2; cases hres2
                  | ok y S5 =>
                    rw [he] at hres2
                    intro v H5 W5 e5 g5 ok5 rv
                    have hD5 : H5 Dl = some (.lst ws) := g5.ex Dl _ hD4 fun l => by rw [hM4]; simp
                    have hM5 : W5.M Dl = some 0 := (g5.ms Dl (by rw [hD4]; simp)).trans hM4
                    have hr5 : F.reps W5 H5 acc ws := reps_gr g5.s hr4
                    have hh : hid W5.M (upd H5 Dl (.lst (ws ++ [v]))) = hid W5.M H5 := hid_own (by rw [hM5]; simp)
                    refine ⟨ws, hD5, ?_, W5, acc ++ [y], ws ++ [v], ok5.own hM5 (lst_code hD5), ?_, hM5, upd_same, ?_, by simp; omega, by rw [e5]; exact hres2⟩
                    · have := hr.len
                      have : acc.length < LIM := by omega
                      exact lim_lt (by omega)
                    · have z : Gr W1 H1 W5 H5 := g3.trans (g4.trans g5)
                      exact ⟨fun q hq => z.ms q hq, fun q o hq hl => by rw [upd_ne (nD q (by simp [hq]))]; exact z.ex q o hq hl, fun q hq => by rw [upd_ne (nD q hq)]; exact z.ds q hq, z.mu, z.tt⟩
                    · have a1 : F.reps W5 (upd H5 Dl (.lst (ws ++ [v]))) acc ws := by
                        show Reps _ _ _ (hid W5.M _) _ _
                        rw [hh]; exact hr5
                      have a2 : F.rep W5 (upd H5 Dl (.lst (ws ++ [v]))) y v := by
                        show Rep _ _ _ (hid W5.M _) _ _
                        rw [hh]; exact rv
                      exact a1.append (.cons a2 .nil)
        · rintro H' ⟨W', acc, ws, ok', g', hM, hDl, hr, _, hres⟩
          rw [List.drop_length] at hres
          unfold lcL at hres
          cases hres
          exact q1 _ H' W' rfl (g1.trans g') ok' ⟨Dl, ws, rfl, hD0, hM, hDl, hr⟩
    · exact q1.elim
section
variable {X : Cx} {F : Fm} {elt tg iter c : Expr} {ifs : List Expr} {scope : Scope} {own : List (Str × Nat)} {pos : Pos} {fi : Fn (List D)} {g : Tgt D} {is : List Nat} {t : Fn Bool} {e : Fn D}
theorem dts_nil : PTs X [] (denT F fYes) := ⟨fun pins s σ H Q I h => pts_nil.run pins s σ H Q I (by
  obtain ⟨ρ, W, J, q⟩ := h
  exact q.val J.ok rfl)⟩
theorem dts_one (h : PT X c (denT F t)) : PTs X [c] (denT F t) := pts_one h
theorem dx_lc (hc : X.calm = true) (hN : X.N.Nodup) (hi : PI X tg iter (denI F fi)) (ok : BlkOk X.N X.env.scope scope own)
    (hg : ∀ (s : Shared) (H : Hp) (C : Addr) (cl : List (Str × Addr)) (fp : List Addr), PG (X.blk s H scope (compEnvC scope cl C X.env) fp) tg (denG F F.rep g is))
    (ht : ∀ (s : Shared) (H : Hp) (C : Addr) (cl : List (Str × Addr)) (fp : List Addr), PTs (X.blk s H scope (compEnvC scope cl C X.env) fp) ifs (denT F.nw t))
    (he : ∀ (s : Shared) (H : Hp) (C : Addr) (cl : List (Str × Addr)) (fp : List Addr), PE (X.blk s H scope (compEnvC scope cl C X.env) fp) elt (denE F.nw e)) (hv : ∀ i ∈ is, i ∈ own.map (·.2) := by decide) (hs : ∀ x, foldedSetIterable iter X.env x = pure x := by intro _; rfl) :
    PE X (.ListComp elt [⟨tg, iter, ifs, 0⟩] scope pos) (denX F (fLc fi g t e (own.map (·.2)))) := (pe_lc hc hN hi ok hg ht he hs).imp fun _ _ _ h => den_lc hv h
end

/-! ### statements -/
inductive Fl where
  | nx (ρ : Rho) | rt (d : D) | bk (ρ : Rho) | ct (ρ : Rho) | xr (x : Exc) (ρ : Rho)
inductive SR where
  | mk (f : Fl) (S : Store)
  | no
abbrev Stm := Rho → Store → SR
def PostS (F : Fm) (En : Ends) (W : Wd) (H : Hp) : SR → Prop
  | .mk (.nx ρ) S => ∀ σ' H' W', W'.S = S → IF F W' H' σ' ρ → GrS W H W' H' → En.nx σ' H'
  | .mk (.bk ρ) S => ∀ σ' H' W', W'.S = S → IF F W' H' σ' ρ → GrS W H W' H' → En.bk σ' H'
  | .mk (.ct ρ) S => ∀ σ' H' W', W'.S = S → IF F W' H' σ' ρ → GrS W H W' H' → En.ct σ' H'
  | .mk (.rt d) S => ∀ v H' W', W'.S = S → WOk W' H' → Gr F.W0 F.H0 W' H' → F.rep W' H' d v → En.rt v H'
  | .mk (.xr x ρ) S => ∀ cls dd σ' H' W', W'.S = S → IF F W' H' σ' ρ → GrS W H W' H' → ERep F W' H' x cls dd → F.wish cls dd σ' H'
  | .no => False
def denS (F : Fm) (g : Stm) : TS := fun En σ H => ∃ ρ W, IF F W H σ ρ ∧ PostS F En W H (g ρ W.S)
section
variable {F : Fm} {En : Ends} {W W1 : Wd} {H H1 : Hp} {σ : L2.St} {ρ : Rho} {α β : Type} {rel : Wd → Hp → α → β → Prop}
theorem PostS.weaken {r : SR} (g : GrS W H W1 H1) (h : PostS F En W H r) : PostS F En W1 H1 r := by
  match r, h with
  | .mk (.nx ρ) S, h => exact fun σ' H' W' e I g' => h σ' H' W' e I (g.trans g')
  | .mk (.bk ρ) S, h => exact fun σ' H' W' e I g' => h σ' H' W' e I (g.trans g')
  | .mk (.ct ρ) S, h => exact fun σ' H' W' e I g' => h σ' H' W' e I (g.trans g')
  | .mk (.rt d) S, h => exact h
  | .mk (.xr x ρ) S, h => exact fun cls dd σ' H' W' e I g' hr => h cls dd σ' H' W' e I (g.trans g') hr
@[simp] def liftE (f : Fn α) (k : α → Rho → Store → SR) : Stm := fun ρ S => match f ρ S with
  | .ok a S1 => k a ρ S1
  | .er x S1 => .mk (.xr x ρ) S1
  | .no => .no
theorem PostS.bind {f : Fn α} {k : α → Rho → Store → SR} {Q : β → Hp → Prop} (I : IF F W H σ ρ) (h : PostS F En W H (liftE f k ρ W.S))
    (hk : ∀ c b H1 W1, Gr W H W1 H1 → WOk W1 H1 → rel W1 H1 c b → PostS F En W1 H1 (k c ρ W1.S) → Q b H1) : Post F rel W H σ (f ρ W.S) Q := by
  unfold liftE at h
  cases hf : f ρ W.S with
  | no => rw [hf] at h; exact h
  | er x S =>
    rw [hf] at h
    exact fun cls dd H' W' e g ok hr => h cls dd σ H' W' e (I.go g ok) g.s hr
  | ok a S =>
    rw [hf] at h
    intro b H' W' e g ok hr
    have h' : PostS F En W H (k a ρ S) := h
    rw [← e] at h'
    exact hk a b H' W' g ok hr (h'.weaken g.s)
@[simp] def sNil : Stm := fun ρ S => .mk (.nx ρ) S
@[simp] def sSeq (g1 g2 : Stm) : Stm := fun ρ S => match g1 ρ S with
  | .mk (.nx ρ1) S1 => g2 ρ1 S1
  | r => r
@[simp] def sSet (i : Nat) (f : Fn Sl) : Stm := liftE f fun sl ρ S => if i < ρ.length then .mk (.nx (ρ.set i sl)) S else .no
@[simp] def sExp (f : Fn D) : Stm := liftE f fun _ ρ S => .mk (.nx ρ) S
@[simp] def sRet (f : Fn D) : Stm := liftE f fun d _ S => .mk (.rt d) S
@[simp] def sRetN : Stm := fun _ S => .mk (.rt .non) S
@[simp] def sIf (t : Fn Bool) (g1 g2 : Stm) : Stm := liftE t fun b ρ S => if b = true then g1 ρ S else g2 ρ S
@[simp] def sTgt (f : Fn D) (g : Tgt D) : Stm := liftE f fun d ρ S => match g d ρ with
  | some ρ1 => .mk (.nx ρ1) S
  | none => .no
@[simp] def sPar (i j : Nat) (f1 f2 : Fn Sl) : Stm := liftE f1 fun a ρ S => liftE f2 (fun b ρ S => if i < ρ.length ∧ j < ρ.length then .mk (.nx ((ρ.set i a).set j b)) S else .no) ρ S
@[simp] def sFrz (i : Nat) (g : Stm) : Stm := fun ρ S => match ρ[i]? with
  | some (.ow ds) => g (ρ.set i (.fz (.lst ds))) S
  | _ => g ρ S
@[simp] def sApp (i : Nat) (f : Fn D) : Stm := fun ρ S => match ρ[i]? with
  | some (.ow ds) => liftE f (fun d ρ S => if ds.length < LIM then .mk (.nx (ρ.set i (.ow (ds ++ [d])))) S else .no) ρ S
  | _ => .no
/-- x[j] = e -/
@[simp] def sSetIx (i : Nat) (fe fj : Fn D) : Stm := fun ρ S => match ρ[i]? with
  | some (.ow ds) => liftE fe (fun d ρ S => liftE fj (fun k ρ S => match k with
    | .int z => (match ixN ds.length z with
      | some j => .mk (.nx (ρ.set i (.ow (ds.set j d)))) S
      | none => .no)
    | _ => .no) ρ S) ρ S
  | _ => .no
/-- x[j] op= e, ints -/
@[simp] def sAugIx (op : Int → Int → Int) (i : Nat) (fj fe : Fn D) : Stm := fun ρ S => match ρ[i]? with
  | some (.ow ds) => liftE fj (fun k ρ S => match k with
    | .int z => (match ixN ds.length z with
      | some j => (match ds[j]? with
        | some (.int u) => liftE fe (fun d ρ S => match d with
          | .int w => .mk (.nx (ρ.set i (.ow (ds.set j (.int (op u w)))))) S
          | _ => .no) ρ S
        | _ => .no)
      | none => .no)
    | _ => .no) ρ S
  | _ => .no
/-- x op= e, ints -/
@[simp] def sAug (op : Int → Int → Int) (i : Nat) (f : Fn D) : Stm := fun ρ S => match ρ[i]? with
  | some (.fz (.int u)) => liftE f (fun d ρ S => match d with
    | .int w => .mk (.nx (ρ.set i (.fz (.int (op u w))))) S
    | _ => .no) ρ S
  | _ => .no
def sFor (fi : Fn (List D)) (g : Tgt D) (body : Stm) : Stm := liftE fi fun ds ρ S => go g body ds ρ S
where go (g : Tgt D) (body : Stm) : List D → Rho → Store → SR
  | [], ρ, S => .mk (.nx ρ) S
  | d :: ds, ρ, S => match g d ρ with
    | none => .no
    | some ρ1 => match body ρ1 S with
      | .mk (.nx ρ2) S2 => go g body ds ρ2 S2
      | .mk (.ct ρ2) S2 => go g body ds ρ2 S2
      | .mk (.bk ρ2) S2 => .mk (.nx ρ2) S2
      | r => r
def sWhile (n : Nat) (t : Fn Bool) (body : Stm) : Stm := match n with
  | 0 => fun _ _ => .no
  | n + 1 => liftE t fun b ρ S => if b = true then (match body ρ S with
      | .mk (.nx ρ2) S2 => sWhile n t body ρ2 S2
      | .mk (.ct ρ2) S2 => sWhile n t body ρ2 S2
      | .mk (.bk ρ2) S2 => .mk (.nx ρ2) S2
      | r => r) else .mk (.nx ρ) S
end
section
variable {X : Cx} {F : Fm} {st : Stmt} {rest body : List Stmt} {e c tg iter : Expr} {g g1 g2 : Stm} {f : Fn D} {fx : Fn Sl} {t : Fn Bool} {pos pos' : Pos} {W W' : Wd} {H H' : Hp} {σ : L2.St} {ρ : Rho} {En : Ends}
theorem PostS.nil (I : IF F W H σ ρ) (h : PostS F En W H (.mk (.nx ρ) W.S)) : En.nx σ H := h σ H W rfl I (GrS.refl _ _)
theorem dss_nil : PSs X [] (denS F sNil) := pss_nil.imp fun En σ H ⟨ρ, W, I, q⟩ => PostS.nil I q
theorem PostS.seq (h : PostS F En W H (sSeq g1 g2 ρ W.S)) : PostS F { En with nx := denS F g2 En } W H (g1 ρ W.S) := by
  unfold sSeq at h
  match hg : g1 ρ W.S, h with
  | .mk (.nx ρ1) S1, h => exact fun σ' H' W' e I g' => ⟨ρ1, W', I, by rw [e]; exact PostS.weaken g' h⟩
  | .mk (.bk ρ1) S1, h => exact h
  | .mk (.ct ρ1) S1, h => exact h
  | .mk (.rt d) S1, h => exact h
  | .mk (.xr x ρ1) S1, h => exact h
  | .no, h => exact h
theorem dss_cons (h1 : PS X st (denS F g1)) (h2 : PSs X rest (denS F g2)) : PSs X (st :: rest) (denS F (sSeq g1 g2)) := (pss_cons h1 h2).imp fun En σ H ⟨ρ, W, I, q⟩ => ⟨ρ, W, I, q.seq⟩
theorem dss_one (h1 : PS X st (denS F g1)) : PSs X [st] (denS F g1) := pss_one h1
theorem ds_expr (he : PE X e (denE F f)) (hs : swapsWith e none pos.line X.env = pure false := by rfl) : PS X (.Expr e pos) (denS F (sExp f)) := (ps_expr he hs).imp fun En σ H ⟨ρ, W, I, q⟩ => ⟨ρ, W, I, q.bind I fun d v H1 W1 g ok r q1 => PostS.nil (I.go g ok) q1⟩
theorem ds_ret (he : PE X e (denE F f)) : PS X (.Return (some e) pos) (denS F (sRet f)) := (ps_ret he).imp fun En σ H ⟨ρ, W, I, q⟩ => ⟨ρ, W, I, q.bind I fun d v H1 W1 g ok r q1 => q1 v H1 W1 rfl ok (I.gr.trans g) r⟩
theorem ds_retN : PS X (.Return none pos) (denS F sRetN) := ps_retN.imp fun En σ H ⟨ρ, W, I, q⟩ => q .non H W rfl I.ok I.gr .non
theorem ds_pass : PS X (.Pass pos) (denS F sNil) := ps_pass.imp fun En σ H ⟨ρ, W, I, q⟩ => PostS.nil I q
theorem ds_break : PS X (.Break pos) (denS F fun ρ S => .mk (.bk ρ) S) := ps_break.imp fun En σ H ⟨ρ, W, I, q⟩ => q σ H W rfl I (GrS.refl _ _)
theorem ds_continue : PS X (.Continue pos) (denS F fun ρ S => .mk (.ct ρ) S) := ps_continue.imp fun En σ H ⟨ρ, W, I, q⟩ => q σ H W rfl I (GrS.refl _ _)
theorem ds_never : PS X st (denS F fun _ _ => .no) := ps_never.imp fun En σ H ⟨ρ, W, I, q⟩ => q
theorem ds_if {a b : List Stmt} (hc : PT X c (denT F t)) (ha : PSs X a (denS F g1)) (hb : PSs X b (denS F g2)) : PS X (.If c a b pos) (denS F (sIf t g1 g2)) := (ps_if hc ha hb).imp fun En σ H ⟨ρ, W, I, q⟩ =>
  ⟨ρ, W, I, q.bind I fun d v H1 W1 g ok r q1 => by
    cases (show d = v from r)
    cases d with
    | true =>
      rw [if_pos rfl]
      exact ⟨ρ, W1, I.go g ok, q1⟩
    | false =>
      rw [if_neg Bool.false_ne_true]
      exact ⟨ρ, W1, I.go g ok, q1⟩⟩
/-- a slot's own list is apart from a new one -/
theorem EnvOk.setX {H0 : Hp} {W0 : Wd} {i : Nat} {sl : Sl} {v : V} (e : EnvOk F W H σ ρ) (e0 : EnvOk F W0 H0 σ ρ) (g0 : Gr F.W0 F.H0 W0 H0) (r : relX F H0 W H sl v) (hi : i < ρ.length) : EnvOk F W H (σ.set i (some v)) (ρ.set i sl) := by
  cases sl with
  | fz d => exact e.set r hi
  | ow ds =>
    obtain ⟨p, vs, rfl, hn, hm, hp, hr⟩ := r
    refine e.setOw hm ?_ hp hr hi fun j es hj hρ hσ => ?_
    · cases z : F.H0 p with
      | none => rfl
      | some u => exact absurd hn (g0.ds p (by simp [z]))
    · obtain ⟨q, ws, a, b, c, d, _⟩ := e0.ow j es hρ
      rw [hσ] at a
      cases a
      rw [hn] at d; cases d
  | un => exact r.elim
  | nw _ _ _ => exact r.elim
  | ex _ => exact r.elim
theorem ds_set {i : Nat} (h : PG X tg (gName i)) (he : PE X e (denX F fx)) (hs : swapsWithSole [tg] e pos.line X.env = pure false := by rfl) (hw : swappedStores [tg] e X.env = pure none := by rfl) (h1 : (assignEach [tg] X.env).map (·.2) = [assign tg X.env] := by rfl) :
    PS X (.Assign [tg] e pos) (denS F (sSet i fx)) := (ps_asg he h hs hw h1).imp fun En σ H ⟨ρ, W, I, q⟩ =>
  ⟨ρ, W, I, q.bind I fun sl v H1 W1 g ok r q1 => by
    split at q1
    · rename_i hi
      exact PostS.nil (σ := σ.set i (some v)) ⟨ok, I.gr.trans g, (I.env.gr g).setX I.env I.gr r hi⟩ q1
    · exact q1.elim⟩
/-- y = [.. for ..] -/
theorem ds_setLc {i : Nat} {y : Str} {py : Pos} {elt tg iter : Expr} {ifs : List Expr} {scope : Scope} {own : List (Str × Nat)} {spos : Pos} {fi : Fn (List D)} {gt : Tgt D} {is : List Nat} {t : Fn Bool} {fe : Fn D} (hc : X.calm = true) (hN : X.N.Nodup) (hy : X.N[i]? = some y) (hyl : X.env.scope.names.lookup y = some .local)
    (hsw : swapsWith (.ListComp elt [⟨tg, iter, ifs, 0⟩] scope pos) (some (.Name y py)) spos.line X.env = pure true) (hi : PI X tg iter (denI F fi)) (ok : BlkOk X.N X.env.scope scope own)
    (hg : ∀ (s : Shared) (H : Hp) (C : Addr) (cl : List (Str × Addr)) (fp : List Addr), PG (X.blk s H scope (compEnvC scope cl C X.env) fp) tg (denG F F.rep gt is))
    (ht : ∀ (s : Shared) (H : Hp) (C : Addr) (cl : List (Str × Addr)) (fp : List Addr), PTs (X.blk s H scope (compEnvC scope cl C X.env) fp) ifs (denT F.nw t))
    (he : ∀ (s : Shared) (H : Hp) (C : Addr) (cl : List (Str × Addr)) (fp : List Addr), PE (X.blk s H scope (compEnvC scope cl C X.env) fp) elt (denE F.nw fe)) (hv : ∀ i ∈ is, i ∈ own.map (·.2) := by decide) (hs : ∀ x, foldedSetIterable iter X.env x = pure x := by intro _; rfl) :
    PS X (.Assign [.Name y py] (.ListComp elt [⟨tg, iter, ifs, 0⟩] scope pos) spos) (denS F (sSet i (fLc fi gt t fe (own.map (·.2))))) :=
  (ps_setLc hc hN hy hyl hsw hi ok hg ht he hs).imp fun En σ H ⟨ρ, W, I, q⟩ => den_lc (Q := fun x H1 => gName i x σ H1 En.nx) hv ⟨ρ, W, I, q.bind I fun sl v H1 W1 g ok r q1 => by
    split at q1
    · rename_i hi
      exact PostS.nil (σ := σ.set i (some v)) ⟨ok, I.gr.trans g, (I.env.gr g).setX I.env I.gr r hi⟩ q1
    · exact q1.elim⟩
theorem ds_tgt {gt : Tgt D} {is : List Nat} (h : PG X tg (denG F F.rep gt is)) (he : PE X e (denE F f)) (hs : swapsWithSole [tg] e pos.line X.env = pure false := by rfl) (hw : swappedStores [tg] e X.env = pure none := by rfl) (h1 : (assignEach [tg] X.env).map (·.2) = [assign tg X.env] := by rfl) :
    PS X (.Assign [tg] e pos) (denS F (sTgt f gt)) := (ps_asg he h hs hw h1).imp fun En σ H ⟨ρ, W, I, q⟩ =>
  ⟨ρ, W, I, q.bind I fun d v H1 W1 g ok r q1 => by
    split at q1
    · rename_i ρ1 h1
      exact ⟨ρ, W1, d, ρ1, I.go g ok, r, h1, fun σ' I' _ => PostS.nil I' q1⟩
    · exact q1.elim⟩
theorem relX.gr {H0 : Hp} {W1 W2 : Wd} {H1 H2 : Hp} {sl : Sl} {v : V} (g : Gr W1 H1 W2 H2) (r : relX F H0 W1 H1 sl v) : relX F H0 W2 H2 sl v := by
  cases sl with
  | fz d => exact rep_gr g.s r
  | ow ds =>
    obtain ⟨p, vs, rfl, hn, hm, hp, hr⟩ := r
    exact ⟨p, vs, rfl, hn, (g.ms p (by simp [hp])).trans hm, g.ex p _ hp fun l => by rw [hm]; simp, reps_gr g.s hr⟩
  | un => exact r
  | nw _ _ _ => exact r
  | ex _ => exact r
/-- a, b = x, y -/
theorem ds_par {i j : Nat} {x y : Str} {a b : Expr} {f1 f2 : Fn Sl} {px py pt : Pos} {kt k2 pt2} (hc : X.calm = true) (hN : X.N.Nodup) (hi : X.N[i]? = some x) (hj : X.N[j]? = some y) (hij : i ≠ j)
    (hx : X.env.scope.names.lookup x = some .local) (hy : X.env.scope.names.lookup y = some .local) (ha : PE X a (denX F f1)) (hb : PE X b (denX F f2))
    (hw : swappedStores [.Tuple [.Name x px, .Name y py] kt pt] (.Tuple [a, b] k2 pt2) X.env = pure (some [x, y])) (h1 : starEach [a, b] X.env = (false, eval a X.env) :: starEach [b] X.env := by rfl) (h2 : starEach [b] X.env = (false, eval b X.env) :: starEach [] X.env := by rfl)
    (hs : swapsWithSole [.Tuple [.Name x px, .Name y py] kt pt] (.Tuple [a, b] k2 pt2) pos.line X.env = pure false := by rfl) :
    PS X (.Assign [.Tuple [.Name x px, .Name y py] kt pt] (.Tuple [a, b] k2 pt2) pos) (denS F (sPar i j f1 f2)) :=
  (ps_par hc hN hi hj hij hx hy (pa_cons ha (pa_cons hb pa_nil h2) h1) hw hs).imp fun En σ H ⟨ρ, W, I, q⟩ => ⟨ρ, W, I, q.bind I fun sl v H1 W1 g ok r q1 => by
    have I1 := I.go g ok
    refine ⟨ρ, W1, I1, q1.bind I1 fun sl2 v2 H2 W2 g2 ok2 r2 q2 => ?_⟩
    split at q2
    · rename_i hz
      refine ⟨v, v2, rfl, PostS.nil (σ := (σ.set i (some v)).set j (some v2)) ⟨ok2, I1.gr.trans g2, ?_⟩ q2⟩
      have e1 : EnvOk F W2 H2 (σ.set i (some v)) (ρ.set i sl) := (I1.env.gr g2).setX I.env I.gr (relX.gr g2 r) hz.1
      have e0 : EnvOk F W1 H1 (σ.set i (some v)) (ρ.set i sl) := I1.env.setX I.env I.gr r hz.1
      exact e1.setX e0 I1.gr r2 (by rw [List.length_set]; exact hz.2)
    · exact q2.elim⟩
/-- a slot's own list is let be seen by all -/
theorem IF.frz {i : Nat} {ds : List D} {p : Addr} (I : IF F W H σ ρ) (hρ : ρ[i]? = some (.ow ds)) (hσ : σ[i]? = some (some (.ref p))) (hm : W.M p = some 0) : IF F (unmask p W) H σ (ρ.set i (.fz (.lst ds))) := by
  have hi : i < ρ.length := (List.getElem?_eq_some_iff.mp hρ).1
  obtain ⟨p', vs, a, b, c, d, r⟩ := I.env.ow i ds hρ
  rw [hσ] at a
  cases a
  have rm : ∀ d v, F.rep W H d v → F.rep (unmask p W) H d v := fun d v h => rep_gr (unmask_grS hm) h
  refine ⟨unmask_ok I.ok hm, ⟨fun q hq => (unmask_ne fun z => hq (by rw [z]; exact c)).trans (I.gr.ms q hq), I.gr.ex, I.gr.ds, I.gr.mu, I.gr.tt⟩, ?_⟩
  refine ⟨by rw [List.length_set]; exact I.env.len, fun j d' h => ?_, fun j d' h => ?_, fun j k ds es q h1 h2 h3 h4 => ?_, fun j c ns xs h => ?_, fun j x h => ?_, I.env.tk⟩
  · by_cases z : i = j
    · subst z
      rw [List.getElem?_set_self hi] at h
      cases h
      exact ⟨.ref p, hσ, .lst (hid_some.mpr ⟨unmask_self, d⟩) (reps_gr (unmask_grS hm) r)⟩
    · rw [List.getElem?_set_ne z] at h
      obtain ⟨v, h1, h2⟩ := I.env.fz j d' h
      exact ⟨v, h1, rm _ _ h2⟩
  · by_cases z : i = j
    · subst z
      rw [List.getElem?_set_self hi] at h
      cases h
    · rw [List.getElem?_set_ne z] at h
      obtain ⟨q, ws, h1, h2, h3, h4, h5⟩ := I.env.ow j d' h
      have hne : q ≠ p := fun e => z (I.env.dj i j ds d' p hρ h hσ (e ▸ h1))
      exact ⟨q, ws, h1, (unmask_ne hne).trans h2, h3, h4, reps_gr (unmask_grS hm) h5⟩
  · by_cases z : i = j
    · subst z
      rw [List.getElem?_set_self hi] at h1
      cases h1
    · by_cases z2 : i = k
      · subst z2
        rw [List.getElem?_set_self hi] at h2
        cases h2
      · rw [List.getElem?_set_ne z] at h1
        rw [List.getElem?_set_ne z2] at h2
        exact I.env.dj j k ds es q h1 h2 h3 h4
  · by_cases z : i = j
    · subst z
      rw [List.getElem?_set_self hi] at h
      cases h
    · rw [List.getElem?_set_ne z] at h
      obtain ⟨q, C, dx, ws, h1, h2, h3, h4, h5, h6, h7⟩ := I.env.nw j c ns xs h
      have hne : q ≠ p := ne_of h5 d (by intro z; cases z)
      exact ⟨q, C, dx, ws, h1, h2, (unmask_ne hne).trans h3, h4, h5, h6, reps_gr (unmask_grS hm) h7.1, h7.2⟩
  · by_cases z : i = j
    · subst z
      rw [List.getElem?_set_self hi] at h
      cases h
    · rw [List.getElem?_set_ne z] at h
      obtain ⟨q, cls, dd, a, b, c⟩ := I.env.ex j x h
      exact ⟨q, cls, dd, a, b, erep_gr (unmask_grS hm) c⟩
theorem frz_in {i : Nat} {t : TS} (ht : ∀ En σ H, denS F g En σ H → t En σ H) : ∀ En σ H, denS F (sFrz i g) En σ H → t En σ H := fun En σ H ⟨ρ, W, I, q⟩ => by
  unfold sFrz at q
  split at q
  · rename_i ds hρ
    obtain ⟨p, vs, a, b, c, d, r⟩ := I.env.ow i ds hρ
    exact ht En σ H ⟨_, unmask p W, I.frz hρ a b, q.weaken (unmask_grS b)⟩
  · exact ht En σ H ⟨ρ, W, I, q⟩
theorem dss_frz (i : Nat) {sts : List Stmt} (h : PSs X sts (denS F g)) : PSs X sts (denS F (sFrz i g)) := h.imp (frz_in fun _ _ _ h => h)
theorem ds_frz (i : Nat) (h : PS X st (denS F g)) : PS X st (denS F (sFrz i g)) := h.imp (frz_in fun _ _ _ h => h)
end
end Bx

namespace Bx
open PySem L2

section
variable {X : Cx} {F : Fm} {st : Stmt} {rest body : List Stmt} {a b e c tg iter : Expr} {es : List Expr} {g g1 g2 : Stm} {f f1 f2 : Fn D} {fs : Fn (List D)} {fx : Fn Sl} {t : Fn Bool} {pos pos' p : Pos} {W W' : Wd} {H H' : Hp} {σ : L2.St} {ρ : Rho} {En : Ends}
/-- a frame's own list at slot i changes -/
theorem IF.own {i : Nat} {ds es : List D} {p : Addr} {vs ws : List V} (I : IF F W H σ ρ) (hρ : ρ[i]? = some (.ow ds)) (hσ : σ[i]? = some (some (.ref p))) (hr : F.reps W H es ws) : IF F W (upd H p (.lst ws)) σ (ρ.set i (.ow es)) ∧ GrS W H W (upd H p (.lst ws)) := by
  have hi : i < ρ.length := (List.getElem?_eq_some_iff.mp hρ).1
  obtain ⟨p', vs', a, hm, c, d, r⟩ := I.env.ow i ds hρ
  rw [hσ] at a
  cases a
  have hh : ∀ o, hid W.M (upd H p o) = hid W.M H := fun o => hid_own (by rw [hm]; simp)
  have rk : ∀ d v o, F.rep W H d v → F.rep W (upd H p o) d v := fun d v o h => by
    show Rep _ _ _ (hid W.M _) _ _
    rw [hh]; exact h
  have rks : ∀ d v o, F.reps W H d v → F.reps W (upd H p o) d v := fun d v o h => by
    show Reps _ _ _ (hid W.M _) _ _
    rw [hh]; exact h
  refine ⟨⟨I.ok.own hm (lst_code d), ⟨I.gr.ms, fun q o hq hl => by rw [upd_ne fun z => by rw [z, c] at hq; cases hq]; exact I.gr.ex q o hq hl, fun q hq => by
    by_cases z : q = p
    · rw [z, upd_same]; simp
    · rw [upd_ne z]; exact I.gr.ds q hq, I.gr.mu, I.gr.tt⟩, ?_⟩, ⟨fun q o n hq => ⟨n, by rw [upd_ne fun z => by rw [z, hm] at n; cases n]; exact hq⟩, fun _ _ h => h, rfl⟩⟩
  refine ⟨by rw [List.length_set]; exact I.env.len, fun j d' h => ?_, fun j d' h => ?_, fun j k ds' es' q h1 h2 h3 h4 => ?_, fun j c ns xs h => ?_, fun j x h => ?_, I.env.tk⟩
  · by_cases z : i = j
    · subst z
      rw [List.getElem?_set_self hi] at h
      cases h
    · rw [List.getElem?_set_ne z] at h
      obtain ⟨v, h1, h2⟩ := I.env.fz j d' h
      exact ⟨v, h1, rk _ _ _ h2⟩
  · by_cases z : i = j
    · subst z
      rw [List.getElem?_set_self hi] at h
      cases h
      exact ⟨p, ws, hσ, hm, c, upd_same, rks _ _ _ hr⟩
    · rw [List.getElem?_set_ne z] at h
      obtain ⟨q, ws', h1, h2, h3, h4, h5⟩ := I.env.ow j d' h
      have hne : q ≠ p := fun e => z (I.env.dj i j ds d' p hρ h hσ (e ▸ h1))
      exact ⟨q, ws', h1, h2, h3, (upd_ne hne).trans h4, rks _ _ _ h5⟩
  · have one : ∀ (k : Nat) (es' : List D), (ρ.set i (Sl.ow es))[k]? = some (Sl.ow es') → ∃ z, ρ[k]? = some (Sl.ow z) := fun k es' h => by
      by_cases z : i = k
      · subst z; exact ⟨ds, hρ⟩
      · rw [List.getElem?_set_ne z] at h; exact ⟨es', h⟩
    obtain ⟨z1, e1⟩ := one j ds' h1
    obtain ⟨z2, e2⟩ := one k es' h2
    exact I.env.dj j k z1 z2 q e1 e2 h3 h4
  · by_cases z : i = j
    · subst z
      rw [List.getElem?_set_self hi] at h
      cases h
    · rw [List.getElem?_set_ne z] at h
      obtain ⟨q, C, dx, ws', h1, h2, h3, h4, h5, h6, h7⟩ := I.env.nw j c ns xs h
      have hne : q ≠ p := ne_of h5 d (by intro z; cases z)
      exact ⟨q, C, dx, ws', h1, h2, h3, h4, (upd_ne hne).trans h5, h6, rks _ _ _ h7.1, h7.2⟩
  · by_cases z : i = j
    · subst z
      rw [List.getElem?_set_self hi] at h
      cases h
    · rw [List.getElem?_set_ne z] at h
      obtain ⟨q, cls, dd, a, b, c2⟩ := I.env.ex j x h
      refine ⟨q, cls, dd, a, b, erep_gr ⟨fun q o n hq => ⟨n, by rw [upd_ne fun z => by rw [z, hm] at n; cases n]; exact hq⟩, fun _ _ h => h, rfl⟩ c2⟩
/-- x.append(e) -/
theorem ds_app {i : Nat} {call : Expr} (pe : PE X call (tBM X.K "list" rAppend (tVar i) (tCons (denE F f) tNil))) (hs : swapsWith call none pos.line X.env = pure false := by rfl) : PS X (.Expr call pos) (denS F (sApp i f)) := (ps_expr pe hs).imp fun En σ H ⟨ρ, W, I, q⟩ => by
  unfold sApp at q
  split at q
  · rename_i ds h
    obtain ⟨q0, vs, hσ, hm, h0, hp, hr⟩ := I.env.ow i ds h
    refine ⟨.ref q0, hσ, .inl ⟨rfl, _, SqL.of hp⟩, ρ, W, I, q.bind I fun d v H1 W1 g1 ok r q1 => ?_⟩
    have I1 := I.go g1 ok
    split at q1
    · rename_i hz
      have hp1 : H1 q0 = some (.lst vs) := g1.ex q0 _ hp fun l => by rw [hm]; simp
      have hr1 : F.reps W1 H1 ds vs := reps_gr g1.s hr
      obtain ⟨I2, g2⟩ := I1.own (vs := vs) (es := ds ++ [d]) (ws := vs ++ [v]) h hσ (hr1.append (.cons r .nil))
      exact ⟨q0, vs, v, rfl, rfl, hp1, by rw [← hr.len]; exact lim_lt hz, PostS.nil I2 (q1.weaken g2)⟩
    · exact q1.elim
  · exact q.elim
/-- x[j] = e -/
theorem ds_setix {i : Nat} {o j : Expr} {fj : Fn D} {sp : Pos} (hx : PE X o (tVar i)) (hj : PE X j (denE F fj)) (he : PE X e (denE F f))
    (ha : ∀ v, assign (.Subscript o j sp) X.env v = (do
      let ov ← holding [v] (eval o X.env)
      let iv ← holding [v, ov] (eval j X.env)
      standAt sp
      holding [v, ov, iv] (setItem ov iv v)
      release [v, ov, iv] []) := by intro _; rfl) (hs : swapsWithSole [.Subscript o j sp] e pos.line X.env = pure false := by rfl) (hw : swappedStores [.Subscript o j sp] e X.env = pure none := by rfl)
    (h1 : (assignEach [.Subscript o j sp] X.env).map (·.2) = [assign (.Subscript o j sp) X.env] := by rfl) :
    PS X (.Assign [.Subscript o j sp] e pos) (denS F (sSetIx i f fj)) := (ps_asg he (pg_sub hx hj set_list ha) hs hw h1).imp fun En σ H ⟨ρ, W, I, q⟩ => by
  unfold sSetIx at q
  split at q
  · rename_i ds h
    obtain ⟨q0, vs, hσ, hm, h0, hp, hr⟩ := I.env.ow i ds h
    refine ⟨ρ, W, I, q.bind I fun d v H1 W1 g1 ok r q1 => ⟨.ref q0, hσ, ρ, W1, I.go g1 ok, q1.bind (I.go g1 ok) fun k kv H2 W2 g2 ok2 r2 q2 => ?_⟩⟩
    split at q2
    · split at q2
      · rename_i hk
        cases r2
        have I2 := (I.go g1 ok).go g2 ok2
        have hp2 : H2 q0 = some (.lst vs) := (g1.trans g2).ex q0 _ hp fun l => by rw [hm]; simp
        obtain ⟨I3, g3⟩ := I2.own (vs := vs) (es := ds.set _ d) (ws := vs.set _ v) h hσ ((reps_gr (g1.trans g2).s hr).set _ (rep_gr g2.s r))
        exact ⟨q0, vs, _, _, rfl, rfl, hp2, by rw [← hr.len]; exact hk, PostS.nil I3 (q2.weaken g3)⟩
      · exact q2.elim
    · exact q2.elim
  · exact q.elim
/-- x op= e -/
theorem ds_aug {i : Nat} {op : Operator} {o : Int → Int → Int} {x : Str} {xp : Pos} (hN : X.N.Nodup) (hi : X.N[i]? = some x) (hx : Loc X.env.scope x) (he : PE X e (denE F f)) (ho : PIp X op (ipI o)) (hf : X.fn x = true ∨ X.env.scope.names.lookup x = some .local := by first | exact .inl rfl | exact .inr rfl | assumption) :
    PS X (.AugAssign (.Name x xp) op e pos) (denS F (sAug o i f)) := (ps_aug hN hi hx he ho hf).imp fun En σ H ⟨ρ, W, I, q⟩ => by
  unfold sAug at q
  split at q
  · rename_i u h
    obtain ⟨v, hσ, r⟩ := I.env.fz i _ h
    cases r
    refine ⟨_, hσ, ρ, W, I, q.bind I fun d v H1 W1 g1 ok r q1 => ?_⟩
    split at q1
    · cases r
      exact ⟨_, _, rfl, rfl, PostS.nil (σ := σ.set i _) ⟨ok, I.gr.trans g1, (I.env.gr g1).set (.int _) (List.getElem?_eq_some_iff.mp h).1⟩ q1⟩
    · exact q1.elim
  · exact q.elim

/-! ### loops -/
theorem ds_for {fi : Fn (List D)} {gt : Tgt D} {is : List Nat} (hp : PassesOwn (model X.prog X.w) X.A X.env X.xe) (hc : X.calm = true) (hi : PI X tg iter (denI F fi)) (hg : PG X tg (denG F F.rep gt is)) (hb : PSs X body (denS F g))
    (hs : ∀ x, foldedSetIterable iter X.env x = pure x := by intro _; rfl) : PS X (.For tg iter body [] pos) (denS F (sFor fi gt g)) := (ps_for hp hc hi hg hb hs).imp fun En σ H ⟨ρ, W, I, q⟩ => by
  refine ⟨ρ, W, I, ?_⟩
  unfold sFor liftE at q
  cases hf : fi ρ W.S with
  | no => rw [hf] at q; exact q
  | er x S =>
    rw [hf] at q
    exact fun cls dd H' W' e g ok hr => q cls dd σ H' W' e (I.go g ok) g.s hr
  | ok ds S =>
    rw [hf] at q
    intro J Y G H1 W1 e1 g1 ok1 wk st yl
    have q1 : PostS F En W1 H1 (sFor.go gt g ds ρ W1.S) := by
      rw [e1]
      exact PostS.weaken g1.s q
    refine for_it wk (fun i σ' H' => ∃ ρ' W', IF F W' H' σ' ρ' ∧ GrS W1 H1 W' H' ∧ PostS F En W' H' (sFor.go gt g (ds.drop i) ρ' W'.S)) ⟨ρ, W1, I.go g1 ok1, GrS.refl _ _, q1⟩ ?_ ?_ ?_
    · rintro i σ' H' hi ⟨ρ', W', I', g', _⟩
      exact st W' H' g'
    · rintro i x σ' H2 H3 hi ⟨ρ', W', I', g', q'⟩ y
      have hdi : ds[i]? = some ds[i] := by simp [hi]
      obtain ⟨sm, rx⟩ := yl i ds[i] W' H2 x H3 g' I'.ok hdi y
      rw [List.drop_eq_getElem_cons hi] at q'
      unfold sFor.go at q'
      have I3 := I'.go (Gr.same sm) (I'.ok.same sm)
      have g3 : GrS W1 H1 W' H3 := g'.trans (Gr.same sm).s
      cases hg' : gt ds[i] ρ' with
      | none => rw [hg'] at q'; exact q'.elim
      | some ρ1 =>
        rw [hg'] at q'
        refine ⟨ρ', W', ds[i], ρ1, I3, rx, hg', fun σ2 I2 _ => ⟨ρ1, W', I2, ?_⟩⟩
        have q2 : PostS F En W' H3 (match g ρ1 W'.S with
          | .mk (.nx ρ2) S2 => sFor.go gt g (ds.drop (i + 1)) ρ2 S2
          | .mk (.ct ρ2) S2 => sFor.go gt g (ds.drop (i + 1)) ρ2 S2
          | .mk (.bk ρ2) S2 => .mk (.nx ρ2) S2
          | r => r) := PostS.weaken (Gr.same sm).s q'
        clear q'
        revert q2
        match g ρ1 W'.S with
        | .mk (.nx ρ2) S2 => exact fun q2 σ4 H4 W4 e4 I4 g4 => ⟨ρ2, W4, I4, g3.trans g4, by rw [e4]; exact PostS.weaken g4 q2⟩
        | .mk (.ct ρ2) S2 => exact fun q2 σ4 H4 W4 e4 I4 g4 => ⟨ρ2, W4, I4, g3.trans g4, by rw [e4]; exact PostS.weaken g4 q2⟩
        | .mk (.bk ρ2) S2 => exact fun q2 => q2
        | .mk (.rt d) S2 => exact fun q2 => q2
        | .mk (.xr x ρ2) S2 => exact fun q2 => q2
        | .no => exact fun q2 => q2
    · rintro σ' H' ⟨ρ', W', I', g', q'⟩
      rw [List.drop_length] at q'
      exact PostS.nil I' q'
theorem while_post {gb : Stm} {t : Fn Bool} : ∀ (n : Nat) (W : Wd) (H : Hp) (ρ : Rho), PostS F En W H (sWhile n t gb ρ W.S) → ∃ m, n = m + 1 := fun n W H ρ h => by
  cases n with
  | zero => exact h.elim
  | succ m => exact ⟨m, rfl⟩
theorem ds_while (n : Nat) (hp : PassesOwn (model X.prog X.w) X.A X.env X.xe) (hc : PT X c (denT F t)) (hb : PSs X body (denS F g)) : PS X (.While c body [] pos) (denS F (sWhile n t g)) := (ps_while hp hc hb).imp fun En σ H ⟨ρ, W, I, q⟩ => by
  refine ⟨fun m σ' H' => ∃ ρ' W', IF F W' H' σ' ρ' ∧ PostS F En W' H' (sWhile m t g ρ' W'.S), ⟨n, ρ, W, I, q⟩, ?_⟩
  rintro m σ' H' ⟨ρ', W', I', q'⟩
  obtain ⟨k, rfl⟩ := while_post m W' H' ρ' q'
  unfold sWhile at q'
  refine ⟨ρ', W', I', q'.bind I' fun b b' H1 W1 g1 ok1 r1 q1 => ?_⟩
  cases (show b = b' from r1)
  have I1 := I'.go g1 ok1
  cases b with
  | false =>
    rw [if_neg Bool.false_ne_true]
    exact PostS.nil I1 q1
  | true =>
    rw [if_pos rfl]
    refine ⟨fun σ2 H2 => ∃ ρ2 W2, IF F W2 H2 σ2 ρ2 ∧ PostS F En W2 H2 (sWhile k t g ρ2 W2.S), fun σ2 H2 h => ⟨k, Nat.lt_succ_self k, h⟩, ρ', W1, I1, ?_⟩
    have q1 : PostS F En W1 H1 (match g ρ' W1.S with
      | .mk (.nx ρ2) S2 => sWhile k t g ρ2 S2
      | .mk (.ct ρ2) S2 => sWhile k t g ρ2 S2
      | .mk (.bk ρ2) S2 => .mk (.nx ρ2) S2
      | r => r) := q1
    revert q1
    match g ρ' W1.S with
    | .mk (.nx ρ2) S2 => exact fun q2 σ4 H4 W4 e4 I4 g4 => ⟨ρ2, W4, I4, by rw [e4]; exact PostS.weaken g4 q2⟩
    | .mk (.ct ρ2) S2 => exact fun q2 σ4 H4 W4 e4 I4 g4 => ⟨ρ2, W4, I4, by rw [e4]; exact PostS.weaken g4 q2⟩
    | .mk (.bk ρ2) S2 => exact fun q2 => q2
    | .mk (.rt d) S2 => exact fun q2 => q2
    | .mk (.xr x ρ2) S2 => exact fun q2 => q2
    | .no => exact fun q2 => q2
end

/-! ### defs -/
abbrev Sem := List D → Store → R D
def startR (n : Nat) (ds : List D) : Rho := ds.map .fz ++ List.replicate (n - ds.length) .un
def fnSem (n : Nat) (g : Stm) : Sem := fun ds S => match g (startR n ds) S with
  | .mk (.nx _) S' => .ok .non S'
  | .mk (.rt d) S' => .ok d S'
  | .mk (.xr x _) S' => .er x S'
  | _ => .no
def fmOf (K : PySem.W.Frag) (mg : Str → Option Value) (T : Tx) (W : Wd) (H : Hp) (E : XK) (self : Addr := (0 : Nat)) : Fm := ⟨K, mg, W, H, fun cls dd _ H' => E cls dd H', self, T, none⟩
def spD (K : PySem.W.Frag) (mg : Str → Option Value) (T : Tx) (np : Nat) (f : Sem) : Sp := fun vs H Q E => ∃ ds W, vs.length = np ∧ (WOk W H ∧ W.T = T) ∧ Reps K mg W.μ (hid W.M H) ds vs ∧ Post (fmOf K mg T W H E) (fmOf K mg T W H E).rep W H [] (f ds W.S) Q
theorem startR_env {K : PySem.W.Frag} {mg : Str → Option Value} {T : Tx} {W : Wd} {H : Hp} {E : XK} {N : List Str} {ds : List D} {vs : List V} (hT : W.T = T) (h : Reps K mg W.μ (hid W.M H) ds vs) : EnvOk (fmOf K mg T W H E) W H (L2.start N vs) (startR N.length ds) := by
  have no : ∀ (i : Nat) (s : Sl), (startR N.length ds)[i]? = some s → s = .un ∨ ∃ d, s = .fz d := fun i s h => by
    unfold startR at h
    rw [List.getElem?_append] at h
    split at h
    · rw [List.getElem?_map] at h
      obtain ⟨d, _, rfl⟩ := Option.map_eq_some_iff.mp h
      exact .inr ⟨d, rfl⟩
    · rw [List.getElem?_replicate] at h
      split at h
      · cases h; exact .inl rfl
      · cases h
  refine ⟨by simp [startR, L2.start, h.len], fun i d e => ?_, fun i d e => ?_, fun i j d es p e => ?_, fun i c ns xs e => ?_, fun i x e => ?_, hT⟩
  · unfold startR at e
    rw [List.getElem?_append] at e
    split at e
    · rename_i hi
      rw [List.getElem?_map] at e
      obtain ⟨d', e1, e2⟩ := Option.map_eq_some_iff.mp e
      cases e2
      obtain ⟨v, a, b⟩ := h.get (i := i) e1
      refine ⟨v, ?_, b⟩
      unfold L2.start
      rw [List.getElem?_append_left (by rw [List.length_map, ← h.len]; simpa using hi), List.getElem?_map, a]
      rfl
    · rw [List.getElem?_replicate] at e
      split at e <;> cases e
  · rcases no i _ e with z | ⟨_, z⟩ <;> cases z
  · rcases no i _ e with z | ⟨_, z⟩ <;> cases z
  · rcases no i _ e with z | ⟨_, z⟩ <;> cases z
  · rcases no i _ e with z | ⟨_, z⟩ <;> cases z
section
variable {P : Program} {w : World} {K : PySem.W.Frag} {mg : Str → Option Value} {base : Heap} {T : Tx}
/-- a def by its body's reading -/
theorem okD {x qual : Str} {st : Stmt} {f : Addr} {fd : FuncData} {N ps : List Str} {k : Nat} {g : Stm} (Fn : Fun K x qual st f fd) (S : FnScope N ps (defScope st))
    (hbody : ∀ (cdv : Value) (A : Around) (outer : List Env) (s : Shared) (H : Hp) (E : XK) (W : Wd), Room k (A.deeper (PyProof.Rows.envOfC qual (defScope st) s.heap.objs.size f cdv)) →
      PSs (cxOf (L2N.CX P w) P w K mg base N qual (defScope st) f cdv A outer s H E) (defBody st) (denS (fmOf K mg T W H E) g)) : FnOk P w K mg base (L2N.CX P w) (k + 1) f fd ps (spD K mg T ps.length (fnSem N.length g)) := by
  refine Fn.okXN S (fun vs H Q E h => ?_) (fun cdv A outer s H vs Q E hr h => ?_)
  · obtain ⟨ds, W, h1, _⟩ := h
    exact h1
  · obtain ⟨ds, W, h1, ⟨ok, hT⟩, hr2, q⟩ := h
    refine ⟨_, hbody cdv A outer s H E W hr, startR N.length ds, W, ⟨ok, Gr.refl _ _, startR_env hT hr2⟩, ?_⟩
    unfold fnSem at q
    revert q
    match g (startR N.length ds) W.S with
    | .mk (.nx ρ) S => exact fun q σ' H' W' e I g => q .non H' W' e I.gr I.ok .non
    | .mk (.rt d) S => exact fun q v H' W' e ok g r => q v H' W' e g ok r
    | .mk (.xr x ρ) S => exact fun q cls dd σ' H' W' e I g r => q cls dd H' W' e I.gr I.ok r
    | .mk (.bk ρ) S => exact fun q => q.elim
    | .mk (.ct ρ) S => exact fun q => q.elim
    | .no => exact fun q => q.elim
/-- a def as a callee -/
def Callee (P : Program) (w : World) (K : PySem.W.Frag) (mg : Str → Option Value) (base : Heap) (T : Tx) (k : Nat) (x : Str) (np : Nat) (f : Sem) : Prop :=
  ∃ fa fd ps, mg x = some (.ref fa) ∧ FnOk P w K mg base (L2N.CX P w) k fa fd ps (spD K mg T np f) ∧ PySem.W.keepIn K (.ref fa) = true ∧ Binds K fd ps []
end
section
variable {X : Cx} {F : Fm} {e : Expr} {es : List Expr} {fs : Fn (List D)} {pos p : Pos} {x : Str} {k : Nat}
theorem Post.wish {α β : Type} {F1 F2 : Fm} {rel1 rel2 : Wd → Hp → α → β → Prop} {W : Wd} {H : Hp} {σ1 σ2 : L2.St} {r : R α} {Q : β → Hp → Prop} (hmg : F2.mg = F1.mg) (hK : F2.K = F1.K) (hrel : ∀ W H a b, rel2 W H a b → rel1 W H a b) (hw : ∀ cls dd H', F1.wish cls dd σ1 H' → F2.wish cls dd σ2 H') (h : Post F1 rel1 W H σ1 r Q) : Post F2 rel2 W H σ2 r Q := by
  cases r with
  | ok a S => exact fun b H' W' e g ok r => h b H' W' e g ok (hrel _ _ _ _ r)
  | er x S =>
    refine fun cls dd H' W' e g ok r => hw cls dd H' (h cls dd H' W' e g ok ?_)
    obtain ⟨C, h1, h2, h3⟩ := r
    refine ⟨C, by rw [← hmg]; exact h1, h2, ?_⟩
    cases hx : x.fld with
    | none => rw [hx] at h3; exact h3
    | some fs =>
      rw [hx] at h3
      obtain ⟨d, vs, a, b, c⟩ := h3
      refine ⟨d, vs, a, b, ?_⟩
      show Reps F1.K F1.mg _ _ _ _
      rw [← hK, ← hmg]
      exact c
  | no => exact h
theorem de_call {np : Nat} {f : Sem} (c : Callee X.prog X.w X.K X.mg X.base F.T k x np f) (hr : Room k X.A) (hg : Gl X x) (tk : L2N.Takes X F.wish) (ha : PA X (e :: es) (denA F fs)) (hnp : (e :: es).length = np)
    (hlen : ∀ ρ S ds S', fs ρ S = .ok ds S' → ds.length = np) (hK : F.K = X.K := by rfl) (hmg : F.mg = X.mg := by rfl)
    (hdb : (x == ("__debug__" : Str)) = false := by decide) (he : starEach (e :: es) X.env = (false, eval e X.env) :: starEach es X.env := by rfl) (hpl : (backTo pos (starEach es X.env)).any (·.1) = false := by rfl) :
    PE X (.Call (.Name x p) (e :: es) [] pos) (denE F (fUn f fs)) := by
  obtain ⟨fa, fd, ps, hm, G, hk, hb⟩ := c
  refine (pe_callS G hr hg hm hk hb (E := WE F.wish) (fun σ => L2N.passAt tk σ) ha hdb he hpl).imp fun σ H Q ⟨ρ, W, I, q⟩ => ⟨ρ, W, I, ?_⟩
  unfold fUn at q
  cases hf : fs ρ W.S with
  | no => rw [hf] at q; exact q
  | er x S => rw [hf] at q; exact q
  | ok ds S =>
    rw [hf] at q
    have q : Post F F.rep W H σ (f ds S) Q := q
    intro vs H1 W1 e1 g1 ok1 r1
    refine ⟨ds, W1, ?_, ⟨ok1, (I.go g1 ok1).env.tk⟩, by rw [← hK, ← hmg]; exact r1, ?_⟩
    · rw [← r1.len]; exact hlen _ _ _ _ hf
    · rw [e1]
      refine Post.wish (F1 := F) (rel1 := F.rep) hmg.symm hK.symm (fun W H a b h => ?_) (fun cls dd H' h => h) (q.weaken g1)
      show Rep F.K F.mg _ _ _ _
      rw [hK, hmg]; exact h
end
end Bx

namespace Bx
open PySem L2

/-! ### instances -/
theorem zip_look {K : PySem.W.Frag} {mg : Str → Option Value} {μ : Nat → Option Addr} {H : Hp} (nm : Str) : ∀ {ns : List Str} {xs : List D} {vs : List V} {d : D}, Reps K mg μ H xs vs → (ns.zip xs).lookup nm = some d → ∃ v, (ns.zip vs).lookup nm = some v ∧ Rep K mg μ H d v
  | [], _, _, _, _, h => by cases h
  | n :: ns, _, _, _, .nil, h => by cases h
  | n :: ns, _, _, d', .cons (d := d) (v := v) (ds := ds) (vs := vs) r1 r2, h => by
    rw [List.zip_cons_cons, List.lookup_cons] at h ⊢
    cases e : nm == n with
    | true =>
      rw [e] at h
      cases h
      exact ⟨_, rfl, r1⟩
    | false =>
      rw [e] at h
      exact zip_look nm r2 h
def gFld (cn nm : Str) : D → Store → R D
  | .ins c ns xs, S => if c = cn then (match (ns.zip xs).lookup nm with
    | some d => .ok d S
    | none => .no) else .no
  | _, _ => .no
section
variable {X : Cx} {F : Fm} {a b e : Expr} {es : List Expr} {f f1 f2 : Fn D} {fs : Fn (List D)} {pos pos' p : Pos} {cn nm : Str} {C : Addr} {W : Wd} {H : Hp} {σ : L2.St} {ρ : Rho}
theorem de_fld (he : PE X e (denE F f)) (hC : F.mg cn = some (.ref C)) (cl : Cls F.K C) (na : NoAttr F.K C nm) (hb : attributeBase e nm X.env (eval e X.env) = eval e X.env := by rfl) (hK : F.K = X.K := by rfl) : PE X (.Attribute e nm pos) (denE F (fUn (gFld cn nm) f)) :=
  (pe_fld he hb).imp fun σ H Q ⟨ρ, W, I, q⟩ => ⟨ρ, W, I, q.bind fun d v H1 W1 g ok r q1 => by
    cases r with
    | @ins a C' dx c ns vs ds h1 h2 h3 h4 =>
      by_cases e1 : c = cn
      · subst e1
        rw [hC] at h1
        cases h1
        have q1 : Post F F.rep W1 H1 σ (if c = c then (match (ns.zip ds).lookup nm with
          | some d => .ok d W1.S
          | none => .no) else .no) Q := q1
        rw [if_pos rfl] at q1
        cases hd : (ns.zip ds).lookup nm with
        | none => rw [hd] at q1; exact q1.elim
        | some d' =>
          rw [hd] at q1
          obtain ⟨v, hv, r'⟩ := zip_look nm h4 hd
          exact ⟨a, C, dx, _, v, rfl, hid_le _ _ h2, by rw [← hK]; exact cl, by rw [← hK]; exact na, hv, Post.val (rel := F.rep) ok q1 r'⟩
      · have q1 : Post F F.rep W1 H1 σ (if c = cn then (match (ns.zip ds).lookup nm with
          | some d => .ok d W1.S
          | none => .no) else .no) Q := q1
        rw [if_neg e1] at q1
        exact q1.elim
    | _ => exact q1.elim⟩
def isIns (cn : Str) : D → Bool
  | .ins c _ _ => decide (c = cn)
  | _ => false
/-- a property of an own class -/
def gProp (cn : Str) (f : Sem) : D → Store → R D := fun d S => if isIns cn d = true then noer (fun x S1 => .ok x S1) (f [d] S) else .no
theorem ins_rep {d : D} {v : V} (h : F.rep W H d v) (hi : isIns cn d = true) (hC : F.mg cn = some (.ref C)) : ∃ a dx fs, v = .ref a ∧ H a = some (.ins C dx fs) := by
  cases h with
  | @ins a C' dx c ns vs ds h1 h2 h3 h4 =>
    have : c = cn := by simpa [isIns] using hi
    subst this
    rw [hC] at h1
    cases h1
    exact ⟨a, dx, _, rfl, hid_le _ _ h2⟩
  | _ => cases hi
theorem de_prop {sem : Sem} {k : Nat} {pr ga : Addr} {fd : FuncData} {ps : List Str} (he : PE X e (denE F f)) (hC : F.mg cn = some (.ref C)) (cl : Cls X.K C) (hp : PropOf X.K C nm pr ga) (G : FnOk X.prog X.w X.K X.mg X.base (L2N.CX X.prog X.w) k ga fd ps (spD X.K X.mg F.T 1 sem))
    (hr : Room (k + 1) X.A) (hb : Binds X.K fd ps []) (hab : attributeBase e nm X.env (eval e X.env) = eval e X.env := by rfl) (hK : F.K = X.K := by rfl) (hmg : F.mg = X.mg := by rfl) : PE X (.Attribute e nm pos) (denE F (fUn (gProp cn sem) f)) :=
  (pe_prop he cl hp G hr hb .nil passLN hab).imp fun σ H Q ⟨ρ, W, I, q⟩ => ⟨ρ, W, I, q.bind fun d v H1 W1 g ok r q1 => by
    unfold gProp at q1
    split at q1
    · rename_i hi
      obtain ⟨a, dx, fs, rfl, ha⟩ := ins_rep r hi hC
      refine ⟨a, dx, fs, rfl, ha, [d], W1, rfl, ⟨ok, (I.go g ok).env.tk⟩, by rw [← hK, ← hmg]; exact .cons r .nil, ?_⟩
      revert q1
      cases sem [d] W1.S with
      | ok x S =>
        intro q1 b H' W' e g ok r
        exact q1 b H' W' e g ok (by
          show Rep F.K F.mg _ _ _ _
          rw [hK, hmg]; exact r)
      | er x S => exact fun q => q.elim
      | no => exact fun q => q.elim
    · exact q1.elim⟩

/-! ### making one -/
abbrev SemI := List D → Store → R (List Str × List D)
@[simp] def fMake (cn : Str) (f : SemI) (fs : Fn (List D)) : Fn D := fun ρ S => (fs ρ S).bind fun ds S1 => (f ds S1).bind fun p S2 => .ok (.ins cn p.1 p.2) S2
def spI (K : PySem.W.Frag) (mg : Str → Option Value) (T : Tx) (C : Addr) (np : Nat) (f : SemI) : Sp := fun vs H Q E => ∃ x dx vs' ds W H1, vs = .ref x :: vs' ∧ vs'.length = np ∧ H = upd (upd H1 dx (.own x)) x (.ins C dx []) ∧ H1 x = none ∧ H1 dx = none ∧ dx ≠ x ∧ (WOk W H1 ∧ W.T = T) ∧ Reps K mg W.μ (hid W.M H1) ds vs' ∧
  match f ds W.S with
  | .ok (ns, xs) S' => ∀ H' W' ws dx', W'.S = S' → Gr W H1 W' H' → WOk W' H' → W'.M x = some 0 → H' x = some (.ins C dx' (ns.zip ws)) → ns.length = ws.length → Reps K mg W'.μ (hid W'.M H') xs ws → Q .non H'
  | .er x S' => ∀ cls dd H' W', W'.S = S' → Gr W H1 W' H' → WOk W' H' → ERep (fmOf K mg T W H1 E) W' H' x cls dd → E cls dd H'
  | .no => False
theorem de_make {f : SemI} {k np : Nat} {fa : Addr} {fd : FuncData} {ps : List Str} {E : XK} (M : Mk X.K C fa) (G : FnOk X.prog X.w X.K X.mg X.base (L2N.CX X.prog X.w) k fa fd ps (spI X.K X.mg F.T C np f)) (hr : Room (k + 1) X.A) (hg : Gl X cn) (hm : X.mg cn = some (.ref C)) (hb : Binds X.K fd ps [])
    (hw : ∀ cls dd σ H, F.wish cls dd σ H = E cls dd H) (tk : L2N.Takes X F.wish) (ha : PA X (e :: es) (denA F fs)) (hlen : ∀ ρ S ds S', fs ρ S = .ok ds S' → ds.length = np) (hK : F.K = X.K := by rfl) (hmg : F.mg = X.mg := by rfl)
    (hdb : (cn == ("__debug__" : Str)) = false := by decide) (he : starEach (e :: es) X.env = (false, eval e X.env) :: starEach es X.env := by rfl) (hpl : (backTo pos (starEach es X.env)).any (·.1) = false := by rfl) :
    PE X (.Call (.Name cn p) (e :: es) [] pos) (denE F (fMake cn f fs)) :=
  (pe_make M G hr hg hm hb .nil (E := E) (L2N.passes_call tk fun cls d σ H h => by rw [hw]; exact h) ha hdb he hpl).imp fun σ H Q ⟨ρ, W, I, q⟩ => ⟨ρ, W, I, by
    unfold fMake at q
    cases hf : fs ρ W.S with
    | no => rw [hf] at q; exact q
    | er x S => rw [hf] at q; exact q
    | ok ds S =>
      rw [hf] at q
      have q : Post F F.rep W H σ ((f ds S).bind fun p S2 => .ok (.ins cn p.1 p.2) S2) Q := q
      intro vs H1 W1 e1 g1 ok1 r1 x dx hx hdx hne
      refine ⟨x, dx, vs, ds, W1, H1, by rw [List.append_nil], ?_, rfl, hx, hdx, hne, ⟨ok1, (I.go g1 ok1).env.tk⟩, by rw [← hK, ← hmg]; exact r1, ?_⟩
      · rw [← r1.len]; exact hlen _ _ _ _ hf
      · rw [e1]
        cases hs : f ds S with
        | no => rw [hs] at q; exact q.elim
        | er y S2 =>
          rw [hs] at q
          intro cls dd H' W' e g ok r
          rw [← hw cls dd σ]
          refine q cls dd H' W' e (g1.trans g) ok ?_
          obtain ⟨C', h1, h2, h3⟩ := r
          refine ⟨C', by rw [hmg]; exact h1, h2, ?_⟩
          cases hx : y.fld with
          | none => rw [hx] at h3; exact h3
          | some fs =>
            rw [hx] at h3
            obtain ⟨d, ws, a, b, c⟩ := h3
            refine ⟨d, ws, a, b, ?_⟩
            show Reps F.K F.mg _ _ _ _
            rw [hK, hmg]
            exact c
        | ok nx S2 =>
          rw [hs] at q
          obtain ⟨ns, xs⟩ := nx
          intro H' W' ws dx' e g ok hM hH hl r
          refine ⟨rfl, ?_⟩
          have q : Post F F.rep W H σ (.ok (.ins cn ns xs) S2) Q := q
          have hx0 : H x = none := by
            cases z : H x with
            | none => rfl
            | some u => exact absurd hx (g1.ds x (by simp [z]))
          refine q (.ref x) H' (unmask x W') e (unmask_gr hM hx0 (g1.trans g)) (unmask_ok ok hM) (.ins (by rw [hmg]; exact hm) (hid_some.mpr ⟨unmask_self, hH⟩) hl ?_)
          rw [hK, hmg]
          exact Reps.mono (fun _ _ h => h) (unmask_same hM) _ _ r⟩
def isNw : Sl → Bool
  | .nw _ _ _ => true
  | _ => false
/-- self.nm = e, of the instance that is being made -/
@[simp] def sFld (cn : Str) (i : Nat) (nm : Str) (f : Fn D) : Stm := fun ρ S => match ρ[i]? with
  | some (.nw c ns xs) => liftE f (fun d ρ S => if c = cn ∧ ns.length < 100 ∧ nm ∉ ns ∧ ρ.countP isNw ≤ 1 then .mk (.nx (ρ.set i (.nw c (ns ++ [nm]) (xs ++ [d])))) S else .no) ρ S
  | _ => .no
theorem putF_new {nm : Str} {v : V} : ∀ {fs : List (Str × V)}, nm ∉ fs.map (·.1) → putF nm v fs = fs ++ [(nm, v)]
  | [], _ => rfl
  | (g, u) :: fs, h => by
    have h1 : ¬ g = nm := fun e => h (by simp [e])
    have h2 : nm ∉ fs.map (·.1) := fun e => h (by simp only [List.map_cons, List.mem_cons]; exact .inr e)
    show (if g = nm then (g, v) :: fs else (g, u) :: putF nm v fs) = _
    rw [if_neg h1, putF_new h2]
    rfl
theorem zip_snoc {α β : Type} : ∀ {xs : List α} {ys : List β} {x : α} {y : β}, xs.length = ys.length → (xs ++ [x]).zip (ys ++ [y]) = xs.zip ys ++ [(x, y)]
  | [], [], _, _, _ => rfl
  | a :: xs, b :: ys, x, y, h => by
    have h' : xs.length = ys.length := by simpa using h
    show (a, b) :: (xs ++ [x]).zip (ys ++ [y]) = _
    rw [zip_snoc h']
    rfl
theorem fst_zip {α β : Type} : ∀ {xs : List α} {ys : List β}, xs.length = ys.length → (xs.zip ys).map (·.1) = xs
  | [], [], _ => rfl
  | a :: xs, b :: ys, h => by
    have h' : xs.length = ys.length := by simpa using h
    show a :: (xs.zip ys).map (·.1) = _
    rw [fst_zip h']
theorem one_nw : ∀ {ρ : Rho} {i j : Nat} {c c' : Str} {ns ns' : List Str} {xs xs' : List D}, ρ.countP isNw ≤ 1 → ρ[i]? = some (.nw c ns xs) → ρ[j]? = some (.nw c' ns' xs') → i = j
  | [], _, _, _, _, _, _, _, _, _, h, _ => by simp at h
  | s :: ρ, 0, 0, _, _, _, _, _, _, _, _, _ => rfl
  | s :: ρ, 0, j + 1, c, c', ns, ns', xs, xs', hc, h1, h2 => by
    exfalso
    simp at h1
    subst h1
    have h3 : 0 < ρ.countP isNw := List.countP_pos_iff.mpr ⟨_, List.mem_of_getElem? (by simpa using h2), rfl⟩
    rw [List.countP_cons] at hc
    have h4 : ρ.countP isNw + 1 ≤ 1 := hc
    omega
  | s :: ρ, i + 1, 0, c, c', ns, ns', xs, xs', hc, h1, h2 => by
    exfalso
    simp at h2
    subst h2
    have h3 : 0 < ρ.countP isNw := List.countP_pos_iff.mpr ⟨_, List.mem_of_getElem? (by simpa using h1), rfl⟩
    rw [List.countP_cons] at hc
    have h4 : ρ.countP isNw + 1 ≤ 1 := hc
    omega
  | s :: ρ, i + 1, j + 1, c, c', ns, ns', xs, xs', hc, h1, h2 => by
    have : ρ.countP isNw ≤ 1 := by
      rw [List.countP_cons] at hc
      omega
    exact congrArg (· + 1) (one_nw (i := i) (j := j) this (by simpa using h1) (by simpa using h2))
theorem ds_fld {i : Nat} {o : Expr} (ho : PE X o (tVar i)) (hC : F.mg cn = some (.ref C)) (cl : Cls F.K C) (na : NoAttr F.K C nm) (he : PE X e (denE F f)) (hs : swapsWith e (some (.Attribute o nm pos')) pos.line X.env = pure false := by rfl) (hK : F.K = X.K := by rfl) :
    PS X (.Assign [.Attribute o nm pos'] e pos) (denS F (sFld cn i nm f)) := (ps_fld ho he hs).imp fun En σ H ⟨ρ, W, I, q⟩ => by
  unfold sFld at q
  split at q
  · rename_i c ns xs h
    have q := q
    · have dummy : True := trivial
      refine ⟨ρ, W, I, q.bind I fun d v H1 W1 g ok r q1 => ?_⟩
      have I1 := I.go g ok
      split at q1
      · rename_i hz
        obtain ⟨hz0, hz1, hz2, hz3⟩ := hz
        subst hz0
        obtain ⟨p, C', dx, vs, hσ, hm, hM, h0, hH, hl, hr, hself⟩ := I1.env.nw i c ns xs h
        rw [hC] at hm
        cases hm
        have hi : i < ρ.length := (List.getElem?_eq_some_iff.mp h).1
        refine ⟨.ref p, hσ, p, C, dx, ns.zip vs, rfl, hH, by rw [← hK]; exact cl, by rw [← hK]; exact na, ?_, ?_⟩
        · rw [List.length_zip]; omega
        · rw [putF_new (by rw [fst_zip hl]; exact hz2), ← zip_snoc hl]
          have hh : ∀ o, hid W1.M (upd H1 p o) = hid W1.M H1 := fun o => hid_own (by rw [hM]; simp)
          have rk : ∀ d v o, F.rep W1 H1 d v → F.rep W1 (upd H1 p o) d v := fun d v o h => by
            show Rep _ _ _ (hid W1.M _) _ _
            rw [hh]; exact h
          have rks : ∀ d v o, F.reps W1 H1 d v → F.reps W1 (upd H1 p o) d v := fun d v o h => by
            show Reps _ _ _ (hid W1.M _) _ _
            rw [hh]; exact h
          have nq : ∀ q u, H1 q = some u → (∀ C dx fs, u ≠ .ins C dx fs) → q ≠ p := fun q u hq hn z => by
            rw [z, hH] at hq
            cases hq
            exact hn _ _ _ rfl
          refine PostS.nil (W := W1) (H := upd H1 p (.ins C dx ((ns ++ [nm]).zip (vs ++ [v])))) ⟨I1.ok.own hM (ins_code hH), ⟨I1.gr.ms, fun q o hq hl => by rw [upd_ne fun z => by rw [z, h0] at hq; cases hq]; exact I1.gr.ex q o hq hl, fun q hq => by
            by_cases z : q = p
            · rw [z, upd_same]; simp
            · rw [upd_ne z]; exact I1.gr.ds q hq, I1.gr.mu, I1.gr.tt⟩, ?_⟩ (q1.weaken ⟨fun q o n hq => ⟨n, by rw [upd_ne fun z => by rw [z, hM] at n; cases n]; exact hq⟩, fun _ _ h => h, rfl⟩)
          refine ⟨by rw [List.length_set]; exact I1.env.len, fun j d' h => ?_, fun j d' h => ?_, fun j k ds es q h1 h2 h3 h4 => ?_, fun j c' ns' xs' h' => ?_, fun j x h' => ?_, I1.env.tk⟩
          · by_cases z : i = j
            · subst z
              rw [List.getElem?_set_self hi] at h
              cases h
            · rw [List.getElem?_set_ne z] at h
              obtain ⟨v, a, b⟩ := I1.env.fz j d' h
              exact ⟨v, a, rk _ _ _ b⟩
          · by_cases z : i = j
            · subst z
              rw [List.getElem?_set_self hi] at h
              cases h
            · rw [List.getElem?_set_ne z] at h
              obtain ⟨q, ws, a, b, c, d, e⟩ := I1.env.ow j d' h
              exact ⟨q, ws, a, b, c, (upd_ne (nq q _ d (fun _ _ _ z => by cases z))).trans d, rks _ _ _ e⟩
          · by_cases z : i = j
            · subst z
              rw [List.getElem?_set_self hi] at h1
              cases h1
            · by_cases z2 : i = k
              · subst z2
                rw [List.getElem?_set_self hi] at h2
                cases h2
              · rw [List.getElem?_set_ne z] at h1
                rw [List.getElem?_set_ne z2] at h2
                exact I1.env.dj j k ds es q h1 h2 h3 h4
          · by_cases z : i = j
            · subst z
              rw [List.getElem?_set_self hi] at h'
              cases h'
              exact ⟨p, C, dx, vs ++ [v], hσ, hC, hM, h0, upd_same, by simp [hl], (rks _ _ _ hr).append (.cons (rk _ _ _ r) .nil), hself⟩
            · rw [List.getElem?_set_ne z] at h'
              exact absurd (one_nw hz3 h h') z
          · by_cases z : i = j
            · subst z
              rw [List.getElem?_set_self hi] at h'
              cases h'
            · rw [List.getElem?_set_ne z] at h'
              obtain ⟨q, cls, dd, a, b, c2⟩ := I1.env.ex j x h'
              exact ⟨q, cls, dd, a, b, erep_gr ⟨fun q o n hq => ⟨n, by rw [upd_ne fun z => by rw [z, hM] at n; cases n]; exact hq⟩, fun _ _ h => h, rfl⟩ c2⟩
      · exact q1.elim
  · exact q.elim
end
def startI (cn : Str) (n : Nat) (ds : List D) : Rho := .nw cn [] [] :: (ds.map .fz ++ List.replicate (n - (ds.length + 1)) .un)
def fnI (cn : Str) (n : Nat) (g : Stm) : SemI := fun ds S => match g (startI cn n ds) S with
  | .mk (.nx ρ) S' => (match ρ with
    | .nw c ns xs :: _ => if c = cn then .ok (ns, xs) S' else .no
    | _ => .no)
  | .mk (.xr x _) S' => .er x S'
  | _ => .no
section
variable {P : Program} {w : World} {K : PySem.W.Frag} {mg : Str → Option Value} {base : Heap} {T : Tx}
theorem okI {x qual cn : Str} {st : Stmt} {f C : Addr} {fd : FuncData} {N ps : List Str} {k np : Nat} {g : Stm} (Fn : Fun K x qual st f fd) (S : FnScope N ps (defScope st)) (hps : ps.length = np + 1) (hN : 0 < N.length) (hC : mg cn = some (.ref C))
    (hbody : ∀ (cdv : Value) (A : Around) (outer : List Env) (s : Shared) (H H1 : Hp) (E : XK) (W : Wd) (self : Addr), Room k (A.deeper (PyProof.Rows.envOfC qual (defScope st) s.heap.objs.size f cdv)) →
      PSs (cxOf (L2N.CX P w) P w K mg base N qual (defScope st) f cdv A outer s H E) (defBody st) (denS (fmOf K mg T W H1 E self) g)) : FnOk P w K mg base (L2N.CX P w) (k + 1) f fd ps (spI K mg T C np (fnI cn N.length g)) := by
  refine Fn.okXN S (fun vs H Q E h => ?_) (fun cdv A outer s H vs Q E hr h => ?_)
  · obtain ⟨x, dx, vs', ds, W, H1, rfl, h1, _⟩ := h
    rw [hps, ← h1]; rfl
  · obtain ⟨x, dx, vs', ds, W, H1, rfl, h1, rfl, hx, hdx, hne, ⟨ok, hT⟩, hr2, q⟩ := h
    have hx' : upd H1 dx (.own x) x = none := by rw [upd_ne (Ne.symm hne)]; exact hx
    have sm := same_new (o := .own x) hdx
    obtain ⟨ok2, g2⟩ := mask_new (o := .ins C dx []) (ok.same sm) hx'
    have g3 : Gr W H1 (mask x W) (upd (upd H1 dx (.own x)) x (.ins C dx [])) := (Gr.same sm).trans g2
    refine ⟨_, hbody cdv A outer s _ H1 E W x hr, startI cn N.length ds, mask x W, ⟨ok2, g3, ?_⟩, ?_⟩
    · have rr : Reps K mg (mask x W).μ (hid (mask x W).M (upd (upd H1 dx (.own x)) x (.ins C dx []))) ds vs' := Reps.mono g3.s.mu g3.s.same _ _ hr2
      have e0 := startR_env (K := K) (mg := mg) (W := mask x W) (E := E) (N := List.replicate (N.length - 1) ("" : Str)) (T := T) hT rr
      have no : ∀ (i : Nat) (s : Sl), (startI cn N.length ds)[i + 1]? = some s → s = .un ∨ ∃ d, s = .fz d := fun i s h => by
        unfold startI at h
        rw [List.getElem?_cons_succ, List.getElem?_append] at h
        split at h
        · rw [List.getElem?_map] at h
          obtain ⟨d, _, rfl⟩ := Option.map_eq_some_iff.mp h
          exact .inr ⟨d, rfl⟩
        · rw [List.getElem?_replicate] at h
          split at h
          · cases h; exact .inl rfl
          · cases h
      refine ⟨?_, fun i d e => ?_, fun i d e => ?_, fun i j d es p e => ?_, fun i c ns xs e => ?_, fun i c e => ?_, hT⟩
      · simp [startI, L2.start, hr2.len]
        all_goals omega
      · cases i with
        | zero => cases e
        | succ i =>
          unfold startI at e
          rw [List.getElem?_cons_succ, List.getElem?_append] at e
          split at e
          · rename_i hi
            rw [List.getElem?_map] at e
            obtain ⟨d', e1, e2⟩ := Option.map_eq_some_iff.mp e
            cases e2
            obtain ⟨v, a, b⟩ := rr.get (i := i) e1
            refine ⟨v, ?_, b⟩
            unfold L2.start
            rw [List.map_cons, List.cons_append, List.getElem?_cons_succ, List.getElem?_append_left (by rw [List.length_map, ← hr2.len]; simpa using hi), List.getElem?_map, a]
            rfl
          · rw [List.getElem?_replicate] at e
            split at e <;> cases e
      · cases i with
        | zero => cases e
        | succ i => rcases no i _ e with z | ⟨_, z⟩ <;> cases z
      · cases i with
        | zero => cases e
        | succ i => rcases no i _ e with z | ⟨_, z⟩ <;> cases z
      · cases i with
        | zero =>
          cases e
          exact ⟨x, C, dx, [], rfl, hC, mask_self, hx, upd_same, rfl, .nil, rfl⟩
        | succ i => rcases no i _ e with z | ⟨_, z⟩ <;> cases z
      · cases i with
        | zero => cases e
        | succ i => rcases no i _ e with z | ⟨_, z⟩ <;> cases z
    · show PostS (fmOf K mg T W H1 E x) _ (mask x W) _ (g (startI cn N.length ds) W.S)
      unfold fnI at q
      revert q
      match g (startI cn N.length ds) W.S with
      | .mk (.nx ρ) S =>
        intro q σ' H' W' e I g
        cases ρ with
        | nil => exact q.elim
        | cons sl tl =>
          cases sl with
          | nw c ns xs =>
            by_cases hc : c = cn
            · subst hc
              have q : (match (if c = c then R.ok (ns, xs) S else .no : R (List Str × List D)) with
                | .ok (ns, xs) S' => ∀ H' W' ws dx', W'.S = S' → Gr W H1 W' H' → WOk W' H' → W'.M x = some 0 → H' x = some (.ins C dx' (ns.zip ws)) → ns.length = ws.length → Reps K mg W'.μ (hid W'.M H') xs ws → Q .non H'
                | .er y S' => ∀ cls dd H' W', W'.S = S' → Gr W H1 W' H' → WOk W' H' → ERep (fmOf K mg T W H1 E) W' H' y cls dd → E cls dd H'
                | .no => False) := q
              rw [if_pos rfl] at q
              obtain ⟨p, C', dx', ws, hσ, hm, hM, hn, hH, hl, hr', hself⟩ := I.env.nw 0 c ns xs rfl
              have hm : mg c = some (.ref C') := hm
              rw [hC] at hm
              cases hm
              have hself : p = x := hself
              subst hself
              exact q H' W' ws dx' e I.gr I.ok hM hH hl hr'
            · have q : (match (if c = cn then R.ok (ns, xs) S else .no : R (List Str × List D)) with
                | .ok (ns, xs) S' => ∀ H' W' ws dx', W'.S = S' → Gr W H1 W' H' → WOk W' H' → W'.M x = some 0 → H' x = some (.ins C dx' (ns.zip ws)) → ns.length = ws.length → Reps K mg W'.μ (hid W'.M H') xs ws → Q .non H'
                | .er y S' => ∀ cls dd H' W', W'.S = S' → Gr W H1 W' H' → WOk W' H' → ERep (fmOf K mg T W H1 E) W' H' y cls dd → E cls dd H'
                | .no => False) := q
              rw [if_neg hc] at q
              exact q.elim
          | un => exact q.elim
          | fz _ => exact q.elim
          | ow _ => exact q.elim
          | ex _ => exact q.elim
      | .mk (.xr y ρ) S => exact fun q cls dd σ' H' W' e I g r => q cls dd H' W' e I.gr I.ok r
      | .mk (.rt d) S => exact fun q => q.elim
      | .mk (.bk ρ) S => exact fun q => q.elim
      | .mk (.ct ρ) S => exact fun q => q.elim
      | .no => exact fun q => q.elim
end
end Bx

namespace Bx
open PySem L2

/-! ### raise X() -/
section
variable {X : Cx} {F : Fm} {pos pos' p : Pos} {x : Str} {C : Addr}
theorem pmk_own0 {bmB : List Value} {B newId initId : String} (Fb : ExcBaseFacts B newId initId bmB) (q : PySem.W.excIn X.K C bmB newId = true) (gC : X.mg x = some (.ref C)) (kC : PySem.W.keepIn X.K (.ref C) = true) (r : Raises X (.ref C)) (hg : Gl X x)
    (hdb : (x == ("__debug__" : Str)) = false := by decide) : L2N.PMk X (.Call (.Name x p) [] [] pos) (fun _ H Q => Q (.ref C) none H) := by
  intro pins s σ H Q I h
  refine wpAny_Call_Name_kw (ld_glob I hg gC ?_ hdb)
  refine PySem.W.callWith_K0 I.kIn kC ?_
  show wpAny _ _ (call (.ref C) []) _ _ _
  obtain ⟨bm, N, nm, qn, bs, hdct, sn, sub, ab, col, dd, k0, k1, k2, k3, k5, mN, hC, hN, hni, T⟩ := exc_obj I.kIn q
  refine wpAny_call_exc_subT Fb T hC hN hni (fun h' e hm => ?_) (by show 0 ≤ sizeLine; omega)
  exact L2N.mk_of I hm r h (I.hok.gone hm.new)
/-- what the written part says of an exception class without own __init__ -/
structure ExcTxt (K : PySem.W.Frag) (mg : Str → Option Value) (x : Str) (C : Addr) : Prop where
  g : mg x = some (.ref C)
  e : PySem.W.excIn K C [.type "ValueError", .type "Exception", .type "BaseException", .type "object"] "ValueError.__new__" = true
  k : PySem.W.keepIn K (.ref C) = true
  b : PySem.W.subIn K (.ref C) (.type "BaseException") = some true
  t : PySem.W.typeIn K (.ref C) = some (.type "type")
@[simp] def sRaise (x : Str) : Stm := fun ρ S => .mk (.xr ⟨x, none⟩ ρ) S
theorem ds_raise (T : ExcTxt X.K X.mg x C) (hc : X.calm = true) (tk : L2N.Takes X F.wish) (hg : Gl X x) (hmg : F.mg = X.mg := by rfl) (hdb : (x == ("__debug__" : Str)) = false := by decide) : PS X (.Raise (some (.Call (.Name x p) [] [] pos)) none pos') (denS F (sRaise x)) :=
  (L2N.ps_raise hc tk (pmk_own0 PySem.F.excBase_ValueError T.e T.g T.k (raises_own T.b T.t) hg hdb)).imp fun En σ H ⟨ρ, W, I, q⟩ => q _ _ σ H W rfl I (GrS.refl _ _) ⟨C, by rw [hmg]; exact T.g, rfl, rfl⟩
end

/-! ### isinstance -/
inductive Ty6 where
  | n | b | i | s | t | l
  deriving DecidableEq
def Ty6.nm : Ty6 → String
  | .n => "NoneType" | .b => "bool" | .i => "int" | .s => "str" | .t => "tuple" | .l => "list"
def Ty6.is : Ty6 → Ty6 → Bool
  | .b, .i => true
  | .n, .n => true | .b, .b => true | .i, .i => true | .s, .s => true | .t, .t => true | .l, .l => true
  | _, _ => false
theorem kit6 : ∀ a T : Ty6, kitB a.nm T.nm = some (a.is T) := by
  intro a T
  cases a <;> cases T <;> decide +kernel
def ty6 : D → Option Ty6
  | .non => some .n
  | .bl _ => some .b
  | .int _ => some .i
  | .str _ => some .s
  | .tup _ => some .t
  | .lst _ => some .l
  | _ => none
theorem ty6_rep {F : Fm} {W : Wd} {H : Hp} {d : D} {v : V} {a : Ty6} (h : F.rep W H d v) (e : ty6 d = some a) : TyX F.K H v (.type a.nm) := by
  cases h with
  | non => cases e; exact .base .non
  | bl b => cases e; exact .base (.bl _)
  | int b => cases e; exact .base (.int _)
  | str b => cases e; exact .base (.str _)
  | tup h1 h2 => cases e; exact .base (.tup (hid_le _ _ h1))
  | lst h1 h2 => cases e; exact .base (.lst (hid_le _ _ h1))
  | ins _ _ _ _ => cases e
  | ref _ => cases e
  | fn _ => cases e
  | scr _ => cases e
  | dct _ _ _ => cases e
def gIsi (T : Ty6) : D → Store → R D := fun d S => match ty6 d with
  | some a => .ok (.bl (a.is T)) S
  | none => .no
/-- what the written part says of an own class, for isinstance -/
structure InsTxt (K : PySem.W.Frag) (C : Addr) : Prop where
  cl : Cls K C
  ha : PySem.W.findIn K (.ref C) "__class__" = some (some (.builtin "object.__class__"))
  hn : PySem.W.specialIn K (.builtin "object.__class__") "__get__" = some (some (.builtin "getset_descriptor.__get__"))
  htk : PySem.W.takesIn K (.builtin "object.__class__") = some true
  hm : PySem.W.mroIn K C (.type "object") = some true
  no6 : ∀ a : Ty6, PySem.W.kitOne K (.type a.nm) (.ref C) = some false
def gIsC (cn : Str) : D → Store → R D := fun d S => match ty6 d with
  | some a => .ok (.bl false) S
  | none => if isIns cn d = true then .ok (.bl true) S else .no
section
variable {X : Cx} {F : Fm} {e nm : Expr} {f : Fn D} {pos p : Pos} {cn : Str} {C : Addr}
theorem de_isi (T : Ty6) (hg : Gl X "isinstance") (hm : X.mg "isinstance" = none) (he : PE X e (denE F f)) (hN : PE X nm (tC (.ty T.nm))) (h1 : starEach [e, nm] X.env = (false, eval e X.env) :: starEach [nm] X.env := by rfl) (h2 : starEach [nm] X.env = (false, eval nm X.env) :: starEach [] X.env := by rfl)
    (hpl : (backTo pos (starEach [nm] X.env)).any (·.1) = false := by rfl) (hK : F.K = X.K := by rfl) : PE X (.Call (.Name "isinstance" p) [e, nm] [] pos) (denE F (fUn (gIsi T) f)) :=
  (pe_callB call_isi hg hm (by decide +kernel) (pa_cons he (pa_cons hN pa_nil h2) h1) (he := h1) (hpl := hpl)).imp fun σ H Q ⟨ρ, W, I, q⟩ => ⟨ρ, W, I, q.bind fun d v H1 W1 g ok r q1 => by
    unfold gIsi at q1
    split at q1
    · rename_i a ha
      exact ⟨v, _, _, _, _, rfl, .ty _, by rw [← hK]; exact ty6_rep r ha, kit_ty (kit6 a T), q1.val ok (.bl _)⟩
    · exact q1.elim⟩
theorem de_isC (T : InsTxt X.K C) (hC : X.mg cn = some (.ref C)) (hg : Gl X "isinstance") (hm : X.mg "isinstance" = none) (he : PE X e (denE F f)) (hN : PE X nm (tC (.ref C))) (h1 : starEach [e, nm] X.env = (false, eval e X.env) :: starEach [nm] X.env := by rfl) (h2 : starEach [nm] X.env = (false, eval nm X.env) :: starEach [] X.env := by rfl)
    (hpl : (backTo pos (starEach [nm] X.env)).any (·.1) = false := by rfl) (hK : F.K = X.K := by rfl) (hmg : F.mg = X.mg := by rfl) : PE X (.Call (.Name "isinstance" p) [e, nm] [] pos) (denE F (fUn (gIsC cn) f)) :=
  (pe_callB call_isi hg hm (by decide +kernel) (pa_cons he (pa_cons hN pa_nil h2) h1) (he := h1) (hpl := hpl)).imp fun σ H Q ⟨ρ, W, I, q⟩ => ⟨ρ, W, I, q.bind fun d v H1 W1 g ok r q1 => by
    unfold gIsC at q1
    split at q1
    · rename_i a ha
      exact ⟨v, _, _, _, _, rfl, .own _, by rw [← hK]; exact ty6_rep r ha, T.no6 a, q1.val ok (.bl _)⟩
    · split at q1
      · rename_i hi
        obtain ⟨a, dx, fs, rfl, ha⟩ := ins_rep r hi (by rw [hmg]; exact hC)
        refine ⟨.ref a, _, .ref C, _, true, rfl, .own _, .base (.ins ha T.cl T.ha T.hn T.htk T.hm), ?_, q1.val ok (.bl _)⟩
        unfold PySem.W.kitOne
        rw [if_pos (by simp)]
      · exact q1.elim⟩
end

/-! ### == by an own __eq__ -/
theorem compare_rich {M : Model} {A : Around} {E : Value → Shared → Prop} {s : Shared} {a b : Value} {Q : Value → Shared → Prop} (h : wpAny M A (richCompare .Eq a b) Q E s) : wpAny M A (compareOp .Eq a b) Q E s := h
def rEqOwn (K : PySem.W.Frag) (C : Addr) (sp : Sp) : R2 := fun x y H Q => ∃ a b dx fs, x = .ref a ∧ y = .ref b ∧ H a = some (.ins C dx fs) ∧ ((∃ dy gs, H b = some (.ins C dy gs)) ∨ ∃ ys, H b = some (.tup ys)) ∧ sp [x, y] H (fun v H' => ∃ k, v = .bl k ∧ Q (.bl k) H') E0
theorem op_eqOwn {X : Cx} {k : Nat} {C f : Addr} {fd : FuncData} {ps : List Str} {sp : Sp} (hr : Room k X.A) (G : FnOk X.prog X.w X.K X.mg X.base (L2N.CX X.prog X.w) k f fd ps sp) (hs : PySem.W.findIn X.K (.ref C) "__eq__" = some (some (.ref f))) (hf : PySem.W.isFn X.K (.ref f) = true) (hb : Binds X.K fd ps [])
    (hnt : PySem.W.notFirst X.K C (.type "tuple") = true) : OpR X (compareOp .Eq) (rEqOwn X.K C sp) := by
  intro pins s σ H x y v u Q I rx ry h
  obtain ⟨a, b, dx, fs, rfl, rfl, ha, hB, hsp⟩ := h
  cases rx
  cases ry
  obtain ⟨mA, J, _⟩ := ins_get I.hok ha
  obtain ⟨od, J, _⟩ := J.look
  obtain ⟨m, hF⟩ := I.fr
  have go : wpAny (model X.prog X.w) X.A (call (.ref f) [.ref a, .ref b]) (PySem.W.CmpBack (EP X pins σ Q)) X.xe s := by
    have hl := G.len _ _ _ _ hsp
    have r2 : Vals [V.ref a, V.ref b] [Value.ref a, Value.ref b] := .cons rfl (.cons rfl .nil)
    refine wpAny_call (codeAny_mono (G.run X.A X.stack s H ⟨[.ref a, .ref b], []⟩ [.ref a, .ref b] [.ref a, .ref b] _ E0 hr I.env0 (by
      have := hb s [.ref a, .ref b] I.kIn (by simpa using hl)
      simpa using this) r2 hsp) fun r s' hq => ?_)
    cases r with
    | error e => exact (passLN pins σ H s e s' (I.wish (X := X) (fun _ _ => False)) hq).elim
    | ok fl =>
      cases fl with
      | ret w =>
        obtain ⟨z, H', I', rz, k, ez, q⟩ := I.after hq
        subst ez
        cases rz
        exact ⟨.bl k, H', I', rfl, q⟩
      | next => exact False.elim hq
      | brk => exact False.elim hq
      | cont => exact False.elim hq
  rcases hB with ⟨dy, gs, hb'⟩ | ⟨ys, hb'⟩
  · obtain ⟨mB, J', _⟩ := ins_get I.hok hb'
    obtain ⟨od', J', _⟩ := J'.look
    exact compare_rich (PySem.W.cmp_K (op := .Eq) (tb := .ref C) hr.units0 hF I.ok.mod.kin J J'.type (by simp [PySem.W.notFirst]) hs hf go)
  · obtain ⟨_, its, rv, o, h1, h2, n, h3⟩ := (show ObjOk X.prog X.w H s.heap b (.tup ys) from I.hok b _ hb')
    exact compare_rich (PySem.W.cmp_K (op := .Eq) (tb := .type "tuple") hr.units0 hF I.ok.mod.kin J (h2 ▸ (PySem.W.Looks.ld h1).andThen .now) hnt hs hf go)
end Bx

namespace Bx
open PySem L2

/-! ### == where the left one may be an instance -/
def isTup : D → Bool
  | .tup _ => true
  | _ => false
def gEqI (cn : Str) (sem : Sem) : D → D → Store → R D := fun d e S => if isIns cn d = true then (if (isIns cn e || isTup e) = true then (match sem [d, e] S with
  | .ok (.bl k) S' => .ok (.bl k) S'
  | _ => .no) else .no) else gEq d e S
section
variable {X : Cx} {F : Fm} {a b e : Expr} {f f1 f2 : Fn D} {pos : Pos} {cn : Str} {C : Addr}
theorem opd_eqI {sem : Sem} (hC : F.mg cn = some (.ref C)) : OpD F (fun x y H Q => rEqOwn F.K C (spD F.K F.mg F.T 2 sem) x y H Q ∨ rEqD F.K x y H Q) (gEqI cn sem) := by
  intro W H σ d e x y Q ok hT rx ry h
  unfold gEqI at h
  split at h
  · rename_i hi
    obtain ⟨a, dx, fs, rfl, ha⟩ := ins_rep rx hi hC
    split at h
    · rename_i hj
      have hb : ∃ b, y = .ref b ∧ ((∃ dy gs, H b = some (.ins C dy gs)) ∨ ∃ ys, H b = some (.tup ys)) := by
        rw [Bool.or_eq_true] at hj
        rcases hj with hj | hj
        · obtain ⟨b, dy, gs, rfl, hb⟩ := ins_rep ry hj hC
          exact ⟨b, rfl, .inl ⟨dy, gs, hb⟩⟩
        · cases ry with
          | tup h1 h2 => exact ⟨_, rfl, .inr ⟨_, hid_le _ _ h1⟩⟩
          | _ => cases hj
      obtain ⟨b, rfl, hb⟩ := hb
      refine .inl ⟨a, b, dx, fs, rfl, rfl, ha, hb, [d, e], W, rfl, ⟨ok, hT⟩, .cons rx (.cons ry .nil), ?_⟩
      revert h
      cases hs : sem [d, e] W.S with
      | ok z S =>
        cases z with
        | bl k =>
          intro h v H' W' e g ok r
          cases r
          exact ⟨k, rfl, h (.bl k) H' W' e g ok (.bl k)⟩
        | _ => exact fun h => h.elim
      | er x S => exact fun h => h.elim
      | no => exact fun h => h.elim
    · exact h.elim
  · exact .inr (opd_eq W H σ d e x y Q ok hT rx ry h)
theorem de_eqI {sem : Sem} {k : Nat} {fa : Addr} {fd : FuncData} {ps : List Str} (hr : Room k X.A) (G : FnOk X.prog X.w X.K X.mg X.base (L2N.CX X.prog X.w) k fa fd ps (spD X.K X.mg F.T 2 sem)) (hs : PySem.W.findIn X.K (.ref C) "__eq__" = some (some (.ref fa))) (hf : PySem.W.isFn X.K (.ref fa) = true) (hb : Binds X.K fd ps [])
    (hnt : PySem.W.notFirst X.K C (.type "tuple") = true) (hC : X.mg cn = some (.ref C)) (ha : PE X a (denE F f1)) (hb' : PE X b (denE F f2)) (hK : F.K = X.K := by rfl) (hmg : F.mg = X.mg := by rfl) : PE X (.Compare a [.Eq] [b] pos) (denE F (fBin (gEqI cn sem) f1 f2)) :=
  de_cmp ((op_eqOwn hr G hs hf hb hnt).or (op_eqD hr.units)) (by
    have := @opd_eqI F cn C sem (by rw [hmg]; exact hC)
    rw [hK, hmg] at this
    exact this) ha hb' (nomark _)

theorem dt_eqI {sem : Sem} {k : Nat} {fa : Addr} {fd : FuncData} {ps : List Str} (hr : Room k X.A) (G : FnOk X.prog X.w X.K X.mg X.base (L2N.CX X.prog X.w) k fa fd ps (spD X.K X.mg F.T 2 sem)) (hs : PySem.W.findIn X.K (.ref C) "__eq__" = some (some (.ref fa))) (hf : PySem.W.isFn X.K (.ref fa) = true) (hb : Binds X.K fd ps [])
    (hnt : PySem.W.notFirst X.K C (.type "tuple") = true) (hC : X.mg cn = some (.ref C)) (ha : PE X a (denE F f1)) (hb' : PE X b (denE F f2)) (hK : F.K = X.K := by rfl) (hmg : F.mg = X.mg := by rfl) : PT X (.Compare a [.Eq] [b] pos) (denT F (fUn gBl (fBin (gEqI cn sem) f1 f2))) :=
  dt_cmp ((op_eqOwn hr G hs hf hb hnt).or (op_eqD hr.units)) (by
    have := @opd_eqI F cn C sem (by rw [hmg]; exact hC)
    rw [hK, hmg] at this
    exact this) ha hb' (nomark _)

/-! ### a look at a frame's own lists: the value is flat -/
def frzS : Sl → Sl
  | .ow ds => .fz (.lst ds)
  | .nw _ _ _ => .un
  | .ex _ => .un
  | s => s
@[simp] def fPeek (f : Fn D) : Fn D := fun ρ S => match f (ρ.map frzS) S with
  | .ok d S1 => if flatD d = true then .ok d S1 else .no
  | .er x S1 => if x.fld.isNone = true then .er x S1 else .no
  | .no => .no
theorem flat_any {F : Fm} {W W' : Wd} {H H' : Hp} {d : D} {v : V} (hf : flatD d = true) (h : F.rep W H d v) : F.rep W' H' d v := by
  cases h with
  | non => exact .non
  | bl b => exact .bl b
  | int b => exact .int b
  | str b => exact .str b
  | fn h => exact .fn h
  | _ => cases hf
def lstAt (H : Hp) (p : Addr) : Bool := match H p with
  | some (.lst _) => true
  | _ => false
theorem lst_at {H : Hp} {p : Addr} (h : lstAt H p = true) : ∃ vs, H p = some (.lst vs) := by
  unfold lstAt at h
  split at h
  · rename_i vs e; exact ⟨vs, e⟩
  · cases h
theorem at_lst {H : Hp} {p : Addr} {vs : List V} (h : H p = some (.lst vs)) : lstAt H p = true := by
  unfold lstAt; rw [h]
def unmaskAll (W : Wd) (H : Hp) : Wd := { W with M := fun p => if W.M p = some 0 ∧ lstAt H p = true then none else W.M p }
theorem de_peek (h : ∀ W0 H0, PE X e (denE { F with W0 := W0, H0 := H0 } f)) : PE X e (denE F (fPeek f)) := by
  refine ⟨fun pins s σ H Q I q => ?_⟩
  obtain ⟨ρ, W, J, q⟩ := q
  refine (h (unmaskAll W H) H).run pins s σ H Q I ⟨ρ.map frzS, unmaskAll W H, ⟨?_, Gr.refl _ _, ?_⟩, ?_⟩
  · refine ⟨fun p hp => ?_, fun l x hx => ?_, J.ok.bd, fun P q hT => (J.ok.tab P q hT).world (fun a h1 => ⟨(if_neg (by rw [h1]; simp)).trans h1, rfl⟩) (fun a q h1 h2 => ⟨fun l => by
      show (if W.M a = some 0 ∧ lstAt H a = true then none else W.M a) ≠ some (l + 1)
      split
      · simp
      · exact h1 l, rfl⟩)⟩
    · refine J.ok.dom p fun z => hp ?_
      show (if W.M p = some 0 ∧ lstAt H p = true then none else W.M p) = none
      split
      · rfl
      · exact z
    · obtain ⟨a, h1, h2⟩ := J.ok.obj l x hx
      have sm : Same (hid W.M H) (hid (unmaskAll W H).M H) := fun a o h => by
        obtain ⟨h1, h2⟩ := hid_some.mp h
        refine hid_some.mpr ⟨?_, h2⟩
        show (if W.M a = some 0 ∧ lstAt H a = true then none else W.M a) = none
        rw [if_neg (by rw [h1]; simp)]
        exact h1
      refine ⟨a, h1, h2.world (W' := unmaskAll W H) (fun _ _ q => q) sm.n (by rfl) fun q hq => ⟨?_, rfl⟩⟩
      show (if W.M q = some 0 ∧ lstAt H q = true then none else W.M q) = some (l + 2)
      rw [if_neg (by rw [hq]; simp)]
      exact hq
  · have sm : Same (hid W.M H) (hid (unmaskAll W H).M H) := fun a o h => by
      obtain ⟨h1, h2⟩ := hid_some.mp h
      refine hid_some.mpr ⟨?_, h2⟩
      show (if W.M a = some 0 ∧ lstAt H a = true then none else W.M a) = none
      rw [if_neg (by rw [h1]; simp)]
      exact h1
    have no : ∀ (i : Nat) (s : Sl), (ρ.map frzS)[i]? = some s → s = .un ∨ ∃ d, s = .fz d := fun i s h => by
      rw [List.getElem?_map] at h
      obtain ⟨s', _, rfl⟩ := Option.map_eq_some_iff.mp h
      cases s' with
      | un => exact .inl rfl
      | fz d => exact .inr ⟨d, rfl⟩
      | ow ds => exact .inr ⟨.lst ds, rfl⟩
      | nw _ _ _ => exact .inl rfl
      | ex _ => exact .inl rfl
    refine ⟨by rw [List.length_map]; exact J.env.len, fun i d e => ?_, fun i d e => ?_, fun i j d es p e => ?_, fun i c ns xs e => ?_, fun i c e => ?_, J.env.tk⟩
    · rw [List.getElem?_map] at e
      obtain ⟨s', e1, e2⟩ := Option.map_eq_some_iff.mp e
      cases s' with
      | un => cases e2
      | nw _ _ _ => cases e2
      | ex _ => cases e2
      | fz d' =>
        cases e2
        obtain ⟨v, a, b⟩ := J.env.fz i d e1
        exact ⟨v, a, Rep.mono (fun _ _ h => h) sm _ _ b⟩
      | ow ds =>
        cases e2
        obtain ⟨p, vs, a, b, c, d, r⟩ := J.env.ow i ds e1
        refine ⟨.ref p, a, .lst (hid_some.mpr ⟨?_, d⟩) (Reps.mono (fun _ _ h => h) sm _ _ r)⟩
        show (if W.M p = some 0 ∧ lstAt H p = true then none else W.M p) = none
        rw [if_pos ⟨b, at_lst d⟩]
    · rcases no i _ e with z | ⟨_, z⟩ <;> cases z
    · rcases no i _ e with z | ⟨_, z⟩ <;> cases z
    · rcases no i _ e with z | ⟨_, z⟩ <;> cases z
    · rcases no i _ e with z | ⟨_, z⟩ <;> cases z
  · unfold fPeek at q
    show Post _ _ _ _ _ (f (ρ.map frzS) W.S) Q
    have back : ∀ (H' : Hp) (W' : Wd), Gr (unmaskAll W H) H W' H' → WOk W' H' → ∃ W3 : Wd, W3.S = W'.S ∧ W3.μ = W'.μ ∧ Gr W H W3 H' ∧ WOk W3 H' := fun H' W' g ok => by
      have m0 : ∀ p, W.M p = some 0 ∧ lstAt H p = true → W'.M p = none := fun p hp => by
        rw [g.ms p (J.ok.dom p (by simp [hp.1]))]
        show (if W.M p = some 0 ∧ lstAt H p = true then none else W.M p) = none
        rw [if_pos hp]
      refine ⟨{ W' with M := fun p => if W.M p = some 0 ∧ lstAt H p = true then some 0 else W'.M p }, rfl, rfl, ⟨fun p hp => ?_, fun p o hp hl => g.ex p o hp fun l => ?_, g.ds, g.mu, g.tt⟩, ⟨fun p hp => ?_, fun l x hx => ?_, ok.bd, fun P q hT => (ok.tab P q hT).world (fun a h1 => ⟨(if_neg fun z => by rw [m0 a z] at h1; cases h1).trans h1, rfl⟩) (fun a q h1 h2 => ⟨fun l => by
        show (if W.M a = some 0 ∧ lstAt H a = true then some 0 else W'.M a) ≠ some (l + 1)
        split
        · simp
        · exact h1 l, rfl⟩)⟩⟩
      · show (if W.M p = some 0 ∧ lstAt H p = true then some 0 else W'.M p) = W.M p
        split
        · rename_i z; exact z.1.symm
        · rename_i z
          rw [g.ms p hp]
          show (if W.M p = some 0 ∧ lstAt H p = true then none else W.M p) = W.M p
          rw [if_neg z]
      · show (if W.M p = some 0 ∧ lstAt H p = true then none else W.M p) ≠ some (l + 1)
        split
        · simp
        · exact hl l
      · have hp : (if W.M p = some 0 ∧ lstAt H p = true then some 0 else W'.M p) ≠ none := hp
        split at hp
        · rename_i z
          exact g.ds p (J.ok.dom p (by simp [z.1]))
        · exact ok.dom p hp
      · obtain ⟨a, h1, h2⟩ := ok.obj l x hx
        refine ⟨a, h1, h2.world (W' := { W' with M := fun p => if W.M p = some 0 ∧ lstAt H p = true then some 0 else W'.M p }) (fun _ _ q => q) (fun p o hp hn => ?_) (by rfl) fun q hq => ⟨?_, rfl⟩⟩
        · obtain ⟨p1, p2⟩ := hid_some.mp hp
          refine hid_some.mpr ⟨?_, p2⟩
          show (if W.M p = some 0 ∧ lstAt H p = true then some 0 else W'.M p) = none
          rw [if_neg]
          · exact p1
          · intro z
            obtain ⟨vs, e⟩ := lst_at z.2
            have := g.ex p _ e fun l => by
              show (if W.M p = some 0 ∧ lstAt H p = true then none else W.M p) ≠ some (l + 1)
              rw [if_pos z]; simp
            rw [p2] at this
            cases this
            exact hn vs rfl
        show (if W.M q = some 0 ∧ lstAt H q = true then some 0 else W'.M q) = some (l + 2)
        rw [if_neg fun z => by rw [m0 q z] at hq; cases hq]
        exact hq
    revert q
    cases f (ρ.map frzS) W.S with
    | no => exact fun q => q
    | er x S =>
      intro q cls dd H' W' e g ok r
      obtain ⟨W3, e3, eμ, g3, ok3⟩ := back H' W' g ok
      have q : Post F F.rep W H σ (if x.fld.isNone = true then .er x S else .no) Q := q
      split at q
      · rename_i hx
        obtain ⟨C, h1, h2, h3⟩ := r
        refine q cls dd H' W3 (e3.trans e) g3 ok3 ⟨C, h1, h2, ?_⟩
        cases hf : x.fld with
        | none => rw [hf] at h3; exact h3
        | some fs => rw [hf] at hx; cases hx
      · exact q.elim
    | ok d S =>
      intro q v H' W' e g ok r
      have q : Post F F.rep W H σ (if flatD d = true then .ok d S else .no) Q := q
      split at q
      · rename_i hf
        obtain ⟨W3, e3, eμ, g3, ok3⟩ := back H' W' g ok
        exact q v H' W3 (e3.trans e) g3 ok3 (flat_any hf r)
      · exact q.elim
end
end Bx
namespace Bx
open PySem L2
/-! ### small things that the printed texts name -/
theorem len_nil : ∀ (ρ : Rho) (S : Store) (ds : List D) (S' : Store), fNil ρ S = .ok ds S' → ds.length = 0 := by
  intro ρ S ds S' h
  cases h
  rfl
theorem len_cons {f : Fn D} {fs : Fn (List D)} {n : Nat} (h : ∀ (ρ : Rho) (S : Store) (ds : List D) (S' : Store), fs ρ S = .ok ds S' → ds.length = n) : ∀ (ρ : Rho) (S : Store) (ds : List D) (S' : Store), fCons f fs ρ S = .ok ds S' → ds.length = n + 1 := by
  intro ρ S ds S' e
  unfold fCons at e
  cases h1 : f ρ S with
  | no => rw [h1] at e; cases e
  | er x S => rw [h1] at e; cases e
  | ok d S1 =>
    rw [h1] at e
    have e : (fs ρ S1).bind (fun ds S2 => R.ok (d :: ds) S2) = .ok ds S' := e
    cases h2 : fs ρ S1 with
    | no => rw [h2] at e; cases e
    | er x S => rw [h2] at e; cases e
    | ok es S2 =>
      rw [h2] at e
      cases e
      simp [h _ _ _ _ h2]
section
variable {X : Cx} {F : Fm} {x : Str} {n : Int} {pos : Pos}
theorem de_gint (h : ∃ t, X.mg x = some (.int n t)) (hg : Gl X x) (hd : (x == ("__debug__" : Str)) = false := by decide) : PE X (.Name x pos) (denE F (fC (.int n))) := by
  obtain ⟨t, h⟩ := h
  exact de_C (v := .int n) (pe_glob hg h ⟨t, rfl⟩ hd) fun _ _ => .int _
/-- a def of the module -/
def DefAt (K : PySem.W.Frag) (mg : Str → Option Value) (x : Str) (st : Stmt) (ps : List Str) : Prop := ∃ fa fd, mg x = some (.ref fa) ∧ Fun K x x st fa fd ∧ Binds K fd ps []
theorem DefAt.cal {P : Program} {w : World} {K : PySem.W.Frag} {mg : Str → Option Value} {base : Heap} {T : Tx} {st : Stmt} {N ps : List Str} {k np : Nat} {g : Stm} (d : DefAt K mg x st ps) (S : FnScope N ps (defScope st)) (hn : ps.length = np)
    (hbody : ∀ (f : Addr) (cdv : Value) (A : Around) (outer : List Env) (s : Shared) (H : Hp) (E : XK) (W : Wd), Room k (A.deeper (PyProof.Rows.envOfC x (defScope st) s.heap.objs.size f cdv)) →
      PSs (cxOf (L2N.CX P w) P w K mg base N x (defScope st) f cdv A outer s H E) (defBody st) (denS (fmOf K mg T W H E) g)) : Callee P w K mg base T (k + 1) x np (fnSem N.length g) := by
  obtain ⟨fa, fd, h1, h2, h3⟩ := d
  subst hn
  exact ⟨fa, fd, ps, h1, okD h2 S (hbody fa), h2.kp, h3⟩
/-- a method of a class -/
def MethAt (K : PySem.W.Frag) (C : Addr) (x qual : Str) (st : Stmt) (ps : List Str) : Prop := ∃ fa fd, PySem.W.findIn K (.ref C) x = some (some (.ref fa)) ∧ PySem.W.isFn K (.ref fa) = true ∧ Fun K x qual st fa fd ∧ Binds K fd ps []
/-- a property's getter -/
def PropAt (K : PySem.W.Frag) (C : Addr) (x qual : Str) (st : Stmt) : Prop := ∃ pr ga fd, PropOf K C x pr ga ∧ Fun K x qual st ga fd ∧ Binds K fd ["self"] []
end
end Bx

namespace Bx
open PySem L2

/-! ### xs[::-1] -/
def gRev : D → Store → R (List D)
  | .lst xs, S => .ok xs.reverse S
  | _, _ => .no
@[simp] def fRev (f : Fn D) : Fn Sl := fun ρ S => (f ρ S).bind fun d S1 => match gRev d S1 with
  | .ok es _ => .ok (.ow es) S1
  | _ => .no
section
variable {X : Cx} {F : Fm} {e : Expr} {f f1 f3 : Fn D} {f2 : Fn Sl} {pos p1 p2 p3 : Pos} {k : Nat}
theorem dx_rev (he : PE X e (denE F f)) : PE X (.Subscript e (.Slice none none (some (.UnaryOp .USub (.Constant (.int 1) k p1) p2)) p3) pos) (denX F (fRev f)) := (pe_revL he).imp fun σ H Q ⟨ρ, W, I, q⟩ => ⟨ρ, W, I, q.bind fun d v H1 W1 g ok r q1 => by
  cases r with
  | lst a b => exact ⟨_, _, rfl, SqL.of (hid_le _ _ a), fun p hp => Post.newX g ok hp q1 b.reverse⟩
  | _ => exact q1.elim⟩
/-! ### the source of draws: [s, list(cells), i] -/
def srcOf (S : Store) (d1 : D) (s2 : Sl) (d3 : D) : R D := match d1, s2, d3 with
  | .int s, .ow ds, .int i => (match ints? ds with
    | some ns => .ok (.ref S.length) (S ++ [.src s ns i])
    | none => .no)
  | _, _, _ => .no
@[simp] def fSrc (f1 : Fn D) (f2 : Fn Sl) (f3 : Fn D) : Fn D := fun ρ S => (f1 ρ S).bind fun d1 S1 => (f2 ρ S1).bind fun d2 S2 => (f3 ρ S2).bind fun d3 S3 => srcOf S3 d1 d2 d3
variable {a b c : Expr}
theorem src_new {W : Wd} {H : Hp} {l c : Addr} {s i : Int} {ns : List Int} (ok : WOk W H) (hl : H l = none) (hc : W.M c = some 0) (hcH : H c = some (.lst (ns.map V.int))) :
    ∃ W' : Wd, W'.S = W.S ++ [.src s ns i] ∧ W'.μ W.S.length = some l ∧ WOk W' (upd H l (.lst [.int s, .ref c, .int i])) ∧ (∀ p, p ≠ l → p ≠ c → W'.M p = W.M p) ∧ (∀ m a, W.μ m = some a → W'.μ m = some a) ∧ W'.T = W.T := by
  have hlc : c ≠ l := ne_of_none hcH hl
  refine ⟨⟨fun p => if p = l ∨ p = c then some (W.S.length + 2) else W.M p, fun m => if m = W.S.length then some l else W.μ m, W.S ++ [.src s ns i], W.T⟩, rfl, if_pos rfl, ⟨fun p hp => ?_, fun m x hx => ?_, fun m a hm => ?_, fun P q hT => (ok.tab P q hT).world (fun p h1 => ?_) (fun p q h1 h2 => ?_)⟩, fun p h1 h2 => if_neg (by simp [h1, h2]), fun m a hm => ?_, rfl⟩
  · by_cases e : p = l
    · subst e; rw [upd_same]; simp
    · rw [upd_ne e]
      by_cases e2 : p = c
      · subst e2; rw [hcH]; simp
      · exact ok.dom p (by have : (if p = l ∨ p = c then some (W.S.length + 2) else W.M p) ≠ none := hp
                           rwa [if_neg (by simp [e, e2])] at this)
  · by_cases e : m = W.S.length
    · subst e
      have hx : (W.S ++ [O.src s ns i])[W.S.length]? = some x := hx
      rw [List.getElem?_concat_length] at hx
      cases hx
      exact ⟨l, if_pos rfl, if_pos (.inl rfl), c, if_pos (.inr rfl), Ne.symm hlc, upd_same, by rw [upd_ne hlc]; exact hcH⟩
    · have hx : (W.S ++ [O.src s ns i])[m]? = some x := hx
      have hm : m < W.S.length := by
        have := (List.getElem?_eq_some_iff.mp hx).1
        simp at this
        omega
      rw [List.getElem?_append_left hm] at hx
      obtain ⟨a, h1, h2⟩ := ok.obj m x hx
      refine ⟨a, (if_neg e).trans h1, h2.world (W' := ⟨fun p => if p = l ∨ p = c then some (W.S.length + 2) else W.M p, fun m => if m = W.S.length then some l else W.μ m, W.S ++ [.src s ns i], W.T⟩) (fun m b hm => by
        show (if m = W.S.length then some l else W.μ m) = some b
        rw [if_neg (Nat.ne_of_lt (ok.bd m b hm))]
        exact hm) (fun p o hp _ => by
        obtain ⟨p1, p2⟩ := hid_some.mp hp
        have n1 : p ≠ l := fun z => by rw [z, hl] at p2; cases p2
        have n2 : p ≠ c := fun z => by rw [z, hc] at p1; cases p1
        exact hid_some.mpr ⟨(if_neg (by simp [n1, n2])).trans p1, (upd_ne n1).trans p2⟩) (by rfl) fun q hq => ?_⟩
      have n1 : q ≠ l := fun z => by rw [z] at hq; rw [ok.clear hl] at hq; cases hq
      have n2 : q ≠ c := fun z => by rw [z, hc] at hq; cases hq
      exact ⟨(if_neg (by simp [n1, n2])).trans hq, upd_ne n1⟩
  · have hm : (if m = W.S.length then some l else W.μ m) = some a := hm
    show m < (W.S ++ [O.src s ns i]).length
    rw [List.length_append]
    split at hm
    · rename_i e; rw [e]; simp
    · have := ok.bd m a hm
      simp; omega
  · have n1 : p ≠ l := fun z => by rw [z] at h1; rw [ok.clear hl] at h1; cases h1
    have n2 : p ≠ c := fun z => by rw [z, hc] at h1; simp at h1
    exact ⟨(if_neg (by simp [n1, n2])).trans h1, upd_ne n1⟩
  · have n1 : p ≠ l := fun z => by rw [z, hl] at h2; cases h2
    have n2 : p ≠ c := fun z => lst_code hcH p q (by rw [← z]; exact h2)
    exact ⟨fun m => by
      show (if p = l ∨ p = c then some (W.S.length + 2) else W.M p) ≠ some (m + 1)
      rw [if_neg (by simp [n1, n2])]
      exact h1 m, upd_ne n1⟩
  · show (if m = W.S.length then some l else W.μ m) = some a
    rw [if_neg]
    · exact hm
    · exact Nat.ne_of_lt (ok.bd m a hm)
theorem de_src (ha : PE X a (denE F f1)) (hb : PE X b (denX F f2)) (hc : PE X c (denE F f3)) (h1 : starEach [a, b, c] X.env = (false, eval a X.env) :: starEach [b, c] X.env := by rfl) (h2 : starEach [b, c] X.env = (false, eval b X.env) :: starEach [c] X.env := by rfl) (h3 : starEach [c] X.env = (false, eval c X.env) :: starEach [] X.env := by rfl) :
    PE X (.List [a, b, c] pos) (denE F (fSrc f1 f2 f3)) := (pe_lst (pa_cons ha (pa_cons hb (pa_cons hc pa_nil h3) h2) h1)).imp fun σ H Q ⟨ρ, W, I, q⟩ => by
  refine ⟨ρ, W, I, ?_⟩
  unfold fSrc at q
  cases e1 : f1 ρ W.S with
  | no => rw [e1] at q; exact q
  | er x S => rw [e1] at q; exact q
  | ok d1 S1 =>
    rw [e1] at q
    replace q : Post F F.rep W H σ ((f2 ρ S1).bind fun d2 S2 => (f3 ρ S2).bind fun d3 S3 => srcOf S3 d1 d2 d3) Q := q
    intro v1 H1 W1 E1 g1 ok1 r1
    have I1 := I.go g1 ok1
    refine ⟨ρ, W1, I1, ?_⟩
    rw [E1]
    cases e2 : f2 ρ S1 with
    | no => rw [e2] at q; exact q
    | er x S => rw [e2] at q; exact fun cls dd H' W' e g ok r => q cls dd H' W' e (g1.trans g) ok r
    | ok d2 S2 =>
      rw [e2] at q
      replace q : Post F F.rep W H σ ((f3 ρ S2).bind fun d3 S3 => srcOf S3 d1 d2 d3) Q := q
      intro v2 H2 W2 E2 g2 ok2 r2
      refine ⟨ρ, W2, I1.go g2 ok2, ?_⟩
      rw [E2]
      cases e3 : f3 ρ S2 with
      | no => rw [e3] at q; exact q
      | er x S => rw [e3] at q; exact fun cls dd H' W' e g ok r => q cls dd H' W' e ((g1.trans g2).trans g) ok r
      | ok d3 S3 =>
        rw [e3] at q
        replace q : Post F F.rep W H σ (srcOf S3 d1 d2 d3) Q := q
        intro v3 H3 W3 E3 g3 ok3 r3
        refine ⟨by show 3 ≤ sizeLine; decide, fun l hl => ?_⟩
        unfold srcOf at q
        split at q
        · rename_i s ds i
          split at q
          · rename_i ns hi
            have e1 := rep_int r1
            have e3 := rep_int r3
            subst e1 e3
            obtain ⟨c, ws, rfl, hn, hM, hH, hr⟩ := relX.gr g3 r2
            rw [ints_eq hi] at hr
            obtain rfl := hr.ints
            obtain ⟨W', hS, hμ, ok', hMk, hmu, htt⟩ := src_new (s := s) (i := i) ok3 hl hM hH
            have g := (g1.trans g2).trans g3
            have nl : ∀ p, H p ≠ none → p ≠ l := fun p hp z => g.ds p hp (z ▸ hl)
            have nc : ∀ p, H p ≠ none → p ≠ c := fun p hp z => g1.ds p hp (z ▸ hn)
            rw [← E3] at q
            exact q (.ref l) _ W' hS ⟨fun p hp => (hMk p (nl p hp) (nc p hp)).trans (g.ms p hp), fun p o hp hq => by rw [upd_ne (nl p (by simp [hp]))]; exact g.ex p o hp hq, fun p hp => by rw [upd_ne (nl p hp)]; exact g.ds p hp, fun m a h => hmu m a (g.mu m a h), htt.trans g.tt⟩ ok' (.ref hμ)
          · exact q.elim
        · exact q.elim
end

/-! ### the source changes -/
structure SrcNext where
  v : Int
  s : Int
  cs : List Int
  i : Int
def cellAt (cs : List Int) (i : Int) : Int := (cs ++ [0]).getD (i % (if (cs.length : Int) > 1 then (cs.length : Int) else 1)).toNat 0
def nextV (s : Int) (cs : List Int) (i b : Int) : SrcNext :=
  if 10 ^ 18 ≤ cellAt cs i then ⟨cellAt cs i % b, s, cs.set (i % (cs.length : Int)).toNat (cellAt cs i / b), i⟩
  else ⟨((s * 48271 + cellAt cs i * 69621 + 11) % 2147483647 / 7) % b, (s * 48271 + cellAt cs i * 69621 + 11) % 2147483647, cs, i + 1⟩
def F_next : Sem := fun ds S => match ds with
  | [.ref l, .int b] => (match S[l]? with
    | some (.src s cs i) => if 0 < b ∧ b < 2 ^ 256 ∧ cs.length ≤ 1000 then .ok (.int (nextV s cs i b).v) (S.set l (.src (nextV s cs i b).s (nextV s cs i b).cs (nextV s cs i b).i)) else .no
    | _ => .no)
  | _ => .no
theorem src_set {W : Wd} {H H' : Hp} {l : Nat} {a c : Addr} {s i s' i' : Int} {cs cs' : List Int} (ok : WOk W H) (hl : W.S[l]? = some (.src s cs i)) (hμ : W.μ l = some a) (hMa : W.M a = some (l + 2)) (hMc : W.M c = some (l + 2)) (hac : a ≠ c)
    (hk : ∀ q, q ≠ a → q ≠ c → ∀ o, H q = some o → H' q = some o) (ha : H' a = some (.lst [.int s', .ref c, .int i'])) (hc : H' c = some (.lst (cs'.map V.int))) :
    WOk { W with S := W.S.set l (.src s' cs' i') } H' ∧ Gr W H { W with S := W.S.set l (.src s' cs' i') } H' := by
  have dom : ∀ p, H p ≠ none → H' p ≠ none := fun p hp => by
    by_cases e1 : p = a
    · subst e1; rw [ha]; simp
    · by_cases e2 : p = c
      · subst e2; rw [hc]; simp
      · cases z : H p with
        | none => exact absurd z hp
        | some o => rw [hk p e1 e2 o z]; simp
  have hlt : l < W.S.length := (List.getElem?_eq_some_iff.mp hl).1
  refine ⟨⟨fun p hp => dom p (ok.dom p hp), fun m x hx => ?_, fun m b hb => ?_, fun P q hT => (ok.tab P q hT).world (fun p h1 => ⟨h1, ?_⟩) (fun p q h1 h2 => ⟨h1, ?_⟩)⟩, ⟨fun p _ => rfl, fun p o hp hq => ?_, dom, fun _ _ h => h, rfl⟩⟩
  · by_cases e : m = l
    · subst e
      have hx : (W.S.set m (.src s' cs' i'))[m]? = some x := hx
      rw [List.getElem?_set_self hlt] at hx
      cases hx
      exact ⟨a, hμ, hMa, c, hMc, hac, ha, hc⟩
    · have hx : (W.S.set l (.src s' cs' i'))[m]? = some x := hx
      rw [List.getElem?_set_ne (Ne.symm e)] at hx
      obtain ⟨b, h1, h2⟩ := ok.obj m x hx
      refine ⟨b, h1, h2.world (W' := { W with S := W.S.set l (.src s' cs' i') }) (fun _ _ q => q) (fun p o hp _ => by
        obtain ⟨p1, p2⟩ := hid_some.mp hp
        exact hid_some.mpr ⟨p1, hk p (fun z => by rw [z, hMa] at p1; cases p1) (fun z => by rw [z, hMc] at p1; cases p1) o p2⟩) (by rfl) fun q hq => ⟨hq, ?_⟩⟩
      have n1 : q ≠ a := fun z => by rw [z, hMa] at hq; simp at hq; omega
      have n2 : q ≠ c := fun z => by rw [z, hMc] at hq; simp at hq; omega
      cases z : H q with
      | none => exact absurd z (ok.dom q (by simp [hq]))
      | some o => exact hk q n1 n2 o z
  · show m < (W.S.set l (.src s' cs' i')).length
    rw [List.length_set]
    exact ok.bd m b hb
  · have n1 : p ≠ a := fun z => by rw [z, hMa] at h1; simp at h1
    have n2 : p ≠ c := fun z => by rw [z, hMc] at h1; simp at h1
    cases z : H p with
    | none => exact absurd z (ok.dom p (by simp [h1]))
    | some o => exact hk p n1 n2 o z
  · have n1 : p ≠ a := fun z => h1 (l + 1) (by rw [z]; exact hMa)
    have n2 : p ≠ c := fun z => h1 (l + 1) (by rw [z]; exact hMc)
    rw [h2]
    exact hk p n1 n2 _ h2
  · exact hk p (fun z => hq (l + 1) (by rw [z]; exact hMa)) (fun z => hq (l + 1) (by rw [z]; exact hMc)) o hp

theorem ix_mod {n : Nat} {i : Int} (h : 0 < n) : ixN n (i % (n : Int)) = some (i % (n : Int)).toNat := by
  have h1 : 0 ≤ i % (n : Int) := Int.emod_nonneg _ (by omega)
  have h2 : i % (n : Int) < n := Int.emod_lt_of_pos _ (by omega)
  unfold ixN
  rw [if_pos h1, if_pos h2]
theorem cell_at {cs : List Int} {i : Int} : atI (cs.map V.int ++ [V.int 0]) (i % (if (cs.length : Int) > 1 then (cs.length : Int) else 1)) = some (V.int (cellAt cs i)) := by
  unfold cellAt
  generalize hm : (if (cs.length : Int) > 1 then (cs.length : Int) else 1) = m
  have m1 : 0 < m ∧ m ≤ cs.length + 1 := by
    rw [← hm]
    split <;> omega
  have h1 : 0 ≤ i % m := Int.emod_nonneg _ (by omega)
  have h2 : i % m < m := Int.emod_lt_of_pos _ m1.1
  have e : (i % m) = (((i % m).toNat : Nat) : Int) := by omega
  have hlt : (i % m).toNat < (cs ++ [0]).length := by simp; omega
  rw [e]
  rw [Int.toNat_natCast]
  refine atI_nat ?_
  have : (cs.map V.int ++ [V.int 0]) = (cs ++ [0]).map V.int := by simp
  rw [this, List.getElem?_map, List.getElem?_eq_getElem hlt]
  simp [List.getD, List.getElem?_eq_getElem hlt]
theorem cell_pos {cs : List Int} {i : Int} (h : 10 ^ 18 ≤ cellAt cs i) : 0 < cs.length := by
  cases cs with
  | nil =>
    exfalso
    unfold cellAt at h
    have e : (i % (if ((([] : List Int).length : Nat) : Int) > 1 then ((([] : List Int).length : Nat) : Int) else 1)) = 0 := by
      simp
    rw [e] at h
    exact absurd h (by decide)
  | cons c cs => simp
theorem next_pre {K : PySem.W.Frag} {mg : Str → Option Value} {T : Tx} {W : Wd} {H : Hp} {E : XK} {Q : VK} {ds : List D} {vs : List V} (ok : WOk W H) (hr : Reps K mg W.μ (hid W.M H) ds vs) (q : Post (fmOf K mg T W H E) (fmOf K mg T W H E).rep W H [] (F_next ds W.S) Q) :
    ∃ l b a c s i, ∃ cs : List Int, ∃ i' : Int, ds = [.ref l, .int b] ∧ vs = [.ref a, .int b] ∧ W.S[l]? = some (.src s cs i) ∧ W.μ l = some a ∧ W.M a = some (l + 2) ∧ W.M c = some (l + 2) ∧ a ≠ c ∧ H a = some (.lst [.int s, .ref c, .int i]) ∧ H c = some (.lst (cs.map V.int)) ∧ 0 < b ∧ b < 2 ^ 256 ∧ cs.length ≤ 1000 ∧
      Post (fmOf K mg T W H E) (fmOf K mg T W H E).rep W H [] (.ok (.int (nextV s cs i b).v) (W.S.set l (.src (nextV s cs i b).s (nextV s cs i b).cs (nextV s cs i b).i))) Q := by
  unfold F_next at q
  split at q
  · split at q
    · rename_i hS
      split at q
      · rename_i hz
        cases hr with
        | cons r1 r2 =>
          cases r2 with
          | cons r3 r4 =>
            cases r4; cases r3
            cases r1 with
            | ref hμ =>
              obtain ⟨a, h1, h2, c, h3, h4, h5, h6⟩ := ok.obj _ _ hS
              rw [hμ] at h1
              cases h1
              exact ⟨_, _, _, c, _, _, _, 0, rfl, rfl, hS, hμ, h2, h3, h4, h5, h6, hz.1, hz.2.1, hz.2.2, q⟩
      · exact q.elim
    · exact q.elim
  · exact q.elim
end Bx

namespace Bx
open PySem L2
/-! ### what the head hands in -/
section
variable {K : PySem.W.Frag} {h : Heap} {mg : Str → Option Value} {x qual nm : Str} {st : Stmt} {ps : List Str} {fa C : Addr} {oc : Value} {od an : Option Addr} {sl : Array (Option Value)} {kV doc pm cdv ct : Value}
theorem def_mk (X : K.In h) (G : h.Ns mainGlobals mg) (a : PySem.W.nsIn K mainGlobals x = some (some (.ref fa)))
    (l : K.lookup fa = some ⟨oc, od, .func (PySem.W.fnOf x x (defArgs st) (defBody st) (defScope st) .none kV doc pm an cdv ct), sl⟩) (c : PySem.W.codeIn K cdv x = true) (k : PySem.W.keepIn K (.ref fa) = true)
    (hb : ∀ (kV doc pm : Value) (an : Option Addr) (cdv ct : Value) (us : List Value), us.length = ps.length → bindArgs (PySem.W.fnOf x x (defArgs st) (defBody st) (defScope st) .none kV doc pm an cdv ct) ⟨us, []⟩ = pure (ps.zip us)) : DefAt K mg x st ps :=
  ⟨fa, _, PySem.W.mg_of X G a, fun_mk l c k, (fun_mk l c k).binds hb⟩
theorem meth_mk (a : PySem.W.findIn K (.ref C) x = some (some (.ref fa))) (i : PySem.W.isFn K (.ref fa) = true)
    (l : K.lookup fa = some ⟨oc, od, .func (PySem.W.fnOf x qual (defArgs st) (defBody st) (defScope st) .none kV doc pm an cdv ct), sl⟩) (c : PySem.W.codeIn K cdv qual = true) (k : PySem.W.keepIn K (.ref fa) = true)
    (hb : ∀ (kV doc pm : Value) (an : Option Addr) (cdv ct : Value) (us : List Value), us.length = ps.length → bindArgs (PySem.W.fnOf x qual (defArgs st) (defBody st) (defScope st) .none kV doc pm an cdv ct) ⟨us, []⟩ = pure (ps.zip us)) : MethAt K C x qual st ps :=
  ⟨fa, _, a, i, fun_mk l c k, (fun_mk l c k).binds hb⟩
theorem prop_mk {pr : Addr} {rest : List Value} (a : PySem.W.findIn K (.ref C) x = some (some (.ref pr))) (g : PySem.W.specialIn K (.ref pr) "__get__" = some (some (.builtin "property.__get__"))) (t : PySem.W.takesIn K (.ref pr) = some true)
    (r : PySem.W.recIn K pr "property" = some (.ref fa :: rest))
    (l : K.lookup fa = some ⟨oc, od, .func (PySem.W.fnOf x qual (defArgs st) (defBody st) (defScope st) .none kV doc pm an cdv ct), sl⟩) (c : PySem.W.codeIn K cdv qual = true) (k : PySem.W.keepIn K (.ref fa) = true)
    (hb : ∀ (kV doc pm : Value) (an : Option Addr) (cdv ct : Value) (us : List Value), us.length = 1 → bindArgs (PySem.W.fnOf x qual (defArgs st) (defBody st) (defScope st) .none kV doc pm an cdv ct) ⟨us, []⟩ = pure ((["self"] : List Str).zip us)) : PropAt K C x qual st :=
  ⟨pr, fa, _, ⟨a, g, t, rest, r⟩, fun_mk l c k, (fun_mk l c k).binds hb⟩
theorem exc_mk (X : K.In h) (G : h.Ns mainGlobals mg) (a : PySem.W.nsIn K mainGlobals x = some (some (.ref C)))
    (e : PySem.W.excIn K C [.type "ValueError", .type "Exception", .type "BaseException", .type "object"] "ValueError.__new__" = true) (k : PySem.W.keepIn K (.ref C) = true) (b : PySem.W.subIn K (.ref C) (.type "BaseException") = some true) (t : PySem.W.typeIn K (.ref C) = some (.type "type")) : ∃ A, ExcTxt K mg x A :=
  ⟨C, PySem.W.mg_of X G a, e, k, b, t⟩
theorem ins_mk (cl : Cls K C) (ha : PySem.W.findIn K (.ref C) "__class__" = some (some (.builtin "object.__class__"))) (hn : PySem.W.specialIn K (.builtin "object.__class__") "__get__" = some (some (.builtin "getset_descriptor.__get__")))
    (htk : PySem.W.takesIn K (.builtin "object.__class__") = some true) (hm : PySem.W.mroIn K C (.type "object") = some true) (ic : PySem.W.isClsIn K C = true) (t : PySem.W.typeIn K (.ref C) = some (.type "type")) : InsTxt K C := by
  refine ⟨cl, ha, hn, htk, hm, fun a => ?_⟩
  have ic : (PySem.W.clsIn K C).isSome = true := ic
  unfold PySem.W.kitOne
  rw [if_neg (by simp)]
  show (if ((PySem.W.clsIn K C).isSome && PySem.W.typeIn K (.ref C) == some (.type "type")) = true then PySem.W.subIn K (.type a.nm) (.ref C) else none) = some false
  rw [if_pos (by rw [ic, t]; rfl)]
  cases a <;> rfl
theorem int_mk {n : Int} {tk : _} (X : K.In h) (G : h.Ns mainGlobals mg) (a : PySem.W.nsIn K mainGlobals x = some (some (.int n tk))) : ∃ t, mg x = some (.int n t) := ⟨tk, PySem.W.mg_of X G a⟩
end
/-! ### the law's own promise -/
abbrev txO (K : PySem.W.Frag) (mg : Str → Option Value) (w : World) : Tx := ⟨fun _ => none, K, mg, w⟩
def spLaw (K : PySem.W.Frag) : Sp := fun vs H Q E => ∃ (a : Addr) (ns : List Int), vs = [.ref a] ∧ SqL K H a (ns.map V.int) ∧ ns.length ≤ 63 ∧ ∀ H', Q (.bl true) H'
theorem law_fn {P : Program} {w : World} {K : PySem.W.Frag} {mg : Str → Option Value} {base : Heap} {k : Nat} {fa : Addr} {fd : FuncData} {x : Str} {sem : Sem} (G : FnOk P w K mg base (L2N.CX P w) k fa fd [x] (spD K mg (txO K mg w) 1 sem))
    (hsem : ∀ ns : List Int, ns.length ≤ 63 → ∃ S', sem [.scr ns] [] = .ok (.bl true) S') : FnOk P w K mg base (L2N.CX P w) k fa fd [x] (spLaw K) := by
  refine G.imp fun vs H Q E ⟨a, ns, e, hS, hl, q⟩ => ?_
  subst e
  obtain ⟨S', hs⟩ := hsem ns hl
  refine ⟨[.scr ns], ⟨fun _ => none, fun _ => none, [], txO K mg w⟩, rfl, ⟨⟨fun p h => absurd rfl h, fun l o h => by simp at h, fun l a h => (by cases h), fun P q h => (by cases h)⟩, rfl⟩, .cons (.scr ?_) .nil, ?_⟩
  · have : hid (fun _ => none) H = H := by funext p; rfl
    rw [this]
    exact hS
  · rw [hs]
    intro b H' W' _ _ _ r
    cases r
    exact q H'
theorem law_walk {l : PySem.W.OpenLaw} {q : Program} {loose : List Str} {XP : (Str → Option Value) → Heap → Prop} {YP : World → Heap → Prop} {d : DefRec} {K : Params → PySem.W.Frag} {k : Nat} {x : Str} {sem : Sem} (hn : l.most = some 63) (hdf : d.params.defaults = [])
    (hr : Room k callerA) (hY : ∀ (w : World) (h : Heap), YP w h → (K w.params).In h)
    (hsem : ∀ ns : List Int, ns.length ≤ 63 → ∃ S', sem [.scr ns] [] = .ok (.bl true) S')
    (F : ∀ (w : World) (mg : Str → Option Value) (fa : Addr) (h : Heap), (K w.params).In h → h.Ns mainGlobals mg → mg d.name = some (.ref fa) →
      ∃ fd : FuncData, (∀ (s : Shared) (u : Value), BindsTo s fd ⟨[u], []⟩ [(x, u)]) ∧ ∀ base : Heap, (K w.params).In base → base.Ns mainGlobals mg → FnOk l.prog w (K w.params) mg base (L2N.CX l.prog w) k fa fd [x] (spD (K w.params) mg (txO (K w.params) mg w) 1 sem)) :
    PySem.W.WalkO q loose XP YP l.row.toRowW d [] (fun f vs => PySem.call f vs) :=
  L2.walk_of (n := 63) (k := k) (x := x) (CX := fun w => L2N.CX l.prog w) (sp := fun w => spLaw (K w.params)) hn (by decide) hdf hr hY
    (fun w mg fa h X G hm => by
      obtain ⟨fd, hb, hF⟩ := F w mg fa h X G hm
      exact ⟨fd, hb, fun base hK hG => law_fn (hF base hK hG) hsem⟩)
    (fun _ _ a ns hl _ hS => ⟨a, ns, rfl, hS, hl, fun _ => rfl⟩) fun w H s e s' c => by
      obtain ⟨_, _, _, _, _, _, _, _, _, _, _, _, z⟩ := c
      exact z
end Bx

namespace Bx
open PySem PyProof.Rows L2

/-! ### enumerate(tuple) -/
def ItET (K : PySem.W.Frag) (a : Addr) : It :=
  ⟨fun i H => ∃ (xs : List V) (x : V), SqT K H a xs ∧ xs[i]? = some x, fun i H v H' => ∃ T x, v = .ref T ∧ H T = none ∧ H' = upd H T (.tup [.int (i : Nat), x]) ∧ ∀ xs, SqT K H a xs → xs[i]? = some x, fun i H => ∃ xs : List V, SqT K H a xs ∧ xs.length ≤ i⟩
theorem turn_enumT {P : Program} {w : World} {K : PySem.W.Frag} {elts : List Expr} {kk : Nat} {tpos : Pos} (a e it : Addr) :
    Turn P w K (.Tuple elts kk tpos) (ItET K a) [e, it] e (fun i h => (∃ old, IsEnum h e it ((i : Nat) : Int) old) ∧ h.IsTupleIter it a i ∧ e ≠ it ∧ a ≠ it ∧ e ≠ a) where
  mem := by simp
  obj := fun i h st b hb => by
    obtain ⟨⟨old, he⟩, ⟨o, ho, hc, hd⟩, _⟩ := st
    have e' : b = e ∨ b = it := by simpa using hb
    rcases e' with z | z
    · rw [z]; exact ⟨_, he, fun v q => nomatch q⟩
    · rw [z]; exact ⟨o, ho, fun v q => by rw [hd] at q; cases q⟩
  keep := fun i h h' st k => let ⟨⟨old, he⟩, hi, hne⟩ := st; ⟨⟨old, k e (by simp) _ he⟩, hi.at fun o q => k it (by simp) o q, hne⟩
  item := by
    intro X hP hw hK hc i pins s σ H E I hf st hg
    subst hP hw hK
    obtain ⟨⟨old, he⟩, hit, hne, hai, hea⟩ := st
    obtain ⟨xs, x, hq, hx⟩ := hg
    obtain ⟨its, rv, p, hz⟩ := I.tuple hq
    obtain ⟨u, hu, ru⟩ := rv.get hx
    have hel : e < s.heap.objs.size := Heap.lt_size he
    have hil : it < s.heap.objs.size := by obtain ⟨_, q, _⟩ := hit; exact Heap.lt_size q
    have hlt : i < its.toArray.size := by
      have := (List.getElem?_eq_some_iff.mp hu).1
      simpa using this
    refine wpAny_pyNext_enum_itemD (Draws.tuple (A := X.A.in1) (I.ok.hd hc) it a hai its.toArray) he ⟨hit, p⟩ hlt hne (by simp [hne, hea]) fun x' h' tk hx' ho hst hT hsz hk => ?_
    have ex : x' = u := by
      have hx' : its.toArray[i]? = some x' := hx'
      rw [show its.toArray[i]? = some u by simpa using hu] at hx'
      exact (Option.some.inj hx').symm
    subst ex
    obtain ⟨hit', _⟩ := hst
    refine ⟨_, rfl, wpAny_letOwnedTupleGo_enum (s := { s with heap := h', toks := tk + 1 }) ho fun h'' he' sb => ?_⟩
    have hT2 : h''.get? s.heap.objs.size = some { cls := .type "tuple", data := .seq #[.int i tk, x'] } := (sb.2 _ (Nat.ne_of_gt hel)).trans hT
    have new : ObjOk X.prog X.w (upd H s.heap.objs.size (.tup [.int (i : Nat), x])) h'' s.heap.objs.size (.tup [.int (i : Nat), x]) :=
      ⟨by show 2 ≤ sizeLine; decide, [.int i tk, x'], .cons ⟨_, rfl⟩ (.cons ru .nil), ⟨_, hT2, rfl, _, rfl⟩⟩
    have I1 : Inv X pins σ (upd H s.heap.objs.size (.tup [.int (i : Nat), x])) { s with heap := h'', toks := tk + 1 } :=
      I.turnedNew (ch := [e, it]) (fun b ob hb q => (sb.2 b (fun z => hb (by simp [z]))).trans (hk b ob (fun z => hb (by simp [z])) (fun z => hb (by simp [z])) q)) hf (Nat.le_refl _) new
    refine ⟨.ref s.heap.objs.size, _, I1, rfl, ⟨_, x, rfl, I.hok.fresh (Nat.le_refl _), rfl, fun ys hy => by rw [I.tuple_inj hy hq]; exact hx⟩, ⟨⟨x', ?_⟩, hit'.at fun o q => (sb.2 it (Ne.symm hne)).trans q, hne, hai, hea⟩, fun b hb => ?_⟩
    · have e1 : ((i + 1 : Nat) : Int) = (i : Int) + 1 := by omega
      rw [e1]; exact he'
    · have hb' : b < s.heap.objs.size := by
        have e' : b = e ∨ b = it := by simpa using hb
        rcases e' with z | z
        · rw [z]; exact hel
        · rw [z]; exact hil
      rw [upd_ne (Nat.ne_of_lt hb')]
      exact (hf b hb).1
  done := by
    intro X hP hw hK hc i pins s σ H E I hf st hg
    subst hP hw hK
    obtain ⟨⟨old, he⟩, hit, hne, hai, hea⟩ := st
    obtain ⟨xs, hq, hx⟩ := hg
    obtain ⟨its, rv, p, hz⟩ := I.tuple hq
    obtain ⟨f0, f1, f2, f3, f4, f5⟩ := hf it (by simp)
    have hl := rv.length
    have hT : s.TypeIs (.ref e) "enumerate" := ⟨_, he, rfl⟩
    unfold pyNext
    refine wpAny_bind (wpAny_attempt (wpAny_callSpecial?_slot (name := Str.ofString "__next__") hT F.slot_enumerate_next
      (wpAny_call_entry F.slot_enumerate_next hT F.entry_enumerate_next ?_ (F.args_enumerate_next_1 _))))
    show wpAny _ _ (field (.ref e) 2 >>= _) _ _ _
    refine wpAny_bind (wpAny_field he rfl (x := .ref it) rfl ?_)
    refine wpAny_bind (wpAny_nextOf_tuple_end (I.ok.hd hc) hit p (by simp; omega) fun h' x he' hx' => ?_)
    obtain ⟨o, ho, hc2⟩ := hx'
    refine wpAny_bind (wpAny_isInstance (T := "StopIteration") (b := true) ⟨o, ho, hc2⟩ isSubtype_stop ?_)
    exact wpAny_pure ⟨rfl, I.turned (t' := s.toks) (fun b o hb q => he' b o hb q) f0 f1 f3 f4 f5⟩
  self := fun A i s Q E st h => let ⟨⟨_, he⟩, _⟩ := st; wpAny_pyIter_enum he h
section
variable {K : PySem.W.Frag} {a : Addr} {xs : List V}
theorem walk_enumT : Walk (ItET K a) xs.length (fun H => SqT K H a xs) (YPair (fun i => some (.int (i : Nat))) (fun i => xs[i]?)) := by
  refine ⟨fun i _ hi q => ⟨xs, xs[i], q, by simp [hi]⟩, fun _ q => ⟨xs, q, Nat.le_refl _⟩, fun i H v H' _ q y => ?_⟩
  obtain ⟨T, x, h1, h2, h3, h4⟩ := y
  exact ⟨T, .int (i : Nat), x, h1, h2, h3, rfl, h4 xs q⟩
end
set_option maxHeartbeats 4000000 in
theorem meets_enumT (l : Addr) (items : Array Value) (o : Obj) :
    Meets (Builtin.«enumerate.__new__» ⟨[.type "enumerate", .ref l], []⟩) (fun _ R s => (s.heap.get? l = some o ∧ s.heap.IsTuple l items) ∧
      R (.ok (.ret (.ref (s.heap.push { cls := .type "tuple_iterator", data := .fields #[.ref l, .int 0 0] }).objs.size)))
        { s with heap := (s.heap.push { cls := .type "tuple_iterator", data := .fields #[.ref l, .int 0 0] }).push { cls := .type "enumerate", data := .fields #[.none, .bool false, .ref s.heap.objs.size, rawInt 0, .none, .none] } }) :=
  .of_wp fun prog w A R s h => by
    obtain ⟨hp, g, d, tk, os⟩ := s; obtain ⟨⟨hl, hT⟩, h⟩ := h
    have hsub := sub_enumerate
    have hT : Heap.IsTuple (Shared.heap ⟨hp, g, d, tk, os⟩) l items := hT
    wp_walk using AutoSeq1.wpAny_loadPart' hl
    refine wpAny_stack_any fun st => wpAny_pure ?_
    split
    · rename_i c _ _ _ _ _
      cases (c == Value.type "enumerate")
      · wp_walk using AutoSeq1.wpAny_loadPart' hl, wpAny_pyIter_tuple hT
        exact ⟨_, rfl, h⟩
      · wp_walk using AutoSeq1.wpAny_loadPart' hl, wpAny_pyIter_tuple hT
        exact ⟨_, rfl, h⟩
    · wp_walk using AutoSeq1.wpAny_loadPart' hl, wpAny_pyIter_tuple hT
      exact ⟨_, rfl, h⟩
theorem call_enumT {prog : Program} {w : World} {A : Around} {E : Value → Shared → Prop} {s : Shared} {l : Addr} {items : Array Value} {Q : Value → Shared → Prop} (hL : s.heap.IsTuple l items)
    (h : ∀ h', IsEnum h' (s.heap.objs.size + 1) s.heap.objs.size 0 .none → h'.IsTupleIter s.heap.objs.size l 0 → h'.objs.size = s.heap.objs.size + 2 →
      (∀ b o, s.heap.get? b = some o → h'.get? b = some o) → Q (.ref (s.heap.objs.size + 1)) { s with heap := h' }) :
    wpAny (model prog w) A (call (.type "enumerate") [.ref l]) Q E s := by
  have hL0 := hL
  obtain ⟨o, hl, hrest⟩ := hL
  refine callType_new F.called_enumerate (by decide) (F.typeCall_enumerate_1 _) (F.newCall_enumerate_1 _) (fun obj => F.args_object_init_2 obj _) F.entry_enumerate_new
    (meets_enumT l items o) ⟨⟨hl, hL0⟩, ?_⟩
  have hz : (s.heap.push { cls := .type "tuple_iterator", data := .fields #[.ref l, .int 0 0] }).objs.size = s.heap.objs.size + 1 := Heap.size_push ..
  show _ ∧ _
  rw [hz]
  have he : IsEnum ((s.heap.push { cls := .type "tuple_iterator", data := .fields #[.ref l, .int 0 0] }).push
      { cls := .type "enumerate", data := .fields #[.none, .bool false, .ref s.heap.objs.size, rawInt 0, .none, .none] }) (s.heap.objs.size + 1) s.heap.objs.size 0 .none := by
    have := Heap.get?_push_size (s.heap.push { cls := .type "tuple_iterator", data := .fields #[.ref l, .int 0 0] })
      (o := { cls := .type "enumerate", data := .fields #[.none, .bool false, .ref s.heap.objs.size, rawInt 0, .none, .none] }) rfl
    rw [hz] at this; exact this
  refine ⟨⟨_, he, rfl⟩, h _ he ⟨_, Heap.get?_push_of_some _ (Heap.get?_push_size _ rfl), rfl, rfl⟩ (by rw [Heap.size_push, hz]) fun b o x => Heap.get?_push_of_some _ (Heap.get?_push_of_some _ x)⟩
def iEnumA (K : PySem.W.Frag) (ta : TA) : TI := fun σ H R => ta σ H fun vs H1 => ∃ a xs, vs = [.ref a] ∧ ((SqL K H1 a xs ∧ R (Ite K a) H1) ∨ (SqT K H1 a xs ∧ R (ItET K a) H1))
theorem pi_enumA {X : Cx} {e : Expr} {ta : TA} {p pos tpos : Pos} {elts : List Expr} {kk : Nat} (hg : Gl X "enumerate") (hm : X.mg "enumerate" = none) (ha : PA X [e] ta) (hs : starEach [e] X.env = [(false, eval e X.env)] := by rfl) :
    PI X (.Tuple elts kk tpos) (.Call (.Name "enumerate" p) [e] [] pos) (iEnumA X.K ta) := by
  refine ⟨fun pins s σ H R I h => ?_⟩
  refine Call_ (ld_blt I hg hm boot_enumerate (PyProof.Rows.callWith_type1 (thn (ha.run pos pins s σ H _ I h) fun us s1 ⟨vs, H1, I1, r1, q1⟩ => ?_) hs rfl))
  obtain ⟨a, xs, ex, q1⟩ := q1
  subst ex
  cases r1 with
  | cons r rr =>
    cases rr
    cases r
    have fp : ∀ b, b ∈ [s1.heap.objs.size + 1, s1.heap.objs.size] → FpOk X pins H1 b := fun b hb => by
      have e' : b = s1.heap.objs.size + 1 ∨ b = s1.heap.objs.size := by simpa using hb
      have hle : s1.heap.objs.size ≤ b := by
        rcases e' with z | z
        · rw [z]; exact Nat.le_add_right _ _
        · rw [z]; exact Nat.le_refl _
      exact I1.fpOk hle (I1.hok.fresh hle)
    rcases q1 with ⟨hq, q⟩ | ⟨hq, q⟩
    · obtain ⟨its, rv, p', hz⟩ := I1.list hq
      refine call_enumerate_list p'.isList fun h' he hit hsz hk => wpAny_pyIter_enum he ?_
      have I2 : Inv X pins σ H1 { s1 with heap := h' } := I1.kept (t' := s1.toks) hk
      exact ⟨s1.heap.objs.size + 1, [s1.heap.objs.size + 1, s1.heap.objs.size], _, _, H1, rfl, I2, turn_enum a (s1.heap.objs.size + 1) s1.heap.objs.size, ⟨⟨.none, he⟩, hit, Nat.succ_ne_self _⟩, fp, q⟩
    · obtain ⟨its, rv, p', hz⟩ := I1.tuple hq
      have hlt : a < s1.heap.objs.size := by obtain ⟨o, ho, _⟩ := id p'; exact Heap.lt_size ho
      refine call_enumT (show s1.heap.IsTuple a its.toArray from p') fun h' he hit hsz hk => wpAny_pyIter_enum he ?_
      have I2 : Inv X pins σ H1 { s1 with heap := h' } := I1.kept (t' := s1.toks) hk
      exact ⟨s1.heap.objs.size + 1, [s1.heap.objs.size + 1, s1.heap.objs.size], _, _, H1, rfl, I2, turn_enumT a (s1.heap.objs.size + 1) s1.heap.objs.size, ⟨⟨.none, he⟩, hit, Nat.succ_ne_self _, Nat.ne_of_lt hlt, Nat.ne_of_gt (Nat.lt_succ_of_lt hlt)⟩, fp, q⟩
def gEnumA : List D → Store → R (List D)
  | [.lst xs], S => .ok (xs.zipIdx.map fun p => .tup [.int p.2, p.1]) S
  | [.tup xs], S => .ok (xs.zipIdx.map fun p => .tup [.int p.2, p.1]) S
  | _, _ => .no
section
variable {F : Fm} {X : Cx} {tg e : Expr} {elts : List Expr} {kk : Nat} {tpos p pos : Pos} {fs : Fn (List D)}
theorem enum_at {W1 W2 : Wd} {H1 H2 H3 : Hp} {vs : List V} {xs : List D} {i : Nat} {d : D} {x : V} (ok : WOk W2 H2) (b1 : F.reps W1 H1 xs vs) (g : GrS W1 H1 W2 H2) (hd : (xs.zipIdx.map fun p => D.tup [.int p.2, p.1])[i]? = some d)
    (y : YPair (fun i => some (.int (i : Nat))) (fun i => vs[i]?) i H2 x H3) : Same H2 H3 ∧ F.rep W2 H3 d x := by
  rw [List.getElem?_map] at hd
  obtain ⟨⟨d1, k⟩, hd', rfl⟩ := Option.map_eq_some_iff.mp hd
  rw [List.getElem?_zipIdx] at hd'
  obtain ⟨d2, hd2, e2⟩ := Option.map_eq_some_iff.mp hd'
  simp at e2
  obtain ⟨rfl, rfl⟩ := e2
  refine ypair ok y (fun x e => ?_) fun x e => ?_
  · cases e
    exact .int _
  · obtain ⟨v', e1, e2⟩ := b1.get (i := i) hd2
    rw [e] at e1; cases e1
    exact rep_gr g e2
theorem di_enumA (hg : Gl X "enumerate") (hm : X.mg "enumerate" = none) (ha : PA X [e] (denA F fs)) (hs : starEach [e] X.env = [(false, eval e X.env)] := by rfl) (hK : F.K = X.K := by rfl) :
    PI X (.Tuple elts kk tpos) (.Call (.Name "enumerate" p) [e] [] pos) (denI F (fUn gEnumA fs)) := (pi_enumA hg hm ha hs).imp fun σ H T ⟨ρ, W, I, q⟩ => ⟨ρ, W, I, q.bind fun ds v H1 W1 g ok r q1 => by
    unfold gEnumA at q1
    split at q1
    · cases r with
      | cons r1 r2 =>
        cases r2
        cases r1 with
        | @lst a vs _ h1 h2 =>
          refine ⟨a, vs, rfl, .inl ⟨SqL.of (hid_le _ _ h1), ?_⟩⟩
          exact q1 _ _ (fun H => SqL X.K H a vs) H1 W1 rfl (Gr.refl _ _) ok (by rw [List.length_map, List.length_zipIdx, h2.len]; exact walk_enum) (fun W2 H2 g2 => SqL.of (stands (M := W1.M) h1 g2)) fun i d W2 H2 x H3 g2 ok2 hd y => enum_at ok2 h2 g2 hd y
    · cases r with
      | cons r1 r2 =>
        cases r2
        cases r1 with
        | @tup a vs _ h1 h2 =>
          refine ⟨a, vs, rfl, .inr ⟨SqT.of (hid_le _ _ h1), ?_⟩⟩
          exact q1 _ _ (fun H => SqT X.K H a vs) H1 W1 rfl (Gr.refl _ _) ok (by rw [List.length_map, List.length_zipIdx, h2.len]; exact walk_enumT) (fun W2 H2 g2 => SqT.of (stands (M := W1.M) h1 g2)) fun i d W2 H2 x H3 g2 ok2 hd y => enum_at ok2 h2 g2 hd y
    · exact q1.elim⟩
end

/-! ### list(range(..)) -/
section
variable {F : Fm} {X : Cx} {e e2 : Expr} {p p2 pos pos2 : Pos} {f f1 f2 : Fn D}
def gRgL : D → Store → R (List D)
  | .int j, S => if -1000000 ≤ j ∧ j ≤ 1000000 then .ok (rangeD 0 j.toNat) S else .no
  | _, _ => .no
@[simp] def fRgL (f : Fn D) : Fn Sl := fun ρ S => (f ρ S).bind fun d S1 => match gRgL d S1 with
  | .ok es _ => .ok (.ow es) S1
  | _ => .no
theorem rangeD_ints (n : Nat) : rangeD 0 n = ((List.range n).map fun (k : Nat) => (0 + (k : Int))).map D.int := by simp [rangeD]
theorem dx_listRg1 (hc : X.calm = true) (hgl : Gl X "list") (hml : X.mg "list" = none) (hgr : Gl X "range") (hmr : X.mg "range" = none) (he : PE X e (denE F f)) (h1 : starEach [e] X.env = (false, eval e X.env) :: starEach [] X.env := by rfl)
    (h2 : starEach [.Call (.Name "range" p2) [e] [] pos2] X.env = (false, eval (.Call (.Name "range" p2) [e] [] pos2) X.env) :: starEach [] X.env := by rfl) :
    PE X (.Call (.Name "list" p) [.Call (.Name "range" p2) [e] [] pos2] [] pos) (denX F (fRgL f)) :=
  (pe_listRg hc hgl hml (prg_1 hgr hmr he (na := h1))).imp fun σ H Q ⟨ρ, W, I, q⟩ => ⟨ρ, W, I, q.bind fun d v H1 W1 g ok r q1 => by
    cases r with
    | int j =>
      have q1 : Post F (relX F H) W1 H1 σ (match (if -1000000 ≤ j ∧ j ≤ 1000000 then R.ok (rangeD 0 j.toNat) W1.S else .no : R (List D)) with
        | .ok es _ => .ok (.ow es) W1.S
        | _ => .no) Q := q1
      by_cases hz : -1000000 ≤ j ∧ j ≤ 1000000
      · rw [if_pos hz] at q1
        refine ⟨j, rfl, ⟨by omega, by omega, by omega, by omega, by omega⟩, fun p hp => ?_⟩
        have e1 : rgV 0 j = ((List.range j.toNat).map fun (k : Nat) => (0 + (k : Int))).map V.int := by
          unfold rgV
          simp
        rw [e1]
        refine Post.newX g ok hp q1 ?_
        rw [rangeD_ints]
        exact Reps.ofInts _
      · rw [if_neg hz] at q1
        exact q1.elim
    | _ => exact q1.elim⟩
end

/-! ### [e for .. for .. if ..] -/
def isFz : Sl → Bool
  | .un | .fz _ => true
  | _ => false
def lcL2 (g : Tgt D) (t : Fn Bool) (fi1 : Fn (List D)) (g1 : Tgt D) (t1 : Fn Bool) (e : Fn D) (vs1 : List Nat) (ρ : Rho) : List D → List D → Store → R (List D)
  | [], acc, S => .ok acc S
  | d :: ds, acc, S => match g d ρ with
    | none => .no
    | some ρ1 => (t ρ1 S).bind fun b S1 => if b = true then (fi1 ρ1 S1).bind fun ds1 S2 => (if ds1.length ≤ LIM ∧ acc.length ≤ LIM ∧ ρ1.all isFz = true then
        (lcL g1 t1 e (wipeR ρ1 vs1) ds1 acc S2).bind fun acc2 S3 => lcL2 g t fi1 g1 t1 e vs1 ρ ds acc2 S3 else .no)
      else lcL2 g t fi1 g1 t1 e vs1 ρ ds acc S1
def fLc2 (fi : Fn (List D)) (g : Tgt D) (t : Fn Bool) (fi1 : Fn (List D)) (g1 : Tgt D) (t1 : Fn Bool) (e : Fn D) (vs vs1 : List Nat) : Fn Sl := fun ρ S => (fi ρ S).bind fun ds S1 => if ds.length ≤ LIM then noer (fun ys S2 => .ok (.ow ys) S2) (lcL2 g t fi1 g1 t1 e vs1 (wipeR ρ vs) ds [] S1) else .no
theorem EnvOk.fzS {F : Fm} {W W' : Wd} {H H' : Hp} {σ : L2.St} {ρ : Rho} (e : EnvOk F W H σ ρ) (h : ρ.all isFz = true) (g : GrS W H W' H') : EnvOk F W' H' σ ρ := by
  have no : ∀ (i : Nat) (s : Sl), ρ[i]? = some s → isFz s = true := fun i s hs => List.all_eq_true.mp h s (List.mem_of_getElem? hs)
  refine ⟨e.len, fun i d hd => ?_, fun i ds hd => ?_, fun i j ds es p hd => ?_, fun i c ns xs hd => ?_, fun i x hd => ?_, g.tt.trans e.tk⟩
  · obtain ⟨v, h1, h2⟩ := e.fz i d hd
    exact ⟨v, h1, rep_gr g h2⟩
  · exact absurd (no i _ hd) (by simp [isFz])
  · exact absurd (no i _ hd) (by simp [isFz])
  · exact absurd (no i _ hd) (by simp [isFz])
  · exact absurd (no i _ hd) (by simp [isFz])
/-- the new list of a comprehension, amid its run -/
structure LcI (F : Fm) (W1 : Wd) (H1 : Hp) (Dl : Addr) (W' : Wd) (H' : Hp) (acc : List D) (ws : List V) : Prop where
  ok : WOk W' H'
  gr : Gr W1 H1 W' H'
  m : W'.M Dl = some 0
  h : H' Dl = some (.lst ws)
  r : F.reps W' H' acc ws
theorem LcI.go {F : Fm} {W1 W' W2 : Wd} {H1 H' H2 : Hp} {Dl : Addr} {acc : List D} {ws : List V} (I : LcI F W1 H1 Dl W' H' acc ws) (g : Gr W' H' W2 H2) (ok : WOk W2 H2) : LcI F W1 H1 Dl W2 H2 acc ws :=
  ⟨ok, I.gr.trans g, (g.ms Dl (by rw [I.h]; simp)).trans I.m, g.ex Dl _ I.h fun l => by rw [I.m]; simp, reps_gr g.s I.r⟩
theorem LcI.app {F : Fm} {W1 W' : Wd} {H1 H' : Hp} {Dl : Addr} {acc : List D} {ws : List V} {y : D} {v : V} (I : LcI F W1 H1 Dl W' H' acc ws) (hD : H1 Dl = none) (rv : F.rep W' H' y v) : LcI F W1 H1 Dl W' (upd H' Dl (.lst (ws ++ [v]))) (acc ++ [y]) (ws ++ [v]) ∧ GrS W' H' W' (upd H' Dl (.lst (ws ++ [v]))) := by
  have nD : ∀ q, H1 q ≠ none → q ≠ Dl := fun q hq z => hq (z ▸ hD)
  have hh : hid W'.M (upd H' Dl (.lst (ws ++ [v]))) = hid W'.M H' := hid_own (by rw [I.m]; simp)
  have z := I.gr
  refine ⟨⟨I.ok.own I.m (lst_code I.h), ⟨fun q hq => z.ms q hq, fun q o hq hl => by rw [upd_ne (nD q (by simp [hq]))]; exact z.ex q o hq hl, fun q hq => by rw [upd_ne (nD q hq)]; exact z.ds q hq, z.mu, z.tt⟩, I.m, upd_same, ?_⟩, ⟨fun q o n hq => ⟨n, by rw [upd_ne fun z => by rw [z, I.m] at n; cases n]; exact hq⟩, fun _ _ h => h, rfl⟩⟩
  have a1 : F.reps W' (upd H' Dl (.lst (ws ++ [v]))) acc ws := by
    show Reps _ _ _ (hid W'.M _) _ _
    rw [hh]; exact I.r
  have a2 : F.rep W' (upd H' Dl (.lst (ws ++ [v]))) y v := by
    show Rep _ _ _ (hid W'.M _) _ _
    rw [hh]; exact rv
  exact a1.append (.cons a2 .nil)
theorem wipe2 (σ : L2.St) (vs : List Nat) : wipe (wipe σ vs) vs = wipe σ vs := by
  apply List.ext_getElem?
  intro j
  rw [wipe_get, wipe_get]
  by_cases hj : j ∈ vs
  · simp only [hj, if_true]
    cases σ[j]? <;> rfl
  · simp only [hj, if_false]
theorem den_lc2 {F : Fm} {fi fi1 : Fn (List D)} {g g1 : Tgt D} {t t1 : Fn Bool} {e : Fn D} {vs vs1 is is1 : List Nat} (hv : ∀ i ∈ is, i ∈ vs) (hv1 : ∀ i ∈ is1, i ∈ vs1) {σ : L2.St} {H : Hp} {Q : VK} (h : denX F (fLc2 fi g t fi1 g1 t1 e vs vs1) σ H Q) :
    tLc2 (denI F fi) (denG F F.rep g is) (denT F.nw t) (denI F.nw fi1) (denG F F.rep g1 is1) (denT F.nw t1) (denE F.nw e) vs vs1 σ H Q := by
  obtain ⟨ρ, W, I, q⟩ := h
  refine ⟨ρ, W, I, ?_⟩
  unfold fLc2 at q
  cases hfi : fi ρ W.S with
  | no => rw [hfi] at q; exact q.elim
  | er x S => rw [hfi] at q; exact q
  | ok ds S1 =>
    rw [hfi] at q
    have q1 : Post F (relX F H) W H σ (if ds.length ≤ LIM then noer (fun ys S2 => .ok (.ow ys) S2) (lcL2 g t fi1 g1 t1 e vs1 (wipeR ρ vs) ds [] S1) else .no) Q := q
    split at q1
    · rename_i hlen
      cases hl : lcL2 g t fi1 g1 t1 e vs1 (wipeR ρ vs) ds [] S1 with
      | no => rw [hl] at q1; exact q1.elim
      | er x S => rw [hl] at q1; exact q1.elim
      | ok ys S2 =>
        rw [hl] at q1
        have q1 : Post F (relX F H) W H σ (.ok (.ow ys) S2) Q := q1
        intro J Y G H1 W1 e1 g0 ok1 wk st yl Dl hD
        have hD0 : H Dl = none := by
          cases z : H Dl with
          | none => rfl
          | some u => exact absurd hD (g0.ds Dl (by simp [z]))
        refine ⟨fun i m H' => m = ds.length - i ∧ i ≤ ds.length ∧ ∃ W' acc ws, LcI F W1 H1 Dl W' H' acc ws ∧ lcL2 g t fi1 g1 t1 e vs1 (wipeR ρ vs) (ds.drop i) acc W'.S = .ok ys S2, ⟨ds.length, by simp, Nat.zero_le _, ?_⟩, ?_⟩
        · obtain ⟨a, b⟩ := mask_new (o := .lst []) ok1 hD
          exact ⟨mask Dl W1, [], [], ⟨a, b, mask_self, upd_same, .nil⟩, by rw [← e1] at hl; exact hl⟩
        · rintro i m H' ⟨rfl, hi, W', acc, ws, LI, hres⟩
          have hG := st W' H' LI.gr.s
          by_cases hlt : i < ds.length
          · refine .inr ⟨wk.goes i H' hlt hG, fun H' => ∃ W' acc ws, LcI F W1 H1 Dl W' H' acc ws ∧ lcL2 g t fi1 g1 t1 e vs1 (wipeR ρ vs) (ds.drop (i + 1)) acc W'.S = .ok ys S2, fun H'' p => ⟨ds.length - (i + 1), by omega, rfl, hlt, p⟩, fun x H3 y => ?_⟩
            have y := wk.yields i H' x H3 hlt hG y
            have hdi : ds[i]? = some ds[i] := by simp [hlt]
            obtain ⟨sm, rx⟩ := yl i ds[i] W' H' x H3 LI.gr.s LI.ok hdi y
            rw [List.drop_eq_getElem_cons hlt] at hres
            unfold lcL2 at hres
            cases hg : g ds[i] (wipeR ρ vs) with
            | none => rw [hg] at hres; cases hres
            | some ρ1 =>
              rw [hg] at hres
              have L3 := LI.go (Gr.same sm) (LI.ok.same sm)
              have IE : EnvOk F W' H3 (wipe σ vs) (wipeR ρ vs) := ((I.env.gr g0).gr L3.gr).wipe vs
              refine ⟨wipeR ρ vs, W', ds[i], ρ1, ⟨L3.ok, I.gr.trans (g0.trans L3.gr), IE⟩, rx, hg, fun σ2 I2 w2 => ⟨(w2 vs hv).trans (wipe2 σ vs), ρ1, W', I2.nwF, ?_⟩⟩
              have hres : (t ρ1 W'.S).bind (fun b S1 => if b = true then (fi1 ρ1 S1).bind fun ds1 S2 => (if ds1.length ≤ LIM ∧ acc.length ≤ LIM ∧ ρ1.all isFz = true then
                (lcL g1 t1 e (wipeR ρ1 vs1) ds1 acc S2).bind fun acc2 S3 => lcL2 g t fi1 g1 t1 e vs1 (wipeR ρ vs) (ds.drop (i + 1)) acc2 S3 else .no)
                else lcL2 g t fi1 g1 t1 e vs1 (wipeR ρ vs) (ds.drop (i + 1)) acc S1) = .ok ys S2 := hres
              cases ht : t ρ1 W'.S with
              | no => rw [ht] at hres; cases hres
              | er x S => rw [ht] at hres; cases hres
              | ok b S3 =>
                rw [ht] at hres
                intro b' H4 W4 e4 g4 ok4 rb
                cases (show b = b' from rb)
                have L4 := L3.go g4 ok4
                cases b with
                | false =>
                  rw [if_neg Bool.false_ne_true]
                  exact ⟨W4, acc, ws, L4, by rw [e4]; exact hres⟩
                | true =>
                  rw [if_pos rfl]
                  have I4 := I2.nwF.go g4 ok4
                  refine ⟨ρ1, W4, I4, ?_⟩
                  rw [e4]
                  have hres : (fi1 ρ1 S3).bind (fun ds1 S2 => (if ds1.length ≤ LIM ∧ acc.length ≤ LIM ∧ ρ1.all isFz = true then
                    (lcL g1 t1 e (wipeR ρ1 vs1) ds1 acc S2).bind fun acc2 S3 => lcL2 g t fi1 g1 t1 e vs1 (wipeR ρ vs) (ds.drop (i + 1)) acc2 S3 else .no)) = .ok ys S2 := hres
                  cases hf1 : fi1 ρ1 S3 with
                  | no => rw [hf1] at hres; cases hres
                  | er x S => rw [hf1] at hres; cases hres
                  | ok ds1 S5 =>
                    rw [hf1] at hres
                    have hres : (if ds1.length ≤ LIM ∧ acc.length ≤ LIM ∧ ρ1.all isFz = true then
                      (lcL g1 t1 e (wipeR ρ1 vs1) ds1 acc S5).bind fun acc2 S3 => lcL2 g t fi1 g1 t1 e vs1 (wipeR ρ vs) (ds.drop (i + 1)) acc2 S3 else .no) = .ok ys S2 := hres
                    split at hres
                    · rename_i hz
                      obtain ⟨hz1, hz2, hz3⟩ := hz
                      intro J1 Y1 G1 H5 W5 e5 g5 ok5 wk1 st1 yl1
                      have L5 := L4.go g5 ok5
                      have I5 : IF F W5 H5 σ2 ρ1 := (I2.go g4 ok4).go g5 ok5
                      refine ⟨fun j k H' => k = ds1.length - j ∧ j ≤ ds1.length ∧ ∃ W' acc ws, LcI F W1 H1 Dl W' H' acc ws ∧ GrS W5 H5 W' H' ∧ acc.length ≤ LIM + j ∧
                        (lcL g1 t1 e (wipeR ρ1 vs1) (ds1.drop j) acc W'.S).bind (fun acc2 S3 => lcL2 g t fi1 g1 t1 e vs1 (wipeR ρ vs) (ds.drop (i + 1)) acc2 S3) = .ok ys S2, ⟨ds1.length, by simp, Nat.zero_le _, W5, acc, ws, L5, GrS.refl _ _, by omega, by rw [e5]; exact hres⟩, ?_⟩
                      rintro j k H6 ⟨rfl, hj, W6, acc6, ws6, L6, gs6, hac, hres6⟩
                      have hG1 := st1 W6 H6 gs6
                      by_cases hjt : j < ds1.length
                      · refine .inr ⟨wk1.goes j H6 hjt hG1, fun H' => ∃ W' acc ws, LcI F W1 H1 Dl W' H' acc ws ∧ GrS W5 H5 W' H' ∧ acc.length ≤ LIM + (j + 1) ∧
                          (lcL g1 t1 e (wipeR ρ1 vs1) (ds1.drop (j + 1)) acc W'.S).bind (fun acc2 S3 => lcL2 g t fi1 g1 t1 e vs1 (wipeR ρ vs) (ds.drop (i + 1)) acc2 S3) = .ok ys S2, fun H'' p => ⟨ds1.length - (j + 1), by omega, rfl, hjt, p⟩, fun x1 H7 y1 => ?_⟩
                        have y1 := wk1.yields j H6 x1 H7 hjt hG1 y1
                        have hdj : ds1[j]? = some ds1[j] := by simp [hjt]
                        obtain ⟨sm1, rx1⟩ := yl1 j ds1[j] W6 H6 x1 H7 gs6 L6.ok hdj y1
                        rw [List.drop_eq_getElem_cons hjt] at hres6
                        unfold lcL at hres6
                        cases hg1 : g1 ds1[j] (wipeR ρ1 vs1) with
                        | none => rw [hg1] at hres6; cases hres6
                        | some ρ2 =>
                          rw [hg1] at hres6
                          have L7 := L6.go (Gr.same sm1) (L6.ok.same sm1)
                          have gs7 : GrS W5 H5 W6 H7 := gs6.trans (Gr.same sm1).s
                          have IE7 : EnvOk F W6 H7 (wipe σ2 vs1) (wipeR ρ1 vs1) := (I5.env.fzS hz3 gs7).wipe vs1
                          refine ⟨wipeR ρ1 vs1, W6, ds1[j], ρ2, ⟨L7.ok, I.gr.trans (g0.trans L7.gr), IE7⟩, rx1, hg1, fun σ3 I8 w8 => ⟨(w8 vs1 hv1).trans (wipe2 σ2 vs1), ρ2, W6, I8.nwF, ?_⟩⟩
                          have hres6 : ((t1 ρ2 W6.S).bind (fun b S1 => if b = true then (e ρ2 S1).bind fun y S2 => lcL g1 t1 e (wipeR ρ1 vs1) (ds1.drop (j + 1)) (acc6 ++ [y]) S2 else lcL g1 t1 e (wipeR ρ1 vs1) (ds1.drop (j + 1)) acc6 S1)).bind (fun acc2 S3 => lcL2 g t fi1 g1 t1 e vs1 (wipeR ρ vs) (ds.drop (i + 1)) acc2 S3) = .ok ys S2 := hres6
                          cases ht1 : t1 ρ2 W6.S with
                          | no => rw [ht1] at hres6; cases hres6
                          | er x S => rw [ht1] at hres6; cases hres6
                          | ok b S8 =>
                            rw [ht1] at hres6
                            intro b' H8 W8 e8 g8 ok8 rb8
                            cases (show b = b' from rb8)
                            have L8 := L7.go g8 ok8
                            have gs8 := gs7.trans g8.s
                            cases b with
                            | false =>
                              rw [if_neg Bool.false_ne_true]
                              exact ⟨W8, acc6, ws6, L8, gs8, by omega, by rw [e8]; exact hres6⟩
                            | true =>
                              rw [if_pos rfl]
                              have hres6 : ((e ρ2 S8).bind (fun y S2 => lcL g1 t1 e (wipeR ρ1 vs1) (ds1.drop (j + 1)) (acc6 ++ [y]) S2)).bind (fun acc2 S3 => lcL2 g t fi1 g1 t1 e vs1 (wipeR ρ vs) (ds.drop (i + 1)) acc2 S3) = .ok ys S2 := hres6
                              refine ⟨ρ2, W8, (I8.nwF).go g8 ok8, ?_⟩
                              rw [e8]
                              cases he : e ρ2 S8 with
                              | no => rw [he] at hres6; cases hres6
                              | er x S => rw [he] at hres6; cases hres6
                              | ok y S9 =>
                                rw [he] at hres6
                                intro v H9 W9 e9 g9 ok9 rv
                                have L9 := L8.go g9 ok9
                                have gs9 := gs8.trans g9.s
                                obtain ⟨La, ga⟩ := L9.app hD rv
                                refine ⟨ws6, L9.h, ?_, W9, acc6 ++ [y], ws6 ++ [v], La, gs9.trans ga, by simp; omega, by rw [e9]; exact hres6⟩
                                have hn := L9.r.len
                                have : ws6.length < LIM + LIM := by omega
                                exact Nat.lt_of_lt_of_le this (by show 1000000 + 1000000 ≤ sizeLine; decide)
                      · have ej : j = ds1.length := by omega
                        subst ej
                        refine .inl ⟨wk1.stops H6 hG1, W6, acc6, ws6, L6, ?_⟩
                        rw [List.drop_length] at hres6
                        unfold lcL at hres6
                        exact hres6
                    · cases hres
          · have ei : i = ds.length := by omega
            subst ei
            refine .inl ⟨wk.stops H' hG, ?_⟩
            rw [List.drop_length] at hres
            unfold lcL2 at hres
            cases hres
            exact q1 _ H' W' rfl (g0.trans LI.gr) LI.ok ⟨Dl, ws, rfl, hD0, LI.m, LI.h, LI.r⟩
    · exact q1.elim
section
variable {X : Cx} {F : Fm} {elt tg iter tg1 iter1 : Expr} {ifs ifs1 : List Expr} {scope : Scope} {own : List (Str × Nat)} {vs1 : List Nat} {pos spos : Pos} {fi fi1 : Fn (List D)} {g g1 : Tgt D} {is is1 : List Nat} {t t1 : Fn Bool} {e : Fn D}
theorem ds_setLc2 {i : Nat} {y : Str} {py : Pos} (hc : X.calm = true) (hN : X.N.Nodup) (hy : X.N[i]? = some y) (hyl : X.env.scope.names.lookup y = some .local)
    (hsw : swapsWith (.ListComp elt [⟨tg, iter, ifs, 0⟩, ⟨tg1, iter1, ifs1, 0⟩] scope pos) (some (.Name y py)) spos.line X.env = pure true) (hi : PI X tg iter (denI F fi)) (ok : BlkOk X.N X.env.scope scope own) (hv1 : ∀ i ∈ vs1, i ∈ own.map (·.2))
    (hg : ∀ (s : Shared) (H : Hp) (C : Addr) (cl : List (Str × Addr)) (fp : List Addr), PG (X.blk s H scope (compEnvC scope cl C X.env) fp) tg (denG F F.rep g is))
    (ht : ∀ (s : Shared) (H : Hp) (C : Addr) (cl : List (Str × Addr)) (fp : List Addr), PTs (X.blk s H scope (compEnvC scope cl C X.env) fp) ifs (denT F.nw t))
    (hi1 : ∀ (s : Shared) (H : Hp) (C : Addr) (cl : List (Str × Addr)) (fp : List Addr), PI (X.blk s H scope (compEnvC scope cl C X.env) fp) tg1 iter1 (denI F.nw fi1))
    (hg1 : ∀ (s : Shared) (H : Hp) (C : Addr) (cl : List (Str × Addr)) (fp : List Addr), PG (X.blk s H scope (compEnvC scope cl C X.env) fp) tg1 (denG F F.rep g1 is1))
    (ht1 : ∀ (s : Shared) (H : Hp) (C : Addr) (cl : List (Str × Addr)) (fp : List Addr), PTs (X.blk s H scope (compEnvC scope cl C X.env) fp) ifs1 (denT F.nw t1))
    (he : ∀ (s : Shared) (H : Hp) (C : Addr) (cl : List (Str × Addr)) (fp : List Addr), PE (X.blk s H scope (compEnvC scope cl C X.env) fp) elt (denE F.nw e)) (hv : ∀ i ∈ is, i ∈ own.map (·.2) := by decide) (hw : ∀ i ∈ is1, i ∈ vs1 := by decide)
    (hs : ∀ x, foldedSetIterable iter X.env x = pure x := by intro _; rfl) (hs1 : ∀ env x, foldedSetIterable iter1 env x = pure x := by intro _ _; rfl) :
    PS X (.Assign [.Name y py] (.ListComp elt [⟨tg, iter, ifs, 0⟩, ⟨tg1, iter1, ifs1, 0⟩] scope pos) spos) (denS F (sSet i (fLc2 fi g t fi1 g1 t1 e (own.map (·.2)) vs1))) :=
  (ps_setLc2 hc hN hy hyl hsw hi ok hv1 hg ht hi1 hg1 ht1 he hs hs1).imp fun En σ H ⟨ρ, W, I, q⟩ => den_lc2 (Q := fun x H1 => gName i x σ H1 En.nx) hv hw ⟨ρ, W, I, q.bind I fun sl v H1 W1 g ok r q1 => by
    split at q1
    · rename_i hi
      exact PostS.nil (σ := σ.set i (some v)) ⟨ok, I.gr.trans g, (I.env.gr g).setX I.env I.gr r hi⟩ q1
    · exact q1.elim⟩
end
/-! ### a look at a frame's own lists: a test -/
@[simp] def fPeekT (t : Fn Bool) : Fn Bool := fun ρ S => match t (ρ.map frzS) S with
  | .ok d S1 => .ok d S1
  | .er x S1 => if x.fld.isNone = true then .er x S1 else .no
  | .no => .no
section
variable {X : Cx} {F : Fm} {e : Expr}
theorem dt_peek {t : Fn Bool} (h : ∀ W0 H0, PT X e (denT { F with W0 := W0, H0 := H0 } t)) : PT X e (denT F (fPeekT t)) := by
  refine ⟨fun pins s σ H Q I q => ?_⟩
  obtain ⟨ρ, W, J, q⟩ := q
  refine (h (unmaskAll W H) H).run pins s σ H Q I ⟨ρ.map frzS, unmaskAll W H, ⟨?_, Gr.refl _ _, ?_⟩, ?_⟩
  · refine ⟨fun p hp => ?_, fun l x hx => ?_, J.ok.bd, fun P q hT => (J.ok.tab P q hT).world (fun a h1 => ⟨(if_neg (by rw [h1]; simp)).trans h1, rfl⟩) (fun a q h1 h2 => ⟨fun l => by
      show (if W.M a = some 0 ∧ lstAt H a = true then none else W.M a) ≠ some (l + 1)
      split
      · simp
      · exact h1 l, rfl⟩)⟩
    · refine J.ok.dom p fun z => hp ?_
      show (if W.M p = some 0 ∧ lstAt H p = true then none else W.M p) = none
      split
      · rfl
      · exact z
    · obtain ⟨a, h1, h2⟩ := J.ok.obj l x hx
      have sm : Same (hid W.M H) (hid (unmaskAll W H).M H) := fun a o h => by
        obtain ⟨h1, h2⟩ := hid_some.mp h
        refine hid_some.mpr ⟨?_, h2⟩
        show (if W.M a = some 0 ∧ lstAt H a = true then none else W.M a) = none
        rw [if_neg (by rw [h1]; simp)]
        exact h1
      refine ⟨a, h1, h2.world (W' := unmaskAll W H) (fun _ _ q => q) sm.n (by rfl) fun q hq => ⟨?_, rfl⟩⟩
      show (if W.M q = some 0 ∧ lstAt H q = true then none else W.M q) = some (l + 2)
      rw [if_neg (by rw [hq]; simp)]
      exact hq
  · have sm : Same (hid W.M H) (hid (unmaskAll W H).M H) := fun a o h => by
      obtain ⟨h1, h2⟩ := hid_some.mp h
      refine hid_some.mpr ⟨?_, h2⟩
      show (if W.M a = some 0 ∧ lstAt H a = true then none else W.M a) = none
      rw [if_neg (by rw [h1]; simp)]
      exact h1
    have no : ∀ (i : Nat) (s : Sl), (ρ.map frzS)[i]? = some s → s = .un ∨ ∃ d, s = .fz d := fun i s h => by
      rw [List.getElem?_map] at h
      obtain ⟨s', _, rfl⟩ := Option.map_eq_some_iff.mp h
      cases s' with
      | un => exact .inl rfl
      | fz d => exact .inr ⟨d, rfl⟩
      | ow ds => exact .inr ⟨.lst ds, rfl⟩
      | nw _ _ _ => exact .inl rfl
      | ex _ => exact .inl rfl
    refine ⟨by rw [List.length_map]; exact J.env.len, fun i d e => ?_, fun i d e => ?_, fun i j d es p e => ?_, fun i c ns xs e => ?_, fun i c e => ?_, J.env.tk⟩
    · rw [List.getElem?_map] at e
      obtain ⟨s', e1, e2⟩ := Option.map_eq_some_iff.mp e
      cases s' with
      | un => cases e2
      | nw _ _ _ => cases e2
      | ex _ => cases e2
      | fz d' =>
        cases e2
        obtain ⟨v, a, b⟩ := J.env.fz i d e1
        exact ⟨v, a, Rep.mono (fun _ _ h => h) sm _ _ b⟩
      | ow ds =>
        cases e2
        obtain ⟨p, vs, a, b, c, d, r⟩ := J.env.ow i ds e1
        refine ⟨.ref p, a, .lst (hid_some.mpr ⟨?_, d⟩) (Reps.mono (fun _ _ h => h) sm _ _ r)⟩
        show (if W.M p = some 0 ∧ lstAt H p = true then none else W.M p) = none
        rw [if_pos ⟨b, at_lst d⟩]
    · rcases no i _ e with z | ⟨_, z⟩ <;> cases z
    · rcases no i _ e with z | ⟨_, z⟩ <;> cases z
    · rcases no i _ e with z | ⟨_, z⟩ <;> cases z
    · rcases no i _ e with z | ⟨_, z⟩ <;> cases z
  · unfold fPeekT at q
    show Post _ _ _ _ _ (t (ρ.map frzS) W.S) Q
    have back : ∀ (H' : Hp) (W' : Wd), Gr (unmaskAll W H) H W' H' → WOk W' H' → ∃ W3 : Wd, W3.S = W'.S ∧ W3.μ = W'.μ ∧ Gr W H W3 H' ∧ WOk W3 H' := fun H' W' g ok => by
      have m0 : ∀ p, W.M p = some 0 ∧ lstAt H p = true → W'.M p = none := fun p hp => by
        rw [g.ms p (J.ok.dom p (by simp [hp.1]))]
        show (if W.M p = some 0 ∧ lstAt H p = true then none else W.M p) = none
        rw [if_pos hp]
      refine ⟨{ W' with M := fun p => if W.M p = some 0 ∧ lstAt H p = true then some 0 else W'.M p }, rfl, rfl, ⟨fun p hp => ?_, fun p o hp hl => g.ex p o hp fun l => ?_, g.ds, g.mu, g.tt⟩, ⟨fun p hp => ?_, fun l x hx => ?_, ok.bd, fun P q hT => (ok.tab P q hT).world (fun a h1 => ⟨(if_neg fun z => by rw [m0 a z] at h1; cases h1).trans h1, rfl⟩) (fun a q h1 h2 => ⟨fun l => by
        show (if W.M a = some 0 ∧ lstAt H a = true then some 0 else W'.M a) ≠ some (l + 1)
        split
        · simp
        · exact h1 l, rfl⟩)⟩⟩
      · show (if W.M p = some 0 ∧ lstAt H p = true then some 0 else W'.M p) = W.M p
        split
        · rename_i z; exact z.1.symm
        · rename_i z
          rw [g.ms p hp]
          show (if W.M p = some 0 ∧ lstAt H p = true then none else W.M p) = W.M p
          rw [if_neg z]
      · show (if W.M p = some 0 ∧ lstAt H p = true then none else W.M p) ≠ some (l + 1)
        split
        · simp
        · exact hl l
      · have hp : (if W.M p = some 0 ∧ lstAt H p = true then some 0 else W'.M p) ≠ none := hp
        split at hp
        · rename_i z
          exact g.ds p (J.ok.dom p (by simp [z.1]))
        · exact ok.dom p hp
      · obtain ⟨a, h1, h2⟩ := ok.obj l x hx
        refine ⟨a, h1, h2.world (W' := { W' with M := fun p => if W.M p = some 0 ∧ lstAt H p = true then some 0 else W'.M p }) (fun _ _ q => q) (fun p o hp hn => ?_) (by rfl) fun q hq => ⟨?_, rfl⟩⟩
        · obtain ⟨p1, p2⟩ := hid_some.mp hp
          refine hid_some.mpr ⟨?_, p2⟩
          show (if W.M p = some 0 ∧ lstAt H p = true then some 0 else W'.M p) = none
          rw [if_neg]
          · exact p1
          · intro z
            obtain ⟨vs, e⟩ := lst_at z.2
            have := g.ex p _ e fun l => by
              show (if W.M p = some 0 ∧ lstAt H p = true then none else W.M p) ≠ some (l + 1)
              rw [if_pos z]; simp
            rw [p2] at this
            cases this
            exact hn vs rfl
        show (if W.M q = some 0 ∧ lstAt H q = true then some 0 else W'.M q) = some (l + 2)
        rw [if_neg fun z => by rw [m0 q z] at hq; cases hq]
        exact hq
    revert q
    cases t (ρ.map frzS) W.S with
    | no => exact fun q => q
    | er x S =>
      intro q cls dd H' W' e g ok r
      obtain ⟨W3, e3, eμ, g3, ok3⟩ := back H' W' g ok
      have q : Post F relE W H σ (if x.fld.isNone = true then .er x S else .no) Q := q
      split at q
      · rename_i hx
        obtain ⟨C, h1, h2, h3⟩ := r
        refine q cls dd H' W3 (e3.trans e) g3 ok3 ⟨C, h1, h2, ?_⟩
        cases hf : x.fld with
        | none => rw [hf] at h3; exact h3
        | some fs => rw [hf] at hx; cases hx
      · exact q.elim
    | ok d S =>
      intro q v H' W' e g ok r
      obtain ⟨W3, e3, eμ, g3, ok3⟩ := back H' W' g ok
      exact q v H' W3 (e3.trans e) g3 ok3 r
end
end Bx

namespace Bx
open PySem PyProof.Rows L2

/-! ### try .. except -/
/-- what the written part says of an exception class x and the class c of a clause -/
def SubAt (K : PySem.W.Frag) (mg : Str → Option Value) (x c : Str) (b : Bool) : Prop := ∃ A B, mg x = some (.ref A) ∧ mg c = some (.ref B) ∧ PySem.W.exmOne K (.ref A) (.ref B) = some b
def Fm.wi (F : Fm) (W : WX) : Fm := { F with wish := W }
theorem IF.wi {F : Fm} {W : Wd} {H : Hp} {σ : L2.St} {ρ : Rho} (I : IF F W H σ ρ) (V : WX) : IF (F.wi V) W H σ ρ := ⟨I.ok, I.gr, ⟨I.env.len, I.env.fz, I.env.ow, I.env.dj, I.env.nw, I.env.ex, I.env.tk⟩⟩
theorem IF.iw {F : Fm} {W : Wd} {H : Hp} {σ : L2.St} {ρ : Rho} {V : WX} (I : IF (F.wi V) W H σ ρ) : IF F W H σ ρ := ⟨I.ok, I.gr, ⟨I.env.len, I.env.fz, I.env.ow, I.env.dj, I.env.nw, I.env.ex, I.env.tk⟩⟩
def pickH : List (List (Str × Bool) × Stm) → Exc → Rho → Store → SR
  | [], x, ρ, S => .mk (.xr x ρ) S
  | (tab, g) :: r, x, ρ, S => match tab.lookup x.cls with
    | some true => g ρ S
    | some false => pickH r x ρ S
    | none => .no
def sTry (body : Stm) (hs : List (List (Str × Bool) × Stm)) : Stm := fun ρ S => match body ρ S with
  | .mk (.xr x ρ1) S1 => pickH hs x ρ1 S1
  | r => r
/-- the clauses, their semantics, their readings -/
inductive HdsD (X : Cx) (F : Fm) : List ExceptHandler → List (List (Str × Bool) × Stm) → List (Value × (Addr → Value → Option Addr → TS)) → Prop
  | nil : HdsD X F [] [] []
  | cons {c : Str} {B : Addr} {tab : List (Str × Bool)} {g : Stm} {b₀ : Stmt} {suite : List Stmt} {np pos' : Pos} {hds : List ExceptHandler} {hs : List (List (Str × Bool) × Stm)} {l : List (Value × (Addr → Value → Option Addr → TS))}
      (hc : Gl X c) (hd : (c == ("__debug__" : Str)) = false) (hm : X.mg c = some (.ref B)) (ht : ∀ y b, tab.lookup y = some b → SubAt X.K X.mg y c b)
      (hsu : ∀ (a : Addr) (oe : Obj) (cls : Value) (d : Option Addr) (pn : List (Addr × Obj)), L2N.Zn cls d oe → (∃ vs, oe.data = .fields vs) → PSs (X.suite a ((a, oe) :: pn)) (b₀ :: suite) (denS F g)) (r : HdsD X F hds hs l) :
      HdsD X F (.ExceptHandler (some (.Name c np)) none (b₀ :: suite) pos' :: hds) ((tab, g) :: hs) ((.ref B, fun _ _ _ => denS F g) :: l)
section
variable {X : Cx} {F : Fm} {hds : List ExceptHandler} {hs : List (List (Str × Bool) × Stm)} {l : List (Value × (Addr → Value → Option Addr → TS))}
theorem HdsD.ok (h : HdsD X F hds hs l) : L2N.HdsOk X hds l := by
  induction h with
  | nil => exact .nil
  | cons hc hd hm ht hsu r ih => exact .cons ⟨hc, hd, .inl hm⟩ hsu ih
theorem HdsD.wish (hmg : F.mg = X.mg) {En : Ends} {x : Exc} {ρ : Rho} {S : Store} {W W' : Wd} {H H' : Hp} {cls : Value} {dd : Option Addr} {σ' : L2.St} (h : HdsD X F hds hs l) (e : W'.S = S) (I : IF F W' H' σ' ρ) (g : GrS W H W' H') (r : ERep F W' H' x cls dd)
    (q : PostS F En W H (pickH hs x ρ S)) : wMany X.K F.wish En l cls dd σ' H' := by
  induction h with
  | nil => exact q cls dd σ' H' W' e I g r
  | @cons c B tab gg b₀ suite np pos' hds hs l hc hd hm ht hsu r' ih =>
    have q : PostS F En W H (match tab.lookup x.cls with | some true => gg ρ S | some false => pickH hs x ρ S | none => .no) := q
    cases hl : tab.lookup x.cls with
    | none => rw [hl] at q; exact q.elim
    | some b =>
      rw [hl] at q
      obtain ⟨A, B', e1, e2, e3⟩ := ht _ _ hl
      rw [hm] at e2
      cases e2
      obtain ⟨C, h1, h2, h3⟩ := r
      rw [hmg, e1] at h1
      cases h1
      subst h2
      refine ⟨b, e3, fun hb a ha => ?_, fun hb => ?_⟩
      · subst hb
        exact ⟨ρ, W', I, by rw [e]; exact PostS.weaken g q⟩
      · subst hb
        exact ih q
end
section
variable {X : Cx} {F : Fm} {body : List Stmt} {h₀ : ExceptHandler} {hds : List ExceptHandler} {hs : List (List (Str × Bool) × Stm)} {l : List (Value × (Addr → Value → Option Addr → TS))} {pos : Pos} {g : Stm}
theorem ds_try (hst : X.stack = X.env :: X.outer) (hf : X.env.frame = some X.env.locals) (tk : L2N.Takes X F.wish)
    (hb : ∀ (W : WX) (pn : List (Addr × Obj)) (xe : Value → Shared → Prop), L2N.Takes (X.tr pn xe) W → PassesOwn (model X.prog X.w) X.A X.env xe → PSs (X.tr pn xe) body (denS (F.wi W) g))
    (hh : HdsD X F (h₀ :: hds) hs l) (hmg : F.mg = X.mg := by rfl) : PS X (.Try body (h₀ :: hds) [] [] pos) (denS F (sTry g hs)) :=
  (L2N.ps_try_many hst hf tk hb hh.ok).imp fun En σ H ⟨ρ, W, I, q⟩ => by
    refine ⟨ρ, W, I.wi _, ?_⟩
    unfold sTry at q
    revert q
    match g ρ W.S with
    | .mk (.nx ρ1) S => exact fun q σ' H' W' e I' g' => q σ' H' W' e I'.iw g'
    | .mk (.bk ρ1) S => exact fun q σ' H' W' e I' g' => q σ' H' W' e I'.iw g'
    | .mk (.ct ρ1) S => exact fun q σ' H' W' e I' g' => q σ' H' W' e I'.iw g'
    | .mk (.rt d) S => exact fun q => q
    | .mk (.xr x ρ1) S => exact fun q cls dd σ' H' W' e I' g' r => hh.wish hmg e I'.iw g' r q
    | .no => exact fun q => q
end
theorem tab_nil {K : PySem.W.Frag} {mg : Str → Option Value} {c : Str} : ∀ (y : Str) (b : Bool), ([] : List (Str × Bool)).lookup y = some b → SubAt K mg y c b := fun y b h => by cases h
theorem tab_cons {K : PySem.W.Frag} {mg : Str → Option Value} {c x : Str} {b : Bool} {tab : List (Str × Bool)} (h : SubAt K mg x c b) (r : ∀ (y : Str) (b : Bool), tab.lookup y = some b → SubAt K mg y c b) : ∀ (y : Str) (b' : Bool), ((x, b) :: tab).lookup y = some b' → SubAt K mg y c b' := fun y b' e => by
  rw [List.lookup_cons] at e
  split at e
  · rename_i hy
    cases e
    have : y = x := by simpa using hy
    rw [this]
    exact h
  · exact r y b' e
theorem sub_mk {K : PySem.W.Frag} {h : Heap} {mg : Str → Option Value} {x c : Str} {A B : Addr} {v : Bool} (X : K.In h) (G : h.Ns mainGlobals mg) (a : PySem.W.nsIn K mainGlobals x = some (some (.ref A))) (b : PySem.W.nsIn K mainGlobals c = some (some (.ref B)))
    (h1 : PySem.W.subIn K (.ref B) (.type "BaseException") = some true) (hd : PySem.W.hasDictIn K B = true) (ht : PySem.W.typeIn K (.ref B) = some (.type "type")) (h4 : PySem.W.subIn K (.ref A) (.ref B) = some v) : SubAt K mg x c v :=
  ⟨A, B, PySem.W.mg_of X G a, PySem.W.mg_of X G b, PySem.W.exm_ref h1 hd ht h4⟩
theorem at_mk {K : PySem.W.Frag} {h : Heap} {mg : Str → Option Value} {x : Str} {A : Addr} (X : K.In h) (G : h.Ns mainGlobals mg) (a : PySem.W.nsIn K mainGlobals x = some (some (.ref A))) : ∃ A, mg x = some (.ref A) := ⟨A, PySem.W.mg_of X G a⟩
end Bx

namespace Bx
open PySem PySem.Spec PySem.Calls PyProof.Rows L2 LamX NdefX
/-! sorted(xs, key=lambda x: (y[x], x)), y captured -/
abbrev lamBody (x y : Str) (p1 p2 p3 p4 p5 : Pos) (c1 : Nat) : Expr := .Tuple [.Subscript (.Name y p1) (.Name x p2) p3, .Name x p4] c1 p5
theorem lam_turn {prog : Program} {w : World} {A : Around} {s : Shared} {f c' c t : Addr} {q x y : Str} {params : Arguments} {p1 p2 p3 p4 p5 : Pos} {c1 : Nat} {scope : Scope} {cl : List (Str × Addr)} {pm ctv : Value} {i k : Int} {tk tk2 : Tok} {its : Array Value}
    (ho : s.heap.get? f = some (PySem.W.kla_obj "<lambda>" q params (lamBody x y p1 p2 p3 p4 p5 c1) scope cl pm c' ctv)) (hcd : s.heap.CodeRec (.ref c') q) (lim : s.heap.NoLimit) (hroom : A.depth < recursionLimit)
    (hb : bindArgs (PySem.W.kla_fn "<lambda>" q params (lamBody x y p1 p2 p3 p4 p5 c1) scope cl pm (.ref c') ctv) ⟨[.int i tk], []⟩ = pure [(x, .int i tk)])
    (hk : scope.kind = .function) (hco : scope.isCoroutine = false) (hgen : scope.isGenerator = false) (nc : ∀ z ∈ scope.names, z.2 ≠ .cell) (hx : scope.names.lookup x = some .local) (hy : scope.names.lookup y = some .free)
    (hc : cl.lookup y = some c) (hcell : s.heap.IsCell c (some (.ref t))) (ht : PyProof.Rows.IsTup s.heap t its) (h0 : 0 ≤ i) (h1 : i < 2 ^ 63) (h2 : its[i.toNat]? = some (.int k tk2))
    (d1 : (x == ("__debug__" : Str)) = false) (d2 : (y == ("__debug__" : Str)) = false) (d3 : (y == ("__classdict__" : Str)) = false) :
    wpAny (model prog w) A (call (.ref f) [.int i tk]) (PySem.W.KeyPure (.tuple [.int k, .int i]) s) (fun _ _ => False) s := by
  refine wpAny_call (PySem.W.kla_callFunE hroom ho rfl hco hgen rfl hcd ?_)
  rw [hb]
  refine wpAny_pure (wpAny_newFunctionEnv nc (fun z hz => ?_) (fun h₁ hns hsb => ⟨lim.fresh _ hsb, ?_⟩) hk)
  · simp at hz
    subst hz
    exact hx
  have kp : ∀ b o, s.heap.get? b = some o → h₁.get? b = some o := fun b o e => hsb.extBut b o (Nat.ne_of_lt (Heap.lt_size e)) (Heap.get?_push_of_some _ e)
  show codeAny _ _ (.expr _ (PySem.W.envX q scope s.heap.objs.size f (.ref c') cl)) _ _
  have lx : ∀ {E : Value → Shared → Prop} {Q : Value → Shared → Prop} (p : Pos) {s' : Shared}, s'.heap = h₁ → Q (.int i tk) s' → wpAny (model prog w) (A.deeper (PySem.W.envX q scope s.heap.objs.size f (.ref c') cl)) (eval (.Name x p) (PySem.W.envX q scope s.heap.objs.size f (.ref c') cl)) Q E s' := fun {E Q} p {s'} e hQ =>
    wpAny_Name (wpAny_loadName_local hk hx (m := fun z => [(x, Value.int i tk)].reverse.lookup z) (by rw [e]; exact hns) (by simp [List.lookup]) hQ) d1
  refine PySem.W.kla_codeExpr (wpAny_Tuple_spliced (spliced_cons (Subscript_ ?_)))
  refine wpAny_Name (wpAny_loadName_free hk hy hc (v := .ref t) ?_ ?_ d3) d2
  · obtain ⟨o, e1, e2⟩ := hcell
    exact ⟨o, kp _ _ e1, e2⟩
  refine lx p2 rfl ?_
  have ht1 : PyProof.Rows.IsTup h₁ t its := by
    obtain ⟨o, e1, e2⟩ := ht
    exact ⟨o, kp _ _ e1, e2⟩
  have hsz : i.toNat < its.size := (Array.getElem?_eq_some_iff.mp h2).1
  have hix : seqIndex? i its.size = some i.toNat := seqIndex_of h0 (by omega)
  have key : ∀ (Q : Value → Shared → Prop) (E : Value → Shared → Prop) (s' : Shared), s'.heap = h₁ → Q (.int k tk2) s' → wpAny (model prog w) (A.deeper (PySem.W.envX q scope s.heap.objs.size f (.ref c') cl)) (subscriptTail (.Name y p1) (.Name x p2) (.ref t) (.int i tk)) Q E s' := fun Q E s' e hQ => by
    have ht2 : PyProof.Rows.IsTup s'.heap t its := by rw [e]; exact ht1
    exact PyProof.Rows.subscriptTail_builtinR (x := .int k tk2) (s := s') ht2.typeIs PyProof.Rows.slot_tuple_getitem.lookup
      (PyProof.Rows.getItem_tuple (s := s') (j := i.toNat) (x := .int k tk2) (Q := fun r s'' => r = .int k tk2 ∧ Q r s'') ht2 (by omega) h1 hix h2 ⟨rfl, hQ⟩) (by with_unfolding_all rfl)
  refine key _ _ _ rfl ?_
  refine spliced_cons (lx p4 rfl (spliced_nil ⟨by show 2 ≤ _; decide, ?_⟩))
  refine ⟨_, _, rfl, fun b o e => Heap.get?_push_of_some _ (kp b o e), ?_⟩
  exact .tuple (Heap.get?_push_size _ rfl) rfl rfl (.cons (.int k tk2) (.cons (.int i tk) .nil))
/-- whole numbers by k, then by themselves -/
abbrev leB (k : Int → Int) (p q : Int) : Bool := decide (k p < k q ∨ (k p = k q ∧ p ≤ q))
def insB (k : Int → Int) (x : Int) : List Int → List Int
  | [] => [x]
  | y :: ys => if leB k x y then x :: y :: ys else y :: insB k x ys
def sortBy (k : Int → Int) : List Int → List Int
  | [] => []
  | x :: xs => insB k x (sortBy k xs)
theorem insB_perm (k : Int → Int) (x : Int) : ∀ l, (insB k x l).Perm (x :: l)
  | [] => .refl _
  | y :: ys => by
    unfold insB
    split
    · exact .refl _
    · exact ((insB_perm k x ys).cons y).trans (.swap x y ys)
theorem sortBy_perm (k : Int → Int) : ∀ l, (sortBy k l).Perm l
  | [] => .refl _
  | x :: xs => (insB_perm k x _).trans ((sortBy_perm k xs).cons x)
theorem insB_sorted (k : Int → Int) (x : Int) : ∀ l : List Int, l.Pairwise (fun p q => leB k p q = true) → (insB k x l).Pairwise (fun p q => leB k p q = true)
  | [], _ => by simp [insB]
  | y :: ys, h => by
    unfold insB
    rw [List.pairwise_cons] at h
    split
    · rename_i hxy
      rw [List.pairwise_cons]
      refine ⟨fun z hz => ?_, List.pairwise_cons.mpr h⟩
      rcases List.mem_cons.mp hz with rfl | hz
      · exact hxy
      · have := h.1 z hz
        simp only [leB, decide_eq_true_eq] at *
        omega
    · rename_i hxy
      rw [List.pairwise_cons]
      refine ⟨fun z hz => ?_, insB_sorted k x ys h.2⟩
      rcases List.mem_cons.mp ((insB_perm k x ys).mem_iff.mp hz) with rfl | hz
      · simp only [leB, decide_eq_true_eq] at *
        omega
      · exact h.1 z hz
theorem sortBy_sorted (k : Int → Int) : ∀ l : List Int, (sortBy k l).Pairwise (fun p q => leB k p q = true)
  | [] => .nil
  | x :: xs => insB_sorted k x _ (sortBy_sorted k xs)
theorem sortBy_merge (k : Int → Int) (l : List Int) : l.mergeSort (leB k) = sortBy k l := by
  refine ((List.mergeSort_perm l (leB k)).trans (sortBy_perm k l).symm).eq_of_pairwise (le := fun p q => leB k p q = true) (fun x y _ _ h1 h2 => ?_) (List.pairwise_mergeSort (fun a b c h1 h2 => ?_) (fun a b => ?_) l) (sortBy_sorted k l)
  · simp only [leB, decide_eq_true_eq] at *
    omega
  · simp only [leB, decide_eq_true_eq] at *
    omega
  · simp only [leB, Bool.or_eq_true, decide_eq_true_eq]
    omega
theorem sortBy_len (k : Int → Int) (l : List Int) : (sortBy k l).length = l.length := (sortBy_perm k l).length_eq
/-- the table at P in H: what it tells is named q -/
def TabH (H : Hp) (P : Addr) (ps : Array Value) (q : Str) : Prop := H P = some (.tbl ps) ∧ TriplesOk ps.toList ∧ ∀ (pos : Pos) (cv : Value), codeAmong pos ps.toList = some cv → ∃ c, cv = .ref c ∧ H c = some (CodeO c q)
/-- the heap when the table at P tells one code object more -/
abbrev tabUp (H : Hp) (P : Addr) (ps : Array Value) (pos : Pos) (c : Addr) (q : Str) : Hp := upd (upd H P (.tbl (ps ++ #[rawInt pos.line, rawInt pos.col, .ref c]))) c (CodeO c q)
section
variable {X : Cx} {pins : List (Addr × Obj)} {σ : L2.St} {H : Hp} {s : Shared}
/-- a lambda is made; the heap told exactly -/
theorem lam_new {c P : Addr} {ps : Array Value} {params : Arguments} {body : Expr} {scope : Scope} {pos : Pos} {E Q : Value → Shared → Prop} (I : Inv X pins σ H s) (TB : TabB X.base X.mg c P) (hcode : X.env.code = .ref c) (hT : TabH H P ps (X.env.qual ++ "<lambda>"))
    (hdef : defaultsOf params X.env = ([], [])) (hfree : ∀ z ∈ scope.names, z.2 = .free → ∃ c, X.env.cells.lookup z.1 = some c)
    (h : ∀ (H1 : Hp) (f c' : Addr) (pm ctv : Value) (s' : Shared), (H1 = H ∨ H c' = none ∧ H1 = tabUp H P ps pos c' (X.env.qual ++ "<lambda>")) → Inv X pins σ H1 s' → H1 c' = some (CodeO c' (X.env.qual ++ "<lambda>")) →
      s'.heap.get? f = some (PySem.W.kla_obj "<lambda>" (X.env.qual ++ "<lambda>") params body scope (cloFrom X.env.cells scope.names []) pm c' ctv) → (∀ b o, b ≠ P → s.heap.get? b = some o → s'.heap.get? b = some o) → Q (.ref f) s') :
    wpAny (model X.prog X.w) X.A (eval (.Lambda params body scope pos) X.env) Q E s := by
  obtain ⟨hP, ht, ha⟩ := hT
  have hP' : s.heap.get? P = some { cls := .none, data := .fields ps } := I.hok P _ hP
  have gb := I.mod.glob.keeps I.bk
  have bP : s.heap.BuiltinsAt X.mg P := TB.bm.keeps I.bk
  refine PySem.W.kla_eval hdef ?_
  cases hc : codeAmong pos ps.toList with
  | some cv =>
    obtain ⟨c', rfl, hco⟩ := ha pos cv hc
    exact PySem.W.kla_makeFunctionHit (mg := X.mg) (c := c) (P := P) (ps := ps) (closure_ok hfree) I.ok.glob gb hcode (TB.code.keeps I.bk) hP' ht hc bP fun ctv h' tk hx _ =>
      h H _ c' _ ctv _ (.inl rfl) (I.kept fun b o e => Heap.get?_push_of_some _ (hx b o e)) hco (Heap.get?_push_size _ rfl) fun b o _ e => Heap.get?_push_of_some _ (hx b o e)
  | none =>
    refine PySem.W.kla_makeFunction (mg := X.mg) (c := c) (P := P) (ps := ps) (closure_ok hfree) I.ok.glob gb hcode (TB.code.keeps I.bk) hP' ht hc TB.gP bP fun c' ctv h' tk hx hge _ hrec htb => ?_
    obtain ⟨_, oc, vs, t, ec, hoc, hd, hv⟩ := hrec
    cases ec
    exact h _ _ c' ((X.mg "__name__").getD .none) ctv _ (.inr ⟨I.hok.fresh hge, rfl⟩) (inv_table I hP (fun b o hb e => Heap.get?_push_of_some _ (hx b o hb e)) (Heap.get?_push_of_some _ htb) hge ⟨oc, vs, t, Heap.get?_push_of_some _ hoc, hd, hv⟩) upd_same (Heap.get?_push_size _ rfl) fun b o hb e => Heap.get?_push_of_some _ (hx b o hb e)
end
def tSortLam (K : PySem.W.Frag) (P : Addr) (q : Str) (lpos : Pos) (j : Nat) (ta : TA) : TE := fun σ H Q => ta σ H fun vs H1 => ∃ (p t : Addr) (ps : Array Value) (ns : List Int) (ys : List V) (k : Int → Int), vs = [.ref p] ∧ SqL K H1 p (ns.map V.int) ∧ σ[j]? = some (some (.ref t)) ∧ SqT K H1 t ys ∧
  (∀ i ∈ ns, 0 ≤ i ∧ i < 2 ^ 63 ∧ ys[i.toNat]? = some (.int (k i))) ∧ TabH H1 P ps q ∧ ∀ H2, (H2 = H1 ∨ ∃ c', H1 c' = none ∧ H2 = tabUp H1 P ps lpos c' q) → ∀ p', H2 p' = none → Q (.ref p') (upd H2 p' (.lst ((sortBy k ns).map V.int)))
theorem pe_sortLam {X : Cx} {c P : Addr} {x y : Str} {ar : Arguments} {p1 p2 p3 p4 p5 lpos kpos p pos : Pos} {c1 j : Nat} {scope : Scope} {e : Expr} {ta : TA} {kk : Nat} (hg : Gl X "sorted") (hm : X.mg "sorted" = none) (ha : PA X [e] ta)
    (TB : TabB X.base X.mg c P) (hcode : X.env.code = .ref c) (hr : Room (kk + 1) X.A) (hN : X.N[j]? = some y) (hv : X.env.scope.names.lookup y = some .cell)
    (hk : scope.kind = .function) (hco : scope.isCoroutine = false) (hgen : scope.isGenerator = false) (hnm : scope.names = [(x, .local), (y, .free)] ∨ scope.names = [(y, .free), (x, .local)]) (hne : (x == y) = false) (hdef : defaultsOf ar X.env = ([], []))
    (hbind : ∀ (q : Str) (cl : List (Str × Addr)) (pm cv ctv v : Value), bindArgs (PySem.W.kla_fn "<lambda>" q ar (lamBody x y p1 p2 p3 p4 p5 c1) scope cl pm cv ctv) ⟨[v], []⟩ = pure [(x, v)])
    (d1 : (x == ("__debug__" : Str)) = false := by decide) (d2 : (y == ("__debug__" : Str)) = false := by decide) (d3 : (y == ("__classdict__" : Str)) = false := by decide)
    (he : backTo pos (starEach [e] X.env) = (false, eval e X.env) :: backTo pos (starEach [] X.env) := by rfl) (hpl : (backTo pos (starEach [e] X.env)).any (·.1) = false := by rfl) :
    PE X (.Call (.Name "sorted" p) [e] [⟨some "key", .Lambda ar (lamBody x y p1 p2 p3 p4 p5 c1) scope lpos, kpos⟩] pos) (tSortLam X.K P (X.env.qual ++ "<lambda>") lpos j ta) := by
  refine ⟨fun pins s σ H Q I h => ?_⟩
  have hye : (y == x) = false := by
    cases q : y == x with
    | false => rfl
    | true =>
      rw [beq_iff_eq.mp q] at hne
      simp at hne
  have hyf : scope.names.lookup y = some .free := by
    rcases hnm with z | z <;> rw [z] <;> simp [List.lookup, hye]
  have hxl : scope.names.lookup x = some .local := by
    rcases hnm with z | z <;> rw [z] <;> simp [List.lookup, hne]
  have ncell : ∀ z ∈ scope.names, z.2 ≠ .cell := by
    rcases hnm with z | z <;> rw [z] <;> simp
  obtain ⟨cy, hcy⟩ : ∃ c, X.env.cells.lookup y = some c := I.ok.has _ (.inl hv)
  have hfree : ∀ z ∈ scope.names, z.2 = .free → ∃ c, X.env.cells.lookup z.1 = some c := by
    rcases hnm with z | z <;> rw [z] <;> simpa using ⟨cy, hcy⟩
  have hcl : (cloFrom X.env.cells scope.names []).lookup y = some cy := by
    rcases hnm with z | z <;> rw [z] <;> simp [cloFrom, List.lookup, hcy]
  refine wpAny_Call_Name_kw (ld_blt I hg hm (show bootBuiltins "sorted" = some (.builtin "sorted") from by decide +kernel) ?_ (by decide) (by decide))
  refine PyProof.Rows.callWith_kw (thn (ha.run pos pins s σ H _ I h) fun us s1 ⟨vs, H1, I1, r1, q1⟩ => ?_) he hpl (by rfl) (by rfl)
  obtain ⟨pl, t, ps, ns, ys, k, rfl, hL, hσ, hTt, hns, hT, q⟩ := q1
  obtain rfl := Vals.ref1 r1
  show wpAny _ _ (evalAll [(do let v ← eval (.Lambda ar (lamBody x y p1 p2 p3 p4 p5 c1) scope lpos) X.env; standAt pos; pure v)]) _ _ s1
  refine wpAny_evalAll_cons (wpAny_bind (lam_new I1 TB hcode hT hdef hfree fun H2 f c' pm ctv s2 hH I2 hcc hf _ => wpAny_bind (wpAny_standAt (wpAny_pure (wpAny_evalAll_nil ?_)))))
  show wpAny _ _ (call (.builtin "sorted") [.ref pl] [(Str.ofString "key", .ref f)]) _ _ s2
  have hext : ∀ b o, H1 b = some o → (∀ ps, o ≠ .tbl ps) → H2 b = some o := fun b o e n => by
    rcases hH with rfl | ⟨hn, rfl⟩
    · exact e
    · show upd _ _ _ b = _
      rw [upd_ne (ne_of_none e hn), upd_ne (fun z => n ps (Option.some.inj (e.symm.trans (by rw [z]; exact hT.1))))]
      exact e
  have hL2 : SqL X.K H2 pl (ns.map V.int) := by
    rcases hL with (z | ⟨o, z⟩) | z
    · exact .inl (.inl (hext _ _ z fun _ e => by cases e))
    · exact .inl (.inr ⟨o, hext _ _ z fun _ e => by cases e⟩)
    · exact .inr z
  have hTt2 : SqT X.K H2 t ys := by
    rcases hTt with (z | ⟨o, z⟩) | z
    · exact .inl (.inl (hext _ _ z fun _ e => by cases e))
    · exact .inl (.inr ⟨o, hext _ _ z fun _ e => by cases e⟩)
    · exact .inr z
  obtain ⟨its, rv, hil, hz⟩ := I2.list hL2
  obtain ⟨its2, rv2, hit, hz2⟩ := I2.tuple hTt2
  have each : ∀ {us : List Value} {ms : List Int}, IntsAre us ms → PySem.W.EachIs (fun v i => ∃ tk, v = Value.int i tk) us ms := fun h => by
    induction h with
    | nil => exact .nil
    | cons n t _ ih => exact .cons ⟨t, rfl⟩ ih
  have back : ∀ {us : List Value} {ms : List Int}, PySem.W.EachIs (fun v i => ∃ tk, v = Value.int i tk) us ms → Vals (ms.map V.int) us := fun h => by
    induction h with
    | nil => exact .nil
    | cons h _ ih => exact .cons h ih
  obtain ⟨m, hns2, hlk⟩ := I2.loc
  obtain ⟨u, ru, lu⟩ := hlk j y (.ref t) hN hσ (.inr (.inl hv))
  obtain rfl : u = Value.ref t := ru
  have hcell : s2.heap.IsCell cy (some (.ref t)) := by
    rcases lu with ⟨k', _⟩ | ⟨_, c3, e', z⟩
    · have k' : X.env.scope.names.lookup y = some .local := k'
      rw [hv] at k'
      cases k'
    · rw [hcy] at e'
      cases e'
      exact z
  have hrec := codeO_at I2.hok hcc
  refine PySem.W.sorted_key_data (b := false) (β := Int) (fun i => .tuple [.int (k i), .int i]) hil.isList (each rv.ints) (PySem.W.AllAlike.of fun _ _ => by simp [PySem.W.alike, PySem.W.alikeAll]) (PySem.W.Sortable.tuples fun _ => ⟨_, _, rfl⟩)
    (by rw [List.length_map] at hz; exact hz) (fun i _ => ?_) (PyProof.Rows.ksk_s1 _ _) (fun _ => PyProof.Rows.ksk_l1 _ _) (fun _ => PyProof.Rows.ksk_t1 _ _) (fun v i hvi him h tk kp => ?_) fun out cc h' tk kp fr hget hlen eo => ?_
  · have hd : (PyData.tuple [.int (k i), .int i]).depth = 1 := by simp [PyData.depth, PyData.depthAll]
    have := hr.un
    omega
  · obtain ⟨tk1, rfl⟩ := hvi
    obtain ⟨b0, b1, b2⟩ := hns i him
    obtain ⟨u2, hu2, tk2, rfl⟩ := rv2.get b2
    exact lam_turn (s := { s2 with heap := h, toks := tk }) (its := its2.toArray) (kp _ _ hf) (hrec.keeps kp) (I2.nolimit.keeps kp) hr.depth (hbind _ _ _ _ _ _) hk hco hgen ncell hxl hyf hcl
      (by obtain ⟨o, e1, e2⟩ := hcell; exact ⟨o, kp _ _ e1, e2⟩) (by obtain ⟨o, e1, e2⟩ := hit; exact ⟨o, kp _ _ e1, e2⟩) b0 b1 (by simpa using hu2) d1 d2 d3
  · rw [PySem.W.dataLe_ii (β := Int) k fun i => i] at eo
    have eo : PySem.W.EachIs (fun v i => ∃ tk, v = Value.int i tk) out (sortBy k ns) := by
      rw [← sortBy_merge]
      exact eo
    have hfr : H2 (s2.heap.objs.size + 1) = none := I2.hok.fresh (Nat.le_succ _)
    refine ⟨.ref _, _, I2.laid (t' := tk) (a := s2.heap.objs.size + 1) (o := .lst ((sortBy k ns).map V.int)) kp (Nat.le_succ _) ⟨?_, out, cc, back eo, hget⟩, rfl, q H2 ?_ _ hfr⟩
    · rw [List.length_map] at hz ⊢
      rw [sortBy_len]
      exact hz
    · rcases hH with z | ⟨z1, z2⟩
      · exact .inl z
      · exact .inr ⟨c', z1, z2⟩

/-! ### in the layer of data -/
def keyD (ys : List D) (i : Int) : Int := match ys[i.toNat]? with
  | some (.int k) => k
  | _ => 0
def keyOk (ys : List D) (i : Int) : Bool := decide (0 ≤ i) && decide (i < 2 ^ 63) && match ys[i.toNat]? with
  | some (.int _) => true
  | _ => false
/-- sorted(.., key=lambda x: (y[x], x)), y the slot j -/
def fSortLam (j : Nat) (fs : Fn (List D)) : Fn Sl := fun ρ S => (fs ρ S).bind fun ds S1 => match ds, ρ[j]? with
  | [.lst xs], some (.fz (.tup ys)) => (match ints? xs with
    | some ns => if ns.all (keyOk ys) then .ok (.ow ((sortBy (keyD ys) ns).map .int)) S1 else .no
    | none => .no)
  | _, _ => .no
theorem keyOk_is {ys : List D} {i : Int} (h : keyOk ys i = true) : 0 ≤ i ∧ i < 2 ^ 63 ∧ ys[i.toNat]? = some (.int (keyD ys i)) := by
  unfold keyOk at h
  unfold keyD
  simp only [Bool.and_eq_true, decide_eq_true_eq] at h
  obtain ⟨⟨h1, h2⟩, h3⟩ := h
  refine ⟨h1, h2, ?_⟩
  split at h3
  · rename_i k e
    rw [e]
  · cases h3
section
variable {W : Wd} {H : Hp} {P c : Addr} {ps : Array Value} {q : Str} {pos : Pos}
theorem tab_ok (ok : WOk W H) (hT : W.T.tab P = some q) : ∃ ps, TabH H P ps q := by
  obtain ⟨_, ps, h1, h2, h3⟩ := ok.tab P q hT
  refine ⟨ps, h1, h2, fun pos cv hc => ?_⟩
  obtain ⟨c, e1, _, e3⟩ := h3 pos cv hc
  exact ⟨c, e1, e3⟩
theorem tabUp_ok (ok : WOk W H) (hT : W.T.tab P = some q) (t : TabH H P ps q) (hc : H c = none) : WOk W (tabUp H P ps pos c q) ∧ Gr W H W (tabUp H P ps pos c q) := by
  obtain ⟨m1, ps', b1, b2, b3⟩ := ok.tab P q hT
  obtain ⟨t1, _, _⟩ := t
  rw [b1] at t1
  obtain rfl : ps' = ps := by cases t1; rfl
  have mc : W.M c = none := ok.clear hc
  have hPc : P ≠ c := fun e => by rw [e, hc] at b1; cases b1
  have at_ : ∀ b, b ≠ P → b ≠ c → tabUp H P ps' pos c q b = H b := fun b h1 h2 => by
    show upd _ _ _ b = _
    rw [upd_ne h2, upd_ne h1]
  have atP : tabUp H P ps' pos c q P = some (.tbl (ps' ++ #[rawInt pos.line, rawInt pos.col, .ref c])) := by
    show upd _ _ _ P = _
    rw [upd_ne hPc, upd_same]
  have atc : tabUp H P ps' pos c q c = some (CodeO c q) := upd_same
  have old : ∀ b, H b ≠ none → b ≠ c := fun b h e => h (by rw [e]; exact hc)
  refine ⟨⟨fun p h => ?_, fun l x h => ?_, ok.bd, fun P2 q2 h2 => ?_⟩, ⟨fun _ _ => rfl, fun p o e n => ?_, fun p h => ?_, fun _ _ h => h, rfl⟩⟩
  · have h0 := ok.dom p h
    by_cases e : p = P
    · rw [e, atP]; simp
    · rw [at_ p e (old p h0)]; exact h0
  · obtain ⟨a, h1, h2⟩ := ok.obj l x h
    refine ⟨a, h1, h2.world (fun _ _ q => q) (fun b o hb _ => hid_some.mpr ⟨(hid_some.mp hb).1, (at_ b (fun e => by have := (hid_some.mp hb).1; rw [e, m1] at this; cases this) (old b (by rw [(hid_some.mp hb).2]; simp))).trans (hid_some.mp hb).2⟩) (by rfl) fun p hp => ⟨hp, at_ p (fun e => ?_) (old p (ok.dom p (by simp [hp])))⟩⟩
    rw [e, m1] at hp
    simp at hp
  · by_cases e : P2 = P
    · subst e
      rw [hT] at h2
      cases h2
      have eL : (ps' ++ #[rawInt pos.line, rawInt pos.col, .ref c]).toList = ps'.toList ++ [rawInt pos.line, rawInt pos.col, .ref c] := by simp
      refine ⟨m1, _, atP, by rw [eL]; exact PySem.TriplesOk_snoc _ _ _ _ b2, fun p' cv hcv => ?_⟩
      rw [eL] at hcv
      rcases among_app _ b2 hcv with z | z
      · obtain ⟨c0, e1, e2, e3⟩ := b3 p' cv z
        refine ⟨c0, e1, e2, (at_ c0 (fun e => ?_) (old c0 (by rw [e3]; simp))).trans e3⟩
        rw [e, b1] at e3
        exact codeO_ne _ (Option.some.inj e3).symm
      · exact ⟨c, z, fun l => by rw [mc]; simp, atc⟩
    · obtain ⟨n1, ps2, d1, d2, d3⟩ := ok.tab P2 q2 h2
      refine ⟨n1, ps2, (at_ P2 e (old P2 (by rw [d1]; simp))).trans d1, d2, fun p' cv hcv => ?_⟩
      obtain ⟨c0, e1, e2, e3⟩ := d3 p' cv hcv
      refine ⟨c0, e1, e2, (at_ c0 (fun e => ?_) (old c0 (by rw [e3]; simp))).trans e3⟩
      rw [e, b1] at e3
      exact codeO_ne _ (Option.some.inj e3).symm
  · refine (at_ p (fun z => ?_) (old p (by rw [e]; simp))).trans e
    exact n 0 (by rw [z]; exact m1)
  · by_cases e : p = P
    · rw [e, atP]; simp
    · rw [at_ p e (old p h)]; exact h
end

section
variable {X : Cx} {F : Fm}
theorem dx_sortLam {c P : Addr} {x y : Str} {ar : Arguments} {p1 p2 p3 p4 p5 lpos kpos p pos : Pos} {c1 j : Nat} {scope : Scope} {e : Expr} {fs : Fn (List D)} {kk : Nat} (hg : Gl X "sorted") (hm : X.mg "sorted" = none) (ha : PA X [e] (denA F fs))
    (TB : TabB X.base X.mg c P) (hcode : X.env.code = .ref c) (hTP : F.T.tab P = some (X.env.qual ++ "<lambda>")) (hr : Room (kk + 1) X.A) (hN : X.N[j]? = some y) (hv : X.env.scope.names.lookup y = some .cell)
    (hk : scope.kind = .function) (hco : scope.isCoroutine = false) (hgen : scope.isGenerator = false) (hnm : scope.names = [(x, .local), (y, .free)] ∨ scope.names = [(y, .free), (x, .local)]) (hne : (x == y) = false) (hdef : defaultsOf ar X.env = ([], []))
    (hbind : ∀ (q : Str) (cl : List (Str × Addr)) (pm cv ctv v : Value), bindArgs (PySem.W.kla_fn "<lambda>" q ar (lamBody x y p1 p2 p3 p4 p5 c1) scope cl pm cv ctv) ⟨[v], []⟩ = pure [(x, v)])
    (d1 : (x == ("__debug__" : Str)) = false := by decide) (d2 : (y == ("__debug__" : Str)) = false := by decide) (d3 : (y == ("__classdict__" : Str)) = false := by decide)
    (he : backTo pos (starEach [e] X.env) = (false, eval e X.env) :: backTo pos (starEach [] X.env) := by rfl) (hpl : (backTo pos (starEach [e] X.env)).any (·.1) = false := by rfl) (hK : F.K = X.K := by rfl) :
    PE X (.Call (.Name "sorted" p) [e] [⟨some "key", .Lambda ar (lamBody x y p1 p2 p3 p4 p5 c1) scope lpos, kpos⟩] pos) (denX F (fSortLam j fs)) := by
  refine (pe_sortLam (lpos := lpos) hg hm ha TB hcode hr hN hv hk hco hgen hnm hne hdef hbind d1 d2 d3 he hpl).imp fun σ H Q ⟨ρ, W, I, q⟩ => ⟨ρ, W, I, ?_⟩
  unfold fSortLam at q
  refine q.bind fun ds vs H1 W1 g1 ok1 r1 q1 => ?_
  split at q1
  · rename_i xs ys hρ
    split at q1
    · rename_i ns hi
      split at q1
      · rename_i hall
        rw [ints_eq hi] at r1
        cases r1 with
        | cons ra rb =>
          cases rb
          cases ra with
          | lst a1 b1 =>
            obtain rfl := b1.ints
            obtain ⟨v, hσ, rv⟩ := I.env.fz j _ hρ
            have rv1 := rep_gr g1.s rv
            cases rv1 with
            | tup t1 t2 =>
              have hT1 : W1.T.tab _ = some _ := (congrFun (congrArg Tx.tab (g1.tt.trans I.env.tk)) P).trans hTP
              obtain ⟨ps, tb⟩ := tab_ok ok1 hT1
              rw [← hK]
              refine ⟨_, _, ps, ns, _, keyD ys, rfl, SqL.of (hid_le _ _ a1), hσ, SqT.of (hid_le _ _ t1), fun i hin => ?_, tb, fun H2 h2 p' hp' => ?_⟩
              · obtain ⟨k1, k2, k3⟩ := keyOk_is (List.all_eq_true.mp hall i hin)
                obtain ⟨v, e1, e2⟩ := t2.get k3
                cases e2
                exact ⟨k1, k2, e1⟩
              · rcases h2 with rfl | ⟨c', hc', rfl⟩
                · exact Post.newX g1 ok1 hp' q1 (Reps.ofInts _)
                · obtain ⟨ok2, g2⟩ := tabUp_ok (pos := lpos) ok1 hT1 tb hc'
                  exact Post.newX (g1.trans g2) ok2 hp' (q1.weaken g2) (Reps.ofInts _)
      · exact q1.elim
    · exact q1.elim
  · exact q1.elim
end
/-! ### a def that holds a lambda -/
/-- a def of the module whose code object, at c, keeps its table at P -/
def LamAt (K : PySem.W.Frag) (mg : Str → Option Value) (base : Heap) (T : Tx) (x : Str) (st : Stmt) (ps : List Str) (c P : Addr) : Prop :=
  ∃ (fa : Addr) (oc : Value) (od : Option Addr) (kV doc pm : Value) (an : Option Addr) (ct : Value) (osl : Array (Option Value)), mg x = some (.ref fa) ∧
    K.lookup fa = some ⟨oc, od, .func (PySem.W.fnOf x x (defArgs st) (defBody st) (defScope st) .none kV doc pm an (.ref c) ct), osl⟩ ∧ PySem.W.codeIn K (.ref c) x = true ∧ PySem.W.keepIn K (.ref fa) = true ∧
    Binds K (PySem.W.fnOf x x (defArgs st) (defBody st) (defScope st) .none kV doc pm an (.ref c) ct) ps [] ∧ TabB base mg c P ∧ T.tab P = some ((x ++ ".<locals>.") ++ "<lambda>")
theorem LamAt.cal {P : Program} {w : World} {K : PySem.W.Frag} {mg : Str → Option Value} {base : Heap} {T : Tx} {x : Str} {st : Stmt} {N ps : List Str} {k np : Nat} {g : Stm} {c PT : Addr} (d : LamAt K mg base T x st ps c PT) (S : FnScope N ps (defScope st)) (hn : ps.length = np)
    (hbody : ∀ (f : Addr) (A : Around) (outer : List Env) (s : Shared) (H : Hp) (E : XK) (W : Wd), TabB base mg c PT → T.tab PT = some ((x ++ ".<locals>.") ++ "<lambda>") → Room k (A.deeper (PyProof.Rows.envOfC x (defScope st) s.heap.objs.size f (.ref c))) →
      PSs (cxOf (L2N.CX P w) P w K mg base N x (defScope st) f (.ref c) A outer s H E) (defBody st) (denS (fmOf K mg T W H E) g)) : Callee P w K mg base T (k + 1) x np (fnSem N.length g) := by
  obtain ⟨fa, oc, od, kV, doc, pm, an, ct, osl, h1, lk, hcd, hk, hb, TB, hTP⟩ := d
  subst hn
  refine ⟨fa, _, ps, h1, fn_of (N := N) (k := k) lk hcd S (fun vs H Q E h => ?_) fun A outer s H vs Q E hr h => ?_, hk, hb⟩
  · obtain ⟨ds, W, h1, _⟩ := h
    exact h1
  · obtain ⟨ds, W, h1, ⟨ok, hT⟩, hr2, q⟩ := h
    refine ⟨_, hbody fa A outer s H E W TB hTP hr, startR N.length ds, W, ⟨ok, Gr.refl _ _, startR_env hT hr2⟩, ?_⟩
    unfold fnSem at q
    revert q
    match g (startR N.length ds) W.S with
    | .mk (.nx ρ) S => exact fun q σ' H' W' e I g => q .non H' W' e I.gr I.ok .non
    | .mk (.rt d) S => exact fun q v H' W' e ok g r => q v H' W' e g ok r
    | .mk (.xr x ρ) S => exact fun q cls dd σ' H' W' e I g r => q cls dd H' W' e I.gr I.ok r
    | .mk (.bk ρ) S => exact fun q => q.elim
    | .mk (.ct ρ) S => exact fun q => q.elim
    | .no => exact fun q => q.elim

/-! ### x[j] op= e -/
section
variable {X : Cx} {F : Fm}
theorem get_list : PGet X fun o i H Q => rIxL X.K o i H Q := by
  intro pins s σ H o i ov iv Q I ro ri h
  obtain ⟨p, xs, n, z, rfl, rfl, hq, he, q⟩ := h
  cases ro
  obtain ⟨t, rfl⟩ := ri
  obtain ⟨its, r, pl, hz⟩ := I.list hq
  obtain ⟨j, h1, h2, h3, h4, h5⟩ := atI_get he
  obtain ⟨w, ew, rw'⟩ := r.get h2
  have hl := r.length
  have hn := line63
  have fin : EP X pins σ Q w s := ⟨z, H, I, rw', q⟩
  by_cases h0 : 0 ≤ n
  · have hj : n.toNat = j := by
      rw [seqIndex_of h0 h5] at h1
      exact Option.some.inj h1
    exact wpAny_getItem_list pl.isList h0 (by omega) (by rw [hj]; simpa using ew) fin
  · have hj : (n + (its.toArray.size : Int)).toNat = j := by
      rw [seqIndex_neg (by omega) h4] at h1
      rw [List.size_toArray, ← hl]
      exact Option.some.inj h1
    exact wpAny_getItem_list_neg pl.isList (by omega) (by rw [List.size_toArray] <;> omega) (by omega) (by rw [hj]; simpa using ew) fin
theorem ds_augix {i : Nat} {o j e : Expr} {op : Operator} {g : Int → Int → Int} {fj f : Fn D} {sp pos : Pos} (hx : PE X o (tVar i)) (hj : PE X j (denE F fj)) (he : PE X e (denE F f)) (ho : PIp X op (ipI g))
    (ha : ∀ ov iv new, augStore j ov iv new = (do holding [new, ov, iv] (setItem ov iv new); release [new, ov, iv] []; pure .next) := by intros; rfl) (hK : F.K = X.K := by rfl) :
    PS X (.AugAssign (.Subscript o j sp) op e pos) (denS F (sAugIx g i fj f)) := (ps_augS hx hj get_list he ho set_list ha).imp fun En σ H ⟨ρ, W, I, q⟩ => by
  unfold sAugIx at q
  split at q
  · rename_i ds h
    obtain ⟨q0, vs, hσ, hm, h0, hp, hr⟩ := I.env.ow i ds h
    refine ⟨.ref q0, hσ, ρ, W, I, q.bind I fun k kv H1 W1 g1 ok r q1 => ?_⟩
    split at q1
    · rename_i z
      split at q1
      · rename_i n hk
        split at q1
        · rename_i u hu
          cases r
          obtain ⟨v, ev, rv⟩ := hr.get hu
          cases rv
          have hp1 : H1 q0 = some (.lst vs) := g1.ex q0 _ hp fun l => by rw [hm]; simp
          have hk' : ixN vs.length z = some n := by rw [← hr.len]; exact hk
          refine ⟨q0, vs, z, .int u, rfl, rfl, SqL.of hp1, ?_, ρ, W1, I.go g1 ok, q1.bind (I.go g1 ok) fun d dv H2 W2 g2 ok2 r2 q2 => ?_⟩
          · unfold atI
            rw [hk']
            exact ev
          · split at q2
            · cases r2
              have I2 := (I.go g1 ok).go g2 ok2
              have hp2 : H2 q0 = some (.lst vs) := (g1.trans g2).ex q0 _ hp fun l => by rw [hm]; simp
              obtain ⟨I3, g3⟩ := I2.own (vs := vs) (es := ds.set _ _) (ws := vs.set _ _) h hσ ((reps_gr (g1.trans g2).s hr).set _ (.int _))
              exact ⟨_, _, rfl, rfl, q0, vs, _, _, rfl, rfl, hp2, hk', PostS.nil I3 (q2.weaken g3)⟩
            · exact q2.elim
        · exact q1.elim
      · exact q1.elim
    · exact q1.elim
  · exact q.elim
end

/-! ### [..] * n, a list of its own -/
section
variable {X : Cx} {F : Fm}
theorem dx_repL {a b : Expr} {f1 f2 : Fn D} {pos : Pos} (ha : PE X a (denE F f1)) (hb : PE X b (denE F f2)) : PE X (.BinOp a .Mult b pos) (denX F (fRepL f1 f2)) := (pe_op op_rep ha hb).imp fun σ H Q ⟨ρ, W, I, q⟩ => by
  have q : Post F (relX F H) W H σ ((f1 ρ W.S).bind fun d1 S1 => (f2 ρ S1).bind fun d2 S2 => (gMul d1 d2 S2).bind fun d S3 => match d with
    | .lst ds => .ok (.ow ds) S3
    | _ => .no) Q := by
    have e : fRepL f1 f2 ρ W.S = ((f1 ρ W.S).bind fun d1 S1 => (f2 ρ S1).bind fun d2 S2 => (gMul d1 d2 S2).bind fun d S3 => match d with
      | .lst ds => .ok (.ow ds) S3
      | _ => .no) := by
      unfold fRepL fBin
      cases f1 ρ W.S with
      | no => rfl
      | er x S => rfl
      | ok d1 S1 =>
        simp only [R.bind]
        cases f2 ρ S1 with
        | no => rfl
        | er x S => rfl
        | ok d2 S2 => rfl
    rw [← e]
    exact q
  refine ⟨ρ, W, I, q.bind fun d1 x H1 W1 g1 ok1 r1 q1 => ⟨ρ, W1, I.go g1 ok1, q1.bind fun d2 y H2 W2 g2 ok2 r2 q2 => ?_⟩⟩
  have r1 := rep_gr g2.s r1
  unfold gMul at q2
  split at q2
  · split at q2 <;> exact q2.elim
  · split at q2
    · rename_i hz
      obtain ⟨h1, h2, h3⟩ := hz
      cases r2
      cases r1 with
      | lst a b =>
        rw [b.len] at h1
        exact ⟨_, _, _, rfl, rfl, hid_le _ _ a, by omega, by omega, lim_le h1, fun p hp => Post.newX (g1.trans g2) ok2 hp q2 (b.rep _)⟩
    · exact q2.elim
  · split at q2 <;> exact q2.elim
  · exact q2.elim
end
end Bx

namespace Bx
open PySem PySem.Spec PySem.Calls PyProof.Rows L2 LamX
/-! the law's end where defs hold lambdas: cs, each def's code object and its table; TT, what a table tells -/
/-- the tables' names -/
def ttOf : List (Addr × Str) → Addr → Option Str
  | [], _ => none
  | (P, q) :: r, a => if a = P then some q else ttOf r a
abbrev txT (ts : List (Addr × Str)) (K : PySem.W.Frag) (mg : Str → Option Value) (w : World) : Tx := ⟨ttOf ts, K, mg, w⟩
theorem tt_mem : ∀ {l : List (Addr × Str)} {a : Addr} {q : Str}, ttOf l a = some q → ∃ q', (a, q') ∈ l
  | [], _, _, h => by cases h
  | (P, q) :: r, a, q', h => by
    unfold ttOf at h
    split at h
    · rename_i e
      exact ⟨q, by rw [e]; exact List.mem_cons_self ..⟩
    · obtain ⟨q2, h2⟩ := tt_mem h
      exact ⟨q2, List.mem_cons_of_mem _ h2⟩
theorem law_fnT {P : Program} {w : World} {K : PySem.W.Frag} {mg : Str → Option Value} {base : Heap} {k : Nat} {fa : Addr} {fd : FuncData} {x : Str} {sem : Sem} {ts : List (Addr × Str)} (G : FnOk P w K mg base (L2N.CX P w) k fa fd [x] (spD K mg (txT ts K mg w) 1 sem))
    (hsem : ∀ ns : List Int, ns.length ≤ 63 → ∃ S', sem [.scr ns] [] = .ok (.bl true) S') :
    FnOk P w K mg base (L2N.CX P w) k fa fd [x] (fun vs H Q E => ∃ (a : Addr) (ns : List Int), vs = [.ref a] ∧ SqL K H a (ns.map V.int) ∧ ns.length ≤ 63 ∧ (∀ p ∈ ts, H p.1 = some (.tbl #[])) ∧ ∀ H', Q (.bl true) H') := by
  refine G.imp fun vs H Q E ⟨a, ns, e, hS, hl, hT, q⟩ => ?_
  subst e
  obtain ⟨S', hs⟩ := hsem ns hl
  have at_ : ∀ b, (ttOf ts b).isSome = true → H b = some (.tbl #[]) := fun b hb => by
    obtain ⟨q', e⟩ := Option.isSome_iff_exists.mp hb
    obtain ⟨q2, hm⟩ := tt_mem e
    exact hT _ hm
  have no : ∀ b o, H b = some o → (∀ ps, o ≠ .tbl ps) → (if (ttOf ts b).isSome then some 1 else none : Option Nat) = none := fun b o e n => by
    cases h : (ttOf ts b).isSome with
    | false => rfl
    | true =>
      rw [at_ b h] at e
      exact absurd (Option.some.inj e).symm (n _)
  refine ⟨[.scr ns], ⟨fun b => if (ttOf ts b).isSome then some 1 else none, fun _ => none, [], txT ts K mg w⟩, rfl, ⟨⟨fun p h => ?_, fun l o h => by simp at h, fun l a h => (by cases h), fun P q h => ?_⟩, rfl⟩, .cons (.scr ?_) .nil, ?_⟩
  · cases h2 : (ttOf ts p).isSome with
    | false =>
      refine absurd ?_ h
      show (if (ttOf ts p).isSome = true then some 1 else none) = none
      rw [h2]; rfl
    | true => rw [at_ p h2]; simp
  · refine ⟨?_, #[], at_ P (by rw [show ttOf ts P = some q from h]; rfl), True.intro, fun pos cv hc => ?_⟩
    · show (if (ttOf ts P).isSome = true then some 1 else none) = some 1
      have h : ttOf ts P = some q := h
      rw [h]; rfl
    · have z : codeAmong pos [] = some cv := hc
      simp [codeAmong] at z
  · have hid_ : ∀ b o, H b = some o → (∀ ps, o ≠ .tbl ps) → hid (fun b => if (ttOf ts b).isSome then some 1 else none) H b = some o := fun b o e n => hid_some.mpr ⟨no b o e n, e⟩
    rcases hS with (z | ⟨o, z⟩) | z
    · exact .inl (.inl (hid_ _ _ z fun _ e => by cases e))
    · exact .inl (.inr ⟨o, hid_ _ _ z fun _ e => by cases e⟩)
    · exact .inr z
  · rw [hs]
    intro b H' W' _ _ _ r
    cases r
    exact q H'
/-- what is told of the defs' tables at the head's heap -/
def TabsTold (q : Program) (K : PySem.W.Frag) (h : Heap) : Prop := ∀ (x : Str) (d : DefRec) (c P : Addr), (recsOf q).find? (fun e => e.name == x) = some d → PySem.W.tabIn K x = some (c, P) → PySem.W.CodeHd h c P ∧ h.get? P = some { cls := .none, data := .fields #[] }
theorem law_walkT {l : PySem.W.OpenLaw} {q : Program} {loose : List Str} {XP : (Str → Option Value) → Heap → Prop} {YP : World → Heap → Prop} {d : DefRec} {K : Params → PySem.W.Frag} {k : Nat} {x : Str} {sem : Sem} (hn : l.most = some 63) (hdf : d.params.defaults = [])
    (hr : Room k callerA) (hY : ∀ (w : World) (h : Heap), YP w h → (K w.params).In h)
    (hsem : ∀ ns : List Int, ns.length ≤ 63 → ∃ S', sem [.scr ns] [] = .ok (.bl true) S')
    (F : ∀ (w : World) (mg : Str → Option Value) (fa : Addr) (h : Heap), (K w.params).In h → h.Ns mainGlobals mg → mg d.name = some (.ref fa) → TabsTold q (K w.params) h →
      ∃ (fd : FuncData) (cs : List (Addr × Addr × Str)), (∀ p ∈ cs, PySem.W.CodeHd h p.1 p.2.1 ∧ h.get? p.2.1 = some { cls := .none, data := .fields #[] } ∧ (K w.params).lookup p.2.1 = none) ∧ (∀ (s : Shared) (u : Value), BindsTo s fd ⟨[u], []⟩ [(x, u)]) ∧
        ∀ base : Heap, (K w.params).In base → base.Ns mainGlobals mg → (∀ p ∈ cs, TabB base mg p.1 p.2.1) → FnOk l.prog w (K w.params) mg base (L2N.CX l.prog w) k fa fd [x] (spD (K w.params) mg (txT (cs.map (·.2)) (K w.params) mg w) 1 sem)) :
    PySem.W.WalkO q loose XP YP l.row.toRowW d [] (fun f vs => PySem.call f vs) := by
  refine Att.attach_callB hn hdf fun w s₀ s₁ mg mb fa o pm cd doc a vs ns G Y ho hd hcd hmg hobj hints hlen hbits hg => ?_
  have KX := hY w _ Y
  obtain ⟨fd, cs, hcs, hb, hF⟩ := F w mg fa _ KX G.T.g hmg (fun x d c P h1 h2 => PySem.W.tab_of G.T KX h1 h2)
  refine law_callTs (cs := cs.map fun p => (p.1, p.2.1)) KX G.T.g G.T.b G.T.builtins G.T.nolimit hg (fun p hp => ?_) (fun p hp => ?_) (fun p hp => ?_) G.T.bmain hobj hints (Nat.le_trans hlen (by decide)) hr
    (fun base hK hG hT => law_fnT (hF base hK hG fun p hp => hT _ (List.mem_map.mpr ⟨p, hp, rfl⟩)) hsem) hb (fun H hH hS => ⟨a, ns, rfl, hS, hlen, fun p hp => ?_, fun _ => rfl⟩) fun H e s' c => ?_
  · obtain ⟨p', hp', rfl⟩ := List.mem_map.mp hp
    exact (hcs p' hp').2.1
  · obtain ⟨p', hp', rfl⟩ := List.mem_map.mp hp
    exact (hcs p' hp').2.2
  · obtain ⟨p', hp', rfl⟩ := List.mem_map.mp hp
    exact (hcs p' hp').1
  · obtain ⟨p', hp', rfl⟩ := List.mem_map.mp hp
    exact hH _ (List.mem_map.mpr ⟨p', hp', rfl⟩)
  · obtain ⟨_, _, _, _, _, _, _, _, _, _, _, _, z⟩ := c
    exact z
section
variable {K : PySem.W.Frag} {h base : Heap} {mg : Str → Option Value} {T : Tx} {x : Str} {st : Stmt} {ps : List Str} {fa c P : Addr} {oc : Value} {od an : Option Addr} {sl : Array (Option Value)} {kV doc pm ct : Value}
theorem lam_mk (X : K.In h) (G : h.Ns mainGlobals mg) (a : PySem.W.nsIn K mainGlobals x = some (some (.ref fa)))
    (l : K.lookup fa = some ⟨oc, od, .func (PySem.W.fnOf x x (defArgs st) (defBody st) (defScope st) .none kV doc pm an (.ref c) ct), sl⟩) (cd : PySem.W.codeIn K (.ref c) x = true) (k : PySem.W.keepIn K (.ref fa) = true)
    (hb : ∀ (kV doc pm : Value) (an : Option Addr) (cdv ct : Value) (us : List Value), us.length = ps.length → bindArgs (PySem.W.fnOf x x (defArgs st) (defBody st) (defScope st) .none kV doc pm an cdv ct) ⟨us, []⟩ = pure (ps.zip us)) (TB : TabB base mg c P) (tt : T.tab P = some ((x ++ ".<locals>.") ++ "<lambda>")) :
    ∃ c P, LamAt K mg base T x st ps c P :=
  ⟨c, P, fa, oc, od, kV, doc, pm, an, ct, sl, PySem.W.mg_of X G a, l, cd, k, (fun_mk l cd k).binds hb, TB, tt⟩
end
theorem tab_in {K : PySem.W.Frag} {x : Str} {f c P : Addr} {oc ec : Value} {od dd : Option Addr} {fd : FuncData} {sl sm : Array (Option Value)} {vs : Array Value} (a : PySem.W.nsIn K mainGlobals x = some (some (.ref f))) (l : K.lookup f = some ⟨oc, od, .func fd, sl⟩) (e : fd.code = .ref c)
    (m : K.lookup c = some ⟨ec, dd, .fields vs, sm⟩) (v : vs[11]? = some (.ref P)) : PySem.W.tabIn K x = some (c, P) := by
  unfold PySem.W.tabIn
  rw [a]
  simp only [l, e, m, v]
end Bx

namespace Bx
open PySem PySem.Spec PySem.Calls PyProof.Rows L2 LamX NdefX
/-! sorted(range(..), key=f) -/
/-- a tracked address holds an object -/
theorem obj_there {P : Program} {w : World} {H : Hp} {h : Heap} {a : Addr} : ∀ {o : HO}, ObjOk P w H h a o → ∃ ob, h.get? a = some ob
  | .lst _, ⟨_, _, _, _, e⟩ => ⟨_, e⟩
  | .tup _, ⟨_, _, _, ⟨_, e, _⟩⟩ => ⟨_, e⟩
  | .dK _, ⟨_, _, _, _, ⟨_, _, _, e, _⟩⟩ => ⟨_, e⟩
  | .dT _, ⟨_, _, _, _, _, _, _, e, _⟩ => ⟨_, e⟩
  | .set _ _, ⟨_, _, _, _, e, _⟩ => ⟨_, e⟩
  | .ins _ _ _, ⟨_, _, _, e, _⟩ => ⟨_, e⟩
  | .own _, x => x
  | .xd _, ⟨_, ⟨_, _, _, e, _⟩, _⟩ => ⟨_, e⟩
  | .rng _ _, ⟨_, _, _, e⟩ => ⟨_, e⟩
  | .frz _ _, ⟨e, _⟩ => ⟨_, e⟩
  | .tbl _, e => ⟨_, e⟩
  | .met _ _, e => ⟨_, e⟩
  | .ext _, ⟨_, e, _⟩ => e
section
variable {prog : Program} {w : World} {A : Around} {E : Value → Shared → Prop} {s : Shared} {r : Addr} {a b : Int} {t u v : Tok} {n : Nat}
theorem sorted_key_range {f : Value} {kw : List (Str × Value)} {Q : Value → Shared → Prop} {bs : List Int} (k : Int → PyData) (hh : A.handled = none) (hr : IsRange s.heap r a b 1 t u v) (hsmall : Builtin.Range.small a b 1 = true) (hn : Builtin.Range.rangeSize a b 1 = n) (hlen : n ≤ 2 ^ 20)
    (hbs : ∀ acc : Array Value, ItemsOf (fun i v => ∃ t, v = .int (a + i * 1) t) acc n → PySem.W.EachIs (fun v i => ∃ tk, v = Value.int i tk) acc.toList bs) (hal : PySem.W.AllAlike (bs.map k)) (hk : PySem.W.Sortable (bs.map k))
    (hu : ∀ x, x ∈ bs → A.units + 2 + (k x).depth < cLine) (ha1 : argsOk "sorted" ⟨[.ref r], kw⟩) (ha2 : ∀ x, argsOk "list.sort" ⟨[.ref x], kw⟩) (ht : ∀ x, Builtin.«list.sort» ⟨[.ref x], kw⟩ = ksk_tree x f false)
    (turn : ∀ (v : Value) (x : Int), (∃ tk, v = Value.int x tk) → x ∈ bs → ∀ (h : Heap) (tk : Nat), (∀ b o, s.heap.get? b = some o → h.get? b = some o) →
      wpAny (model prog w) A.in1.in1 (call f [v]) (PySem.W.KeyPure (k x) { s with heap := h, toks := tk }) (fun _ _ => False) { s with heap := h, toks := tk })
    (h : ∀ out c h' tk p, s.heap.get? p = none → (∀ b o, s.heap.get? b = some o → h'.get? b = some o) → h'.get? p = some (seqObj "list" (List.toArray out) c) → PySem.W.EachIs (fun v i => ∃ tk, v = Value.int i tk) out (bs.mergeSort (PySem.W.dataLe false k)) →
      Q (.ref p) { s with heap := h', toks := tk }) :
    wpAny (model prog w) A (call (.builtin "sorted") [.ref r] kw) Q E s := by
  refine call_function_entry_kw kind_sorted plain_sorted entry_sorted ha1 ?_
  unfold Builtin.«sorted»
  refine wpAny_bind (m := checkCount "sorted" 1 1 _) (wpAny_pure ?_)
  refine wpAny_bind (collect_range (A := A.in1) hh hr hsmall hn (by omega) fun h1 tk1 acc hk1 hi => ?_)
  have e := hbs acc hi
  have hsz : acc.size = n := hi.1
  have hline : n ≤ sizeLine := by rw [sizeLine_eq]; omega
  have hlb : bs.length = n := by rw [← e.length, Array.length_toList, hsz]
  refine wpAny_bind (wpAny_newList ?_ (by rw [Array.length_toList, hsz]; exact hline))
  have hnew : (h1.push (seqObj "list" acc.toList.toArray 0)).get? h1.objs.size = some (seqObj "list" acc.toList.toArray 0) := Heap.get?_push_size _ rfl
  have hle : s.heap.get? h1.objs.size = none := by
    cases q : s.heap.get? h1.objs.size with
    | none => rfl
    | some o => exact absurd (Heap.lt_size (hk1 _ o q)) (Nat.lt_irrefl _)
  have up : ∀ {g : Heap}, PySem.W.KeepsBut h1.objs.size (h1.push (seqObj "list" acc.toList.toArray 0)) g → ∀ b o, s.heap.get? b = some o → g.get? b = some o := fun {g} kp b o q =>
    kp b o (Nat.ne_of_lt (Heap.lt_size (hk1 b o q))) (Heap.get?_push_of_some _ (hk1 b o q))
  refine wpAny_bind (wpAny_holding (wpAny_call_entry_kw slot_list_sort ⟨_, hnew, rfl⟩ entry_list_sort ?body (ha2 _)))
  case body =>
    rw [ht]
    refine wpAny_mono (PySem.W.keyH_tree (b := false) (kz := bs.map k) (s := { s with heap := h1.push (seqObj "list" acc.toList.toArray 0), toks := tk1 }) (P := fun f s' => f = .done (.ret .none) ∧ Q (.ref h1.objs.size) s') (E := fun _ _ => False) hnew (by rw [List.length_map]; exact e.length.symm) (by rw [Array.length_toList, hsz]; exact hline) hal hk (PySem.W.bound_map (A := A.in1.in1) hu)
      (PySem.W.keyH_turns (s := { s with heap := h1.push (seqObj "list" acc.toList.toArray 0), toks := tk1 }) e fun v x hR hx h tk kp => turn v x hR hx h tk (up kp)) fun h' tk out c kp hD ko => ⟨rfl, ?_⟩) (fun f s' hf => ?_) fun _ _ e => e.elim
    · exact h out c h' tk h1.objs.size hle (up kp) hD (PySem.W.keyedOut_each k ko e)
    · obtain ⟨rfl, hq⟩ := hf
      exact ⟨_, rfl, wpAny_pure ⟨_, rfl, hq⟩⟩
end

def tSortLamR (K : PySem.W.Frag) (P : Addr) (q : Str) (lpos : Pos) (j : Nat) (te : L2.St → Hp → (Int → Int → Hp → Prop) → Prop) : TE := fun σ H Q => te σ H fun a b H1 => ∃ (t : Addr) (ps : Array Value) (ys : List V) (k : Int → Int), RgOk a b ∧ (b - a).toNat ≤ 2 ^ 20 ∧ a = 0 ∧ σ[j]? = some (some (.ref t)) ∧ SqT K H1 t ys ∧
  (∀ i, 0 ≤ i → i < b → i < 2 ^ 63 ∧ ys[i.toNat]? = some (.int (k i))) ∧ TabH H1 P ps q ∧ ∀ H2, (H2 = H1 ∨ ∃ c', H1 c' = none ∧ H2 = tabUp H1 P ps lpos c' q) → ∀ p', H2 p' = none → Q (.ref p') (upd H2 p' (.lst ((sortBy k ((List.range b.toNat).map fun (i : Nat) => (i : Int))).map V.int)))
theorem pe_sortLamR {X : Cx} {c P : Addr} {x y : Str} {ar : Arguments} {p1 p2 p3 p4 p5 lpos kpos p pos : Pos} {c1 j : Nat} {scope : Scope} {e : Expr} {te : L2.St → Hp → (Int → Int → Hp → Prop) → Prop} {kk : Nat} (hc : X.calm = true) (hg : Gl X "sorted") (hm : X.mg "sorted" = none) (he0 : PRg X e te)
    (TB : TabB X.base X.mg c P) (hcode : X.env.code = .ref c) (hr : Room (kk + 1) X.A) (hN : X.N[j]? = some y) (hv : X.env.scope.names.lookup y = some .cell)
    (hk : scope.kind = .function) (hco : scope.isCoroutine = false) (hgen : scope.isGenerator = false) (hnm : scope.names = [(x, .local), (y, .free)] ∨ scope.names = [(y, .free), (x, .local)]) (hne : (x == y) = false) (hdef : defaultsOf ar X.env = ([], []))
    (hbind : ∀ (q : Str) (cl : List (Str × Addr)) (pm cv ctv v : Value), bindArgs (PySem.W.kla_fn "<lambda>" q ar (lamBody x y p1 p2 p3 p4 p5 c1) scope cl pm cv ctv) ⟨[v], []⟩ = pure [(x, v)])
    (d1 : (x == ("__debug__" : Str)) = false := by decide) (d2 : (y == ("__debug__" : Str)) = false := by decide) (d3 : (y == ("__classdict__" : Str)) = false := by decide)
    (he : backTo pos (starEach [e] X.env) = (false, eval e X.env) :: backTo pos (starEach [] X.env) := by rfl) (hpl : (backTo pos (starEach [e] X.env)).any (·.1) = false := by rfl) :
    PE X (.Call (.Name "sorted" p) [e] [⟨some "key", .Lambda ar (lamBody x y p1 p2 p3 p4 p5 c1) scope lpos, kpos⟩] pos) (tSortLamR X.K P (X.env.qual ++ "<lambda>") lpos j te) := by
  refine ⟨fun pins s σ H Q I h => ?_⟩
  have hye : (y == x) = false := by
    cases q : y == x with
    | false => rfl
    | true =>
      rw [beq_iff_eq.mp q] at hne
      simp at hne
  have hyf : scope.names.lookup y = some .free := by
    rcases hnm with z | z <;> rw [z] <;> simp [List.lookup, hye]
  have hxl : scope.names.lookup x = some .local := by
    rcases hnm with z | z <;> rw [z] <;> simp [List.lookup, hne]
  have ncell : ∀ z ∈ scope.names, z.2 ≠ .cell := by
    rcases hnm with z | z <;> rw [z] <;> simp
  obtain ⟨cy, hcy⟩ : ∃ c, X.env.cells.lookup y = some c := I.ok.has _ (.inl hv)
  have hfree : ∀ z ∈ scope.names, z.2 = .free → ∃ c, X.env.cells.lookup z.1 = some c := by
    rcases hnm with z | z <;> rw [z] <;> simpa using ⟨cy, hcy⟩
  have hcl : (cloFrom X.env.cells scope.names []).lookup y = some cy := by
    rcases hnm with z | z <;> rw [z] <;> simp [cloFrom, List.lookup, hcy]
  refine wpAny_Call_Name_kw (ld_blt I hg hm (show bootBuiltins "sorted" = some (.builtin "sorted") from by decide +kernel) ?_ (by decide) (by decide))
  refine PyProof.Rows.callWith_kw ?_ he hpl (by rfl) (by rfl)
  rw [he]
  refine spliced_cons (thn (he0 pins s σ H _ I h) fun xv s1 ⟨r, a, b, t1, u1, v1, H1, ex, hrg, I1, q1⟩ => spliced_nil ?_)
  subst ex
  obtain ⟨t, ps, ys, k, rok, hsm, rfl, hσ, hTt, hns, hT, q⟩ := q1
  show wpAny _ _ (evalAll [(do let v ← eval (.Lambda ar (lamBody x y p1 p2 p3 p4 p5 c1) scope lpos) X.env; standAt pos; pure v)]) _ _ s1
  refine wpAny_evalAll_cons (wpAny_bind (lam_new I1 TB hcode hT hdef hfree fun H2 f c' pm ctv s2 hH I2 hcc hf hkp => wpAny_bind (wpAny_standAt (wpAny_pure (wpAny_evalAll_nil ?_)))))
  show wpAny _ _ (call (.builtin "sorted") [.ref r] [(Str.ofString "key", .ref f)]) _ _ s2
  have hext : ∀ b o, H1 b = some o → (∀ ps, o ≠ .tbl ps) → H2 b = some o := fun b o e n => by
    rcases hH with rfl | ⟨hn, rfl⟩
    · exact e
    · show upd _ _ _ b = _
      rw [upd_ne (ne_of_none e hn), upd_ne (fun z => n ps (Option.some.inj (e.symm.trans (by rw [z]; exact hT.1))))]
      exact e
  have hTt2 : SqT X.K H2 t ys := by
    rcases hTt with (z | ⟨o, z⟩) | z
    · exact .inl (.inl (hext _ _ z fun _ e => by cases e))
    · exact .inl (.inr ⟨o, hext _ _ z fun _ e => by cases e⟩)
    · exact .inr z
  obtain ⟨its2, rv2, hit, hz2⟩ := I2.tuple hTt2
  have hP' : s1.heap.get? P = some { cls := .none, data := .fields ps } := I1.hok P _ hT.1
  have hrP : r ≠ P := fun z => by
    have hrg' := hrg
    rw [z] at hrg'
    unfold IsRange at hrg'
    rw [hP'] at hrg'
    cases hrg'
  have hrg2 : IsRange s2.heap r 0 b 1 t1 u1 v1 := hkp r _ hrP hrg
  obtain ⟨m, hns2, hlk⟩ := I2.loc
  obtain ⟨u, ru, lu⟩ := hlk j y (.ref t) hN hσ (.inr (.inl hv))
  obtain rfl : u = Value.ref t := ru
  have hcell : s2.heap.IsCell cy (some (.ref t)) := by
    rcases lu with ⟨k', _⟩ | ⟨_, c3, e', z⟩
    · have k' : X.env.scope.names.lookup y = some .local := k'
      rw [hv] at k'
      cases k'
    · rw [hcy] at e'
      cases e'
      exact z
  have hrec := codeO_at I2.hok hcc
  have each : ∀ {us : List Value} {ms : List Int}, IntsAre us ms → PySem.W.EachIs (fun v i => ∃ tk, v = Value.int i tk) us ms := fun h => by
    induction h with
    | nil => exact .nil
    | cons n t _ ih => exact .cons ⟨t, rfl⟩ ih
  have back : ∀ {us : List Value} {ms : List Int}, PySem.W.EachIs (fun v i => ∃ tk, v = Value.int i tk) us ms → Vals (ms.map V.int) us := fun h => by
    induction h with
    | nil => exact .nil
    | cons h _ ih => exact .cons h ih
  obtain ⟨b1, b2, b3, b4, b5⟩ := rok
  have ebs : rgV 0 b = ((List.range b.toNat).map fun (i : Nat) => (i : Int)).map V.int := by
    unfold rgV
    simp
  have hbr : ∀ i ∈ ((List.range b.toNat).map fun (i : Nat) => (i : Int)), 0 ≤ i ∧ i < b := fun i hi => by
    obtain ⟨n, hn, rfl⟩ := List.mem_map.mp hi
    have := List.mem_range.mp hn
    omega
  refine sorted_key_range (s := s2) (n := (b - 0).toNat) (bs := (List.range b.toNat).map fun (i : Nat) => (i : Int)) (fun i => .tuple [.int (k i), .int i]) (I2.ok.hd hc) hrg2 (small_one b1 b2 b3 b4) (rangeSize_nat 0 b) hsm (fun acc hi => each (by
      have := vals_rg hi
      rw [ebs] at this
      exact this.ints)) (PySem.W.AllAlike.of fun _ _ => by simp [PySem.W.alike, PySem.W.alikeAll]) (PySem.W.Sortable.tuples fun _ => ⟨_, _, rfl⟩)
    (fun i _ => ?_) (PyProof.Rows.ksk_s1 _ _) (fun _ => PyProof.Rows.ksk_l1 _ _) (fun _ => PyProof.Rows.ksk_t1 _ _) (fun v i hvi him h tk kp => ?_) fun out cc h' tk pn fr kp hget eo => ?_
  · have hd : (PyData.tuple [.int (k i), .int i]).depth = 1 := by simp [PyData.depth, PyData.depthAll]
    have := hr.un
    omega
  · obtain ⟨tk1, rfl⟩ := hvi
    obtain ⟨i0, i1⟩ := hbr i him
    obtain ⟨j1, j2⟩ := hns i i0 i1
    obtain ⟨u2, hu2, tk2, rfl⟩ := rv2.get j2
    exact lam_turn (s := { s2 with heap := h, toks := tk }) (its := its2.toArray) (kp _ _ hf) (hrec.keeps kp) (I2.nolimit.keeps kp) hr.depth (hbind _ _ _ _ _ _) hk hco hgen ncell hxl hyf hcl
      (by obtain ⟨o, e1, e2⟩ := hcell; exact ⟨o, kp _ _ e1, e2⟩) (by obtain ⟨o, e1, e2⟩ := hit; exact ⟨o, kp _ _ e1, e2⟩) i0 j1 (by simpa using hu2) d1 d2 d3
  · rw [PySem.W.dataLe_ii (β := Int) k fun i => i] at eo
    have eo : PySem.W.EachIs (fun v i => ∃ tk, v = Value.int i tk) out (sortBy k ((List.range b.toNat).map fun (i : Nat) => (i : Int))) := by
      rw [← sortBy_merge]
      exact eo
    have hfr : H2 pn = none := by
      cases z : H2 pn with
      | none => rfl
      | some u =>
        obtain ⟨ob, e⟩ := obj_there (I2.hok pn u z)
        rw [fr] at e
        cases e
    refine ⟨.ref _, _, I2.laidN (t' := tk) (a := pn) (o := .lst ((sortBy k ((List.range b.toNat).map fun (i : Nat) => (i : Int))).map V.int)) kp fr hfr ⟨?_, out, cc, back eo, hget⟩, rfl, q H2 ?_ _ hfr⟩
    · rw [List.length_map]
      rw [sortBy_len, List.length_map, List.length_range, sizeLine_eq]
      omega
    · rcases hH with z | ⟨z1, z2⟩
      · exact .inl z
      · exact .inr ⟨c', z1, z2⟩

/-- sorted(range(n), key=lambda x: (y[x], x)), y the slot j -/
def fSortLamR (j : Nat) (f : Fn D) : Fn Sl := fun ρ S => (f ρ S).bind fun d S1 => match d, ρ[j]? with
  | .int b, some (.fz (.tup ys)) => if -1000000 ≤ b ∧ b ≤ 1000000 ∧ ((List.range b.toNat).map fun (i : Nat) => (i : Int)).all (keyOk ys) = true then .ok (.ow ((sortBy (keyD ys) ((List.range b.toNat).map fun (i : Nat) => (i : Int))).map .int)) S1 else .no
  | _, _ => .no
section
variable {X : Cx} {F : Fm}
theorem dx_sortLamR {c P : Addr} {x y : Str} {ar : Arguments} {p1 p2 p3 p4 p5 lpos kpos p pos p6 pos2 : Pos} {c1 j : Nat} {scope : Scope} {e : Expr} {f : Fn D} {kk : Nat} (hc : X.calm = true) (hg : Gl X "sorted") (hm : X.mg "sorted" = none) (hgr : Gl X "range") (hmr : X.mg "range" = none) (he0 : PE X e (denE F f))
    (TB : TabB X.base X.mg c P) (hcode : X.env.code = .ref c) (hTP : F.T.tab P = some (X.env.qual ++ "<lambda>")) (hr : Room (kk + 1) X.A) (hN : X.N[j]? = some y) (hv : X.env.scope.names.lookup y = some .cell)
    (hk : scope.kind = .function) (hco : scope.isCoroutine = false) (hgen : scope.isGenerator = false) (hnm : scope.names = [(x, .local), (y, .free)] ∨ scope.names = [(y, .free), (x, .local)]) (hne : (x == y) = false) (hdef : defaultsOf ar X.env = ([], []))
    (hbind : ∀ (q : Str) (cl : List (Str × Addr)) (pm cv ctv v : Value), bindArgs (PySem.W.kla_fn "<lambda>" q ar (lamBody x y p1 p2 p3 p4 p5 c1) scope cl pm cv ctv) ⟨[v], []⟩ = pure [(x, v)])
    (d1 : (x == ("__debug__" : Str)) = false := by decide) (d2 : (y == ("__debug__" : Str)) = false := by decide) (d3 : (y == ("__classdict__" : Str)) = false := by decide)
    (h1 : starEach [e] X.env = (false, eval e X.env) :: starEach [] X.env := by rfl)
    (he : backTo pos (starEach [.Call (.Name "range" p6) [e] [] pos2] X.env) = (false, eval (.Call (.Name "range" p6) [e] [] pos2) X.env) :: backTo pos (starEach [] X.env) := by rfl) (hpl : (backTo pos (starEach [.Call (.Name "range" p6) [e] [] pos2] X.env)).any (·.1) = false := by rfl) (hK : F.K = X.K := by rfl) :
    PE X (.Call (.Name "sorted" p) [.Call (.Name "range" p6) [e] [] pos2] [⟨some "key", .Lambda ar (lamBody x y p1 p2 p3 p4 p5 c1) scope lpos, kpos⟩] pos) (denX F (fSortLamR j f)) := by
  refine (pe_sortLamR (lpos := lpos) hc hg hm (prg_1 hgr hmr he0 (na := h1)) TB hcode hr hN hv hk hco hgen hnm hne hdef hbind d1 d2 d3 he hpl).imp fun σ H Q ⟨ρ, W, I, q⟩ => ⟨ρ, W, I, ?_⟩
  unfold fSortLamR at q
  refine q.bind fun d v H1 W1 g1 ok1 r1 q1 => ?_
  split at q1
  · rename_i b ys hρ
    split at q1
    · rename_i hcnd
      obtain ⟨c0, c2, hall⟩ := hcnd
      cases r1
      obtain ⟨v, hσ, rv⟩ := I.env.fz j _ hρ
      have rv1 := rep_gr g1.s rv
      cases rv1 with
      | tup t1 t2 =>
        have hT1 : W1.T.tab _ = some _ := (congrFun (congrArg Tx.tab (g1.tt.trans I.env.tk)) P).trans hTP
        obtain ⟨ps, tb⟩ := tab_ok ok1 hT1
        rw [← hK]
        refine ⟨b, rfl, _, ps, _, keyD ys, ⟨by omega, by omega, by omega, by omega, by omega⟩, by omega, rfl, hσ, SqT.of (hid_le _ _ t1), fun i i0 i1 => ?_, tb, fun H2 h2 p' hp' => ?_⟩
        · obtain ⟨k1, k2, k3⟩ := keyOk_is (List.all_eq_true.mp hall i (List.mem_map.mpr ⟨i.toNat, List.mem_range.mpr (by omega), by omega⟩))
          obtain ⟨v, e1, e2⟩ := t2.get k3
          cases e2
          exact ⟨k2, e1⟩
        · rcases h2 with rfl | ⟨c', hc', rfl⟩
          · exact Post.newX g1 ok1 hp' q1 (Reps.ofInts _)
          · obtain ⟨ok2, g2⟩ := tabUp_ok (pos := lpos) ok1 hT1 tb hc'
            exact Post.newX (g1.trans g2) ok2 hp' (q1.weaken g2) (Reps.ofInts _)
    · exact q1.elim
  · exact q1.elim
end

/-! ### for i in reversed(range(n)) -/
theorem walk_itc {lo c : Int} {n : Nat} : Walk (Itc lo c n) n (fun _ => True) (YFn fun i => V.int (lo + (i : Nat) * c)) := by
  refine ⟨fun i _ hi _ => hi, fun _ _ => Nat.le_refl _, fun i H v H' _ _ y => ?_⟩
  exact ⟨y.1, y.2⟩
def gRevR : D → Store → R (List D)
  | .int j, S => if -1000000 ≤ j ∧ j ≤ 1000000 then .ok (rangeD 0 j.toNat).reverse S else .no
  | _, _ => .no
theorem di_revR {X : Cx} {F : Fm} {tg e : Expr} {f : Fn D} {p pos p2 pos2 : Pos} (hg : Gl X "reversed") (hm : X.mg "reversed" = none) (hgr : Gl X "range") (hmr : X.mg "range" = none) (he : PE X e (denE F f)) (h1 : starEach [e] X.env = (false, eval e X.env) :: starEach [] X.env := by rfl)
    (hs : starEach [.Call (.Name "range" p2) [e] [] pos2] X.env = (false, eval (.Call (.Name "range" p2) [e] [] pos2) X.env) :: starEach [] X.env := by rfl) :
    PI X tg (.Call (.Name "reversed" p) [.Call (.Name "range" p2) [e] [] pos2] [] pos) (denI F (fUn gRevR f)) :=
  (pi_revR hg hm (prg_1 hgr hmr he (na := h1)) hs).imp fun σ H T ⟨ρ, W, I, q⟩ => ⟨ρ, W, I, q.bind fun d v H1 W1 g ok r q1 => by
    unfold gRevR at q1
    split at q1
    · split at q1
      · rename_i j hz
        cases r
        refine ⟨j, rfl, by omega, by omega, by omega, by omega, ?_⟩
        rw [Int.sub_zero, Int.zero_add]
        refine q1 _ _ _ H1 W1 rfl (Gr.refl _ _) ok (by rw [List.length_reverse, rangeD_len]; exact walk_itc) (fun _ _ _ => trivial) fun i d W2 H2 x H3 g2 _ hd y => ?_
        obtain ⟨rfl, rfl⟩ := y
        obtain ⟨hi, e⟩ := List.getElem?_eq_some_iff.mp hd
        rw [List.getElem_reverse] at e
        rw [List.length_reverse, rangeD_len] at hi
        have e2 : (rangeD 0 j.toNat)[j.toNat - 1 - i]? = some d := by
          rw [List.getElem?_eq_getElem (by rw [rangeD_len]; omega), ← e]
          congr 2
          rw [rangeD_len]
        unfold rangeD at e2
        rw [List.getElem?_map, List.getElem?_range (by omega)] at e2
        cases e2
        refine ⟨Same.refl _, ?_⟩
        have e3 : (0 : Int) + ((j.toNat - 1 - i : Nat) : Int) = ((j.toNat : Nat) : Int) - 1 + (i : Nat) * (-1) := by omega
        show F.rep W2 H3 (.int (0 + ((j.toNat - 1 - i : Nat) : Int))) (V.int (((j.toNat : Nat) : Int) - 1 + (i : Nat) * (-1)))
        rw [e3]
        exact .int _
      · exact q1.elim
    · exact q1.elim⟩
end Bx

namespace Bx
open PySem L2 PyProof.Rows
/-! min of a list of data -/
mutual
theorem toPy_inj : ∀ (d e : D) (x : PyData), toPy d = some x → toPy e = some x → d = e
  | .non, e, x, h, k => by
    cases h
    cases e <;> simp_all [toPy]
  | .bl b, e, x, h, k => by
    cases h
    cases e <;> simp_all [toPy]
  | .int i, e, x, h, k => by
    cases h
    cases e <;> simp_all [toPy]
  | .str s, e, x, h, k => by
    cases h
    cases e <;> simp_all [toPy]
  | .tup ds, e, x, h, k => by
    obtain ⟨y, h1, rfl⟩ := Option.map_eq_some_iff.mp (show (toPys ds).map PyData.tuple = some x from h)
    cases e with
    | tup es =>
      obtain ⟨z, k1, k2⟩ := Option.map_eq_some_iff.mp (show (toPys es).map PyData.tuple = some (.tuple y) from k)
      cases k2
      rw [toPys_inj ds es y h1 k1]
    | _ => simp [toPy] at k
  | .lst ds, e, x, h, k => by
    obtain ⟨y, h1, rfl⟩ := Option.map_eq_some_iff.mp (show (toPys ds).map PyData.list = some x from h)
    cases e with
    | lst es =>
      obtain ⟨z, k1, k2⟩ := Option.map_eq_some_iff.mp (show (toPys es).map PyData.list = some (.list y) from k)
      cases k2
      rw [toPys_inj ds es y h1 k1]
    | _ => simp [toPy] at k
  | .ins _ _ _, _, _, h, _ => by cases h
  | .ref _, _, _, h, _ => by cases h
  | .fn _, _, _, h, _ => by cases h
  | .scr _, _, _, h, _ => by cases h
  | .dct _ _, _, _, h, _ => by cases h
theorem toPys_inj : ∀ (ds es : List D) (x : List PyData), toPys ds = some x → toPys es = some x → ds = es
  | [], es, x, h, k => by
    cases h
    cases es with
    | nil => rfl
    | cons e es =>
      unfold toPys at k
      split at k <;> cases k
  | d :: ds, es, x, h, k => by
    unfold toPys at h
    split at h
    · rename_i a b ea eb
      cases h
      cases es with
      | nil => cases k
      | cons e es =>
        unfold toPys at k
        split at k
        · rename_i a' b' ea' eb'
          cases k
          rw [toPy_inj d e _ ea ea', toPys_inj ds es _ eb eb']
        · cases k
    · cases h
end

def dltD (d e : D) : Bool := match toPy d, toPy e with
  | some x, some y => PySem.W.dataLt x y
  | _, _ => false
def minDD (d : D) (ds : List D) : D := ds.foldl (fun a y => if dltD y a then y else a) d
def alikes (xs : List PyData) : Bool := (xs.all fun x => xs.all fun y => PySem.W.alike x y) && (xs.all fun x => match x with
  | .none => false
  | _ => true) && PyData.canLayAll0 xs && decide (PyData.depthAll xs ≤ 60)
def minOf (ds : List D) (S : Store) : R D := match toPys ds, ds with
  | some xs, d :: r => if alikes xs then .ok (minDD d r) S else .no
  | _, _ => .no
def gMinD : List D → Store → R D
  | [.lst ds], S => minOf ds S
  | [.tup ds], S => minOf ds S
  | _, _ => .no
theorem minDD_mem : ∀ (r : List D) (d : D), minDD d r ∈ d :: r
  | [], d => by simp [minDD]
  | e :: r, d => by
    have := minDD_mem r (if dltD e d then e else d)
    unfold minDD at *
    rw [List.foldl_cons]
    rcases List.mem_cons.mp this with h | h
    · rw [h]
      split <;> simp
    · simp [h]
theorem minDD_py : ∀ (r : List D) (d : D) (x : PyData) (xs : List PyData), toPy d = some x → toPys r = some xs → toPy (minDD d r) = some (PySem.W.minD x xs)
  | [], d, x, xs, h, k => by
    cases k
    exact h
  | e :: r, d, x, xs, h, k => by
    unfold toPys at k
    split at k
    · rename_i a b ea eb
      cases k
      unfold minDD PySem.W.minD
      rw [List.foldl_cons, List.foldl_cons]
      have e1 : dltD e d = PySem.W.dataLt a x := by unfold dltD; rw [ea, h]
      rw [e1]
      refine minDD_py r _ _ _ ?_ eb
      split
      · exact ea
      · exact h
    · cases k
theorem alikes_is {xs : List PyData} (h : alikes xs = true) : PySem.W.AlikeAll xs ∧ PyData.canLayAll0 xs = true ∧ PyData.depthAll xs ≤ 60 := by
  unfold alikes at h
  simp only [Bool.and_eq_true, List.all_eq_true, decide_eq_true_eq] at h
  obtain ⟨⟨⟨h1, h2⟩, h3⟩, h4⟩ := h
  refine ⟨⟨h1, fun x hx e => ?_⟩, h3, h4⟩
  have := h2 x hx
  rw [e] at this
  cases this
/-- min of a list or a tuple of data that can be compared -/
def rMinD (K : PySem.W.Frag) : List V → Hp → VK → Prop := fun vs H Q => ∃ (a : Addr) (ys : List V) (x : PyData) (xs : List PyData), vs = [V.ref a] ∧ (SqL K H a ys ∨ SqT K H a ys) ∧ DpAll K H ys (x :: xs) ∧ alikes (x :: xs) = true ∧
  ∀ (i : Nat) (y : V), ys[i]? = some y → (x :: xs)[i]? = some (PySem.W.minD x xs) → Q y H
theorem canLay_at : ∀ {xs : List PyData} {i : Nat} {x : PyData}, PyData.canLayAll0 xs = true → xs[i]? = some x → x.canLay0 = true
  | [], i, x, h, e => by simp at e
  | y :: xs, 0, x, h, e => by
    simp only [PyData.canLayAll0, Bool.and_eq_true] at h
    simp at e
    exact e ▸ h.1
  | y :: xs, i + 1, x, h, e => by
    simp only [PyData.canLayAll0, Bool.and_eq_true] at h
    exact canLay_at (i := i) h.2 (by simpa using e)
theorem cr_minD {X : Cx} (hc : X.calm = true) (hu : X.A.units + 64 < cLine) : CallR X (.builtin "min") (rMinD X.K) := by
  intro pins s σ H vs us Q I r h
  obtain ⟨a, ys, x, xs, rfl, hs, hD, hal, q⟩ := h
  obtain ⟨ha, hl, hdp⟩ := alikes_is hal
  have fin : ∀ {its : List Value} {as : List Addr}, Vals ys its → ReadsAll s.heap its (x :: xs) as → ∀ (i : Nat) (v : Value) (h' : Heap) (tk : Nat) (bs : List Addr), its.toArray[i]? = some v → Reads h' v (PySem.W.minD x xs) bs → (∀ b o, s.heap.get? b = some o → h'.get? b = some o) → ∃ w H', Inv X pins σ H' { s with heap := h', toks := tk } ∧ RelV w v ∧ Q w H' := by
    intro its as rv hR i v h' tk bs hv hr hk
    have hv2 : its[i]? = some v := by simpa using hv
    obtain ⟨bs2, r2, hi, _, _⟩ := PySem.W.readsAll_at hR i v hv2
    have hi2 : i < ys.length := by
      rw [rv.length]
      exact (List.getElem?_eq_some_iff.mp hv2).1
    have hx : (x :: xs)[i]? = some ((x :: xs).getD i .none) := by
      rw [List.getD_eq_getElem?_getD, List.getElem?_eq_getElem hi]
      rfl
    have e := (Reads.unique (PySem.W.reads_keeps hk r2) _ _ hr).1
    rw [e] at hx
    obtain ⟨u, hu1, hu2⟩ := rv.get (i := i) (x := ys[i]) (by simp [hi2])
    rw [hv2] at hu1
    cases hu1
    exact ⟨ys[i], H, I.kept hk, hu2, q i _ (by simp [hi2]) hx⟩
  rw [Vals.ref1 r]
  have hu' : X.A.units + 1 + PyData.depthAll (x :: xs) < cLine := by omega
  rcases hs with hs | hs
  · obtain ⟨its, rv, ht, hz⟩ := I.list hs
    obtain ⟨as, hR⟩ := Dp.readsAll I _ _ _ hD rv
    exact PySem.W.min_list_data (I.ok.hd hc) ht.isList (by simpa using hR) ha hu' fun i v h' tk bs hv hr hk => fin rv hR i v h' tk bs hv hr hk
  · obtain ⟨its, rv, ht, hz⟩ := I.tuple hs
    obtain ⟨as, hR⟩ := Dp.readsAll I _ _ _ hD rv
    exact PySem.W.min_tuple_data (I.ok.hd hc) ht (by simpa using hR) ha hu' fun i v h' tk bs hv hr hk => fin rv hR i v h' tk bs hv hr hk
section
variable {F : Fm} {X : Cx} {e : Expr} {fs : Fn (List D)} {pos p : Pos}
theorem cal_minD : CalD F (rMinD F.K) gMinD := by
  intro W H σ ds vs Q ok r h
  have fin : ∀ {es : List D} {ys : List V}, F.reps W H es ys → Post F F.rep W H σ (minOf es W.S) Q → ∃ (x : PyData) (xs : List PyData), DpAll F.K H ys (x :: xs) ∧ alikes (x :: xs) = true ∧ ∀ (i : Nat) (y : V), ys[i]? = some y → (x :: xs)[i]? = some (PySem.W.minD x xs) → Q y H := by
    intro es ys rr hq
    unfold minOf at hq
    split at hq
    · rename_i xs d rest hp
      split at hq
      · rename_i hal
        have hp' := hp
        unfold toPys at hp
        split at hp
        · rename_i a b ea eb
          cases hp
          refine ⟨a, b, reps_dp _ _ _ hp' rr, hal, fun i y hy hx => ?_⟩
          obtain ⟨d', hd', rd⟩ := rr.getV hy
          have e1 : toPy d' = some (PySem.W.minD a b) := by
            rw [← hx]
            clear hx hy rd hq hal
            have key : ∀ (l : List D) (m : List PyData) (i : Nat) (d' : D), toPys l = some m → l[i]? = some d' → toPy d' = m[i]? := by
              intro l
              induction l with
              | nil => intro m i d' _ h; simp at h
              | cons z l ih =>
                intro m i d' hm hd
                unfold toPys at hm
                split at hm
                · rename_i p q ep eq
                  cases hm
                  cases i with
                  | zero =>
                    simp at hd
                    subst hd
                    simpa using ep
                  | succ i => simpa using ih q i d' eq (by simpa using hd)
                · cases hm
            exact key _ _ _ _ hp' hd'
          have e2 := toPy_inj _ _ _ e1 (minDD_py _ _ _ _ ea eb)
          rw [← e2] at hq
          exact hq.val ok rd
        · cases hp
      · exact hq.elim
    · exact hq.elim
  unfold gMinD at h
  split at h
  · cases r with
    | cons r1 r2 =>
      cases r2
      cases r1 with
      | lst a b =>
        obtain ⟨x, xs, h1, h2, h3⟩ := fin b h
        exact ⟨_, _, x, xs, rfl, .inl (SqL.of (hid_le _ _ a)), h1, h2, h3⟩
  · cases r with
    | cons r1 r2 =>
      cases r2
      cases r1 with
      | tup a b =>
        obtain ⟨x, xs, h1, h2, h3⟩ := fin b h
        exact ⟨_, _, x, xs, rfl, .inr (SqT.of (hid_le _ _ a)), h1, h2, h3⟩
  · exact h.elim
theorem de_minD (hu : X.A.units + 64 < cLine) (hc : X.calm = true) (hg : Gl X "min") (hm : X.mg "min" = none) (ha : PA X [e] (denA F fs)) (he : starEach [e] X.env = (false, eval e X.env) :: starEach [] X.env := by rfl) (hK : F.K = X.K := by rfl) : PE X (.Call (.Name "min" p) [e] [] pos) (denE F (fUn gMinD fs)) :=
  de_cb (cr_minD hc hu) (by rw [← hK]; exact cal_minD) hg hm (by decide +kernel) ha (he := he)
end

/-! sorted of a tuple of ints -/
section
variable {prog : Program} {w : World} {A : Around} {E : Value → Shared → Prop} {s : Shared}
open PySem.W
theorem collect_tup {l : Addr} {vs : List Value} {Q : List Value → Shared → Prop} (hl : s.heap.IsTuple l vs.toArray) (hsz : vs.length ≤ sizeLine)
    (h : Q vs { s with heap := (s.heap.push (seqObj "list" #[] 0)).update s.heap.objs.size (Obj.mapSeq (· ++ vs.toArray)) }) :
    wpAny (model prog w) A (collect (.ref l)) Q E s := by
  obtain ⟨o, ho, hc, n, hd⟩ := id hl
  unfold collect
  refine wpAny_bind (wpAny_runValue (codeAny_builtin entry_proto_collect' ?_))
  refine (show wpAny _ _ (do again (.builtin "list.__iadd__" ⟨[← newList [], .ref l], []⟩)) _ _ s from ?_)
  refine wpAny_bind (wpAny_newList (wpAny_pure ⟨Code.quiet_builtin _ (by decide +kernel), codeAny_builtin entry_list_iadd' ?_⟩))
  refine (show wpAny _ _ (Builtin.List.listExtendWith (.ref s.heap.objs.size) (.ref l) (.ref s.heap.objs.size)) _ _ { s with heap := s.heap.push (seqObj "list" #[] 0) } from ?_)
  unfold Builtin.List.listExtendWith
  have hT : (s.heap.push (seqObj "list" #[] 0)).get? l = some o := Heap.get?_push_of_some _ ho
  refine wpAny_bind (wpAny_typeOf (T := "tuple") ⟨o, hT, hc⟩ ?_)
  have tt : (Value.type "tuple" == Value.type "tuple") = true := by rfl
  rw [if_pos (by rw [tt]; simp)]
  refine wpAny_bind (listItems_at hT hd ?_)
  refine wpAny_bind (listItems_at (n := 0) (xs := #[]) (Heap.get?_push_size _ rfl) rfl ?_)
  rw [if_neg (by simp)]
  refine wpAny_bind (listUpdate_at (n := 0) (xs := #[]) (Heap.get?_push_size _ rfl) rfl ?_ (Nat.zero_le _) (by
        have z : ((#[] : Array Value) ++ vs.toArray).size = vs.length := by simp
        exact Nat.le_trans (Nat.le_of_eq z) (by omega)))
  refine wpAny_pure ?_
  refine (show wpAny (model prog w) A (do
      let o ← load s.heap.objs.size
      match o.data with
      | .seq xs _ => pure xs.toList
      | _ => unsupported "internal:collect") Q E { s with heap := (s.heap.push (seqObj "list" #[] 0)).update s.heap.objs.size (Obj.mapSeq (· ++ vs.toArray)) } from ?_)
  refine wpAny_bind (wpAny_load (get?_update_seq (Heap.get?_push_size _ rfl) _) ?_)
  refine (show wpAny _ _ (pure ((#[] : Array Value) ++ vs.toArray).toList) Q E _ from ?_)
  rw [show ((#[] : Array Value) ++ vs.toArray).toList = vs by simp]
  exact wpAny_pure h
theorem sorted_tup {l : Addr} {vs : List Value} {lt : Value → Value → Bool} {Q : Value → Shared → Prop} (O : SrtO.Swo lt) (hl : s.heap.IsTuple l vs.toArray) (hz : vs.length ≤ sizeLine)
    (hS : 2 ≤ vs.length → ∀ (h₁ : Heap) (a : Addr), h₁.get? a = some (seqObj "list" vs.toArray 0) → (∀ b o, s.heap.get? b = some o → b ≠ a ∧ h₁.get? b = some o) → SrtO.SortableO prog w A.in1.in1 { s with heap := h₁ } a vs lt)
    (h : ∀ out : List Value, SrtO.Srtd lt out → SrtO.Stb lt out vs → Q (.ref (s.heap.objs.size + 1)) { s with heap := sortedAll s.heap vs out.toArray }) :
    wpAny (model prog w) A (call (.builtin "sorted") [.ref l]) Q E s := by
  refine Calls.call_function_entry kind_sorted plain_sorted entry_sorted (args_sorted1 _) ?_
  unfold Builtin.«sorted»
  refine wpAny_bind (m := checkCount "sorted" 1 1 _) (wpAny_pure (wpAny_bind (collect_tup hl hz (wpAny_bind (wpAny_newList ?_ hz)))))
  have size1 : ((s.heap.push (seqObj "list" #[] 0)).update s.heap.objs.size (Obj.mapSeq (· ++ vs.toArray))).objs.size = s.heap.objs.size + 1 := by rw [Heap.size_update, size_push']
  have at1 : (((s.heap.push (seqObj "list" #[] 0)).update s.heap.objs.size (Obj.mapSeq (· ++ vs.toArray))).push (seqObj "list" vs.toArray 0)).get? (s.heap.objs.size + 1) = some (seqObj "list" vs.toArray 0) := by
    have := Heap.get?_push_size ((s.heap.push (seqObj "list" #[] 0)).update s.heap.objs.size (Obj.mapSeq (· ++ vs.toArray))) (o := seqObj "list" vs.toArray 0) rfl
    rwa [size1] at this
  have old : ∀ b o, s.heap.get? b = some o → b ≠ s.heap.objs.size + 1 ∧ (((s.heap.push (seqObj "list" #[] 0)).update s.heap.objs.size (Obj.mapSeq (· ++ vs.toArray))).push (seqObj "list" vs.toArray 0)).get? b = some o := fun b o q => by
    have lt1 : b < s.heap.objs.size := Heap.lt_size q
    refine ⟨Nat.ne_of_lt (Nat.lt_succ_of_lt lt1), Heap.get?_push_of_some _ ?_⟩
    rw [Heap.get?_update_ne _ _ _ _ (Nat.ne_of_lt lt1)]
    exact Heap.get?_push_of_some _ q
  refine (show wpAny _ _ _ _ _ { s with heap := ((s.heap.push (seqObj "list" #[] 0)).update s.heap.objs.size (Obj.mapSeq (· ++ vs.toArray))).push (seqObj "list" vs.toArray 0) } from ?_)
  rw [size1]
  exact wpAny_bind (wpAny_holding (wpAny_call_entry slot_list_sort ⟨_, at1, rfl⟩ entry_list_sort (SrtO.list_sort_ord O at1 hz (fun h2 => hS h2 _ _ at1 old) fun out hs hb => ⟨_, rfl, wpAny_pure ⟨_, rfl, h out hs hb⟩⟩) (args_list_sort _)))
end
def rSortedTu (K : PySem.W.Frag) : List V → Hp → VK → Prop := fun vs H Q => ∃ (a : Addr) (ns : List Int), vs = [V.ref a] ∧ SqT K H a (ns.map V.int) ∧
  ∀ (ns' : List Int) (p : Addr), ns'.Perm ns → ns'.Pairwise (· ≤ ·) → H p = none → Q (.ref p) (upd H p (.lst (ns'.map V.int)))
theorem cr_sortedTu {X : Cx} : CallR X (.builtin "sorted") (rSortedTu X.K) := by
  intro pins s σ H vs us Q I r h
  obtain ⟨a, ns, rfl, hs, q⟩ := h
  obtain ⟨its, rv, hl, hz⟩ := I.tuple hs
  rw [Vals.ref1 r]
  have hi := rv.ints
  refine sorted_tup SrtO.swo_int hl (by rw [← rv.length]; exact hz) (fun h2 h₁ a' _ _ => SrtO.ints_sortable hi h2) fun out h1 h2 => ?_
  obtain ⟨k1, k2, k3⟩ := SrtO.ints_out hi h1 h2
  obtain ⟨ep, he'⟩ := PyProof.Rows.sortedAll_at s.heap its out.toArray
  have len1 : ((out.map SrtO.iv).map V.int).length ≤ sizeLine := by
    rw [List.length_map] at hz ⊢
    rw [k2.length_eq]
    exact hz
  refine ⟨.ref _, upd H (s.heap.objs.size + 1) (.lst ((out.map SrtO.iv).map V.int)), I.laid (t' := s.toks) (fun _ _ => PyProof.Rows.sortedAll_old) (Nat.le_succ _) ?_, rfl, q _ _ k2 k3 (I.hok.fresh (Nat.le_succ _))⟩
  exact ⟨len1, out, ep, vals_of_ints k1, he'⟩
def gSorted2 : List D → Store → R (List D)
  | [.tup xs], S => match ints? xs with
    | some ns => .ok ((sortI ns).map .int) S
    | _ => .no
  | ds, S => gSorted ds S
section
variable {F : Fm} {X : Cx} {e : Expr} {fs : Fn (List D)} {pos p : Pos}
theorem cal_sorted2 : CalX F (fun vs H Q => rSortedI F.K vs H Q ∨ rSortedTu F.K vs H Q) gSorted2 := by
  intro W H σ ds vs Q es S' ok r he h
  unfold gSorted2 at he
  split at he
  · split at he
    · rename_i hi
      cases he
      cases r with
      | cons r1 r2 =>
        cases r2
        cases r1 with
        | tup a b =>
          rw [ints_eq hi] at b
          obtain rfl := b.ints
          refine .inr ⟨_, _, rfl, SqT.of (hid_le _ _ a), fun ns' p hp hs hn => ?_⟩
          obtain rfl := sortI_is hp hs
          exact h p _ hn (Reps.ofInts _)
    · cases he
  · exact .inl (cal_sorted _ _ σ _ _ Q _ _ ok r he h)
theorem dx_sorted2 (hg : Gl X "sorted") (hm : X.mg "sorted" = none) (ha : PA X [e] (denA F fs)) (he : starEach [e] X.env = (false, eval e X.env) :: starEach [] X.env := by rfl) (hK : F.K = X.K := by rfl) : PE X (.Call (.Name "sorted" p) [e] [] pos) (denX F (fCx gSorted2 fs)) :=
  (pe_callB (cr_sortedI.or cr_sortedTu) hg hm (by decide +kernel) ha (he := he)).imp fun _ _ _ h => den_cx (by rw [← hK]; exact cal_sorted2) h
end
end Bx

namespace Bx
open PySem PyProof.Rows L2

/-! ### raise X(e, ..), X with an own __init__ that stores its arguments -/
def spE (K : PySem.W.Frag) (fs : List Str) : Sp := fun vs H Q E => ∃ (a C : Addr) (ys : List V), vs = .ref a :: ys ∧ ys.length = fs.length ∧ H a = some (exo a C none) ∧ OexC K C ∧ (∀ f ∈ fs, PySem.W.findIn K (.ref C) f = some none) ∧
  ∀ dx, H dx = none → dx ≠ a → Q .non (upd (upd H dx (exd dx (fs.zip ys).reverse)) a (exo a C (some dx)))
theorem len1 {α : Type} {l : List α} (h : l.length = 1) : ∃ a, l = [a] := List.length_eq_one_iff.mp h
theorem len2 {α : Type} {l : List α} (h : l.length = 2) : ∃ a b, l = [a, b] := by
  match l, h with
  | [a, b], _ => exact ⟨a, b, rfl⟩
section
variable {P : Program} {w : World} {K : PySem.W.Frag} {mg : Str → Option Value} {base : Heap}
theorem ok_E1 {x qual f a1 : Str} {st : Stmt} {fa : Addr} {fd : FuncData} (Fn : Fun K x qual st fa fd) (S : FnScope ["self", a1] ["self", a1] (defScope st))
    (hb : ∀ (cdv : Value) (A : Around) (outer : List Env) (s : Shared) (H : Hp) (E : XK), PSs (cxOf (L2N.CX P w) P w K mg base ["self", a1] qual (defScope st) fa cdv A outer s H E) (defBody st) (tOst K f (tVar 0) (tVar 1))) :
    FnOk P w K mg base (L2N.CX P w) 1 fa fd ["self", a1] (spE K [f]) := by
  refine Fn.okXN S (fun vs H Q E h => ?_) (fun cdv A outer s H vs Q E hr h => ?_)
  · obtain ⟨a, C, ys, rfl, hl, _⟩ := h
    simp at hl ⊢
    exact hl
  · obtain ⟨a, C, ys, rfl, hl, ha, o, hno, q⟩ := h
    obtain ⟨y, rfl⟩ := len1 hl
    exact ⟨_, hb cdv A outer s H E, y, rfl, .ref a, rfl, a, C, rfl, o, hno f (by simp), .inl ⟨ha, fun dx n ne => q dx n ne⟩⟩
theorem ok_E2 {x qual f1 f2 a1 a2 : Str} {st : Stmt} {fa : Addr} {fd : FuncData} (Fn : Fun K x qual st fa fd) (S : FnScope ["self", a1, a2] ["self", a1, a2] (defScope st))
    (hb : ∀ (cdv : Value) (A : Around) (outer : List Env) (s : Shared) (H : Hp) (E : XK), PSs (cxOf (L2N.CX P w) P w K mg base ["self", a1, a2] qual (defScope st) fa cdv A outer s H E) (defBody st) (fun D σ H => tOst K f1 (tVar 0) (tVar 1) { D with nx := fun σ H => tOst K f2 (tVar 0) (tVar 2) D σ H } σ H)) :
    FnOk P w K mg base (L2N.CX P w) 1 fa fd ["self", a1, a2] (spE K [f1, f2]) := by
  refine Fn.okXN S (fun vs H Q E h => ?_) (fun cdv A outer s H vs Q E hr h => ?_)
  · obtain ⟨a, C, ys, rfl, hl, _⟩ := h
    simp at hl ⊢
    exact hl
  · obtain ⟨a, C, ys, rfl, hl, ha, o, hno, q⟩ := h
    obtain ⟨y, z, rfl⟩ := len2 hl
    refine ⟨_, hb cdv A outer s H E, y, rfl, .ref a, rfl, a, C, rfl, o, hno f1 (by simp), .inl ⟨ha, fun dx n ne => ?_⟩⟩
    refine ⟨z, rfl, .ref a, rfl, a, C, rfl, o, hno f2 (by simp), .inr ⟨dx, [(f1, y)], upd_same, by rw [upd_ne ne, upd_same], by simp, ?_⟩⟩
    have e : upd (upd (upd H dx (exd dx [(f1, y)])) a (exo a C (some dx))) dx (exd dx ((f2, z) :: [(f1, y)])) = upd (upd H dx (exd dx (([f1, f2].zip [y, z]).reverse))) a (exo a C (some dx)) := by
      funext b
      by_cases e1 : b = dx
      · subst e1
        rw [upd_same, upd_ne ne, upd_same]
        rfl
      · rw [upd_ne e1]
        by_cases e2 : b = a
        · subst e2
          rw [upd_same, upd_same]
        · rw [upd_ne e2, upd_ne e2, upd_ne e1, upd_ne e1]
    rw [e]
    exact q dx n ne
end
/-- an exception class whose __init__ stores its arguments in these fields -/
def ExaOk (P : Program) (w : World) (K : PySem.W.Frag) (mg : Str → Option Value) (base : Heap) (x : Str) (fs : List Str) : Prop :=
  ∃ (C fI : Addr) (fd : FuncData) (ps : List Str), mg x = some (.ref C) ∧ OexC K C ∧ PySem.W.findIn K (.ref C) "__init__" = some (some (.ref fI)) ∧ PySem.W.isFn K (.ref fI) = true ∧ FnOk P w K mg base (L2N.CX P w) 1 fI fd ps (spE K fs) ∧ Binds K fd ps [] ∧ ∀ f ∈ fs, PySem.W.findIn K (.ref C) f = some none
@[simp] def sRaiseA (x : Str) (ns : List Str) (f : Fn (List D)) : Stm := liftE f fun ds ρ S => if ds.length = ns.length then .mk (.xr ⟨x, some (ns.zip ds).reverse⟩ ρ) S else .no
theorem rev_fst {α β γ : Type} : ∀ {xs : List α} {ys : List β} {zs : List γ}, xs.length = ys.length → ys.length = zs.length → ((xs.zip ys).reverse.map (·.1)).zip zs.reverse = (xs.zip zs).reverse ∧ (xs.zip ys).reverse.map (·.2) = ys.reverse := by
  intro xs ys zs h1 h2
  constructor
  · rw [List.map_reverse, List.map_fst_zip (by omega)]
    induction xs generalizing ys zs with
    | nil => simp
    | cons x xs ih =>
      cases ys with
      | nil => simp at h1
      | cons y ys =>
        cases zs with
        | nil => simp at h2
        | cons z zs =>
          have h1 : xs.length = ys.length := by simpa using h1
          have h2 : ys.length = zs.length := by simpa using h2
          rw [List.reverse_cons, List.reverse_cons, List.zip_cons_cons, List.reverse_cons, zip_snoc (by simp; omega), ih h1 h2]
  · rw [List.map_reverse, List.map_snd_zip (by omega)]
section
variable {X : Cx} {F : Fm} {e : Expr} {es : List Expr} {fs : Fn (List D)} {pos pos' p : Pos} {x : Str} {ns : List Str}
theorem ds_raiseA (G : ExaOk X.prog X.w X.K X.mg X.base x ns) (hn : ns.length ≤ 2) (hr : Room 2 X.A) (hc : X.calm = true) (tk : L2N.Takes X F.wish) (hg : Gl X x) (ha : PA X (e :: es) (denA F fs)) (hmg : F.mg = X.mg := by rfl)
    (hdb : (x == ("__debug__" : Str)) = false := by decide) (he : starEach (e :: es) X.env = (false, eval e X.env) :: starEach es X.env := by rfl) (hpl : (backTo pos (starEach es X.env)).any (·.1) = false := by rfl) :
    PS X (.Raise (some (.Call (.Name x p) (e :: es) [] pos)) none pos') (denS F (sRaiseA x ns fs)) := by
  obtain ⟨C, fI, fd, ps, g, o, iC, tI, F1, hb, hno⟩ := G
  have tI : PySem.W.typeIn X.K (.ref fI) = some (.type "function") := by simpa [PySem.W.isFn] using tI
  refine (L2N.ps_raise hc tk (pmk_oexN (CX := L2N.CX X.prog X.w) o iC tI F1 hr hb .nil passLN hg g ha hdb he hpl)).imp fun En σ H ⟨ρ, W, I, q⟩ => ⟨ρ, W, I, PostS.bind I q fun ds vs H1 W1 gr ok r q1 => ?_⟩
  split at q1
  · rename_i hl
    have hvl := r.len
    refine ⟨by omega, fun a ha1 => ⟨a, C, vs, by simp, by omega, upd_same, o, hno, fun dx hdx ne => ⟨rfl, dx, (ns.zip vs).reverse, upd_same, by rw [upd_ne ne, upd_same], ?_, ?_⟩⟩⟩
    · rwa [upd_ne ne] at hdx
    · rw [upd_ne ne] at hdx
      have eh : upd (del (upd (upd (upd H1 a (exo a C none)) dx (exd dx (ns.zip vs).reverse)) a (exo a C (some dx))) a) dx (.xd (ns.zip vs).reverse) = upd H1 dx (.xd (ns.zip vs).reverse) := by
        funext b
        by_cases e1 : b = dx
        · subst e1
          rw [upd_same, upd_same]
        · rw [upd_ne e1, upd_ne e1]
          by_cases e2 : b = a
          · subst e2
            rw [del_same, ha1]
          · rw [del_ne e2, upd_ne e2, upd_ne e1, upd_ne e2]
      rw [eh]
      have sm : Same H1 (upd H1 dx (.xd (ns.zip vs).reverse)) := same_new hdx
      obtain ⟨z1, z2⟩ := rev_fst (zs := vs) hl.symm hvl
      refine q1 _ _ σ _ W1 rfl ((I.go gr ok).go (Gr.same sm) (ok.same sm)) (Gr.same sm).s ⟨C, by rw [hmg]; exact g, rfl, dx, vs.reverse, rfl, ?_, ?_⟩
      · show hid W1.M _ dx = some (.xd (((ns.zip ds).reverse.map (·.1)).zip vs.reverse))
        rw [z1]
        exact hid_new ok hdx
      · show F.reps W1 _ ((ns.zip ds).reverse.map (·.2)) vs.reverse
        rw [z2]
        exact reps_new hdx r.reverse
  · exact q1.elim
end

/-! ### except X as e -/
def notEx : Sl → Bool
  | .ex _ => false
  | _ => true
def undoX (i : Nat) : SR → SR
  | .mk (.nx ρ) S => if (ρ.set i .un).all notEx then .mk (.nx (ρ.set i .un)) S else .no
  | .mk (.bk ρ) S => if (ρ.set i .un).all notEx then .mk (.bk (ρ.set i .un)) S else .no
  | .mk (.ct ρ) S => if (ρ.set i .un).all notEx then .mk (.ct (ρ.set i .un)) S else .no
  | .mk (.rt d) S => .mk (.rt d) S
  | _ => .no
def sTryAs (body : Stm) (i : Nat) (tab : List (Str × Bool)) (g : Stm) : Stm := fun ρ S => match body ρ S with
  | .mk (.xr x ρ1) S1 => (match tab.lookup x.cls with
    | some true => undoX i (g (ρ1.set i (.ex x)) S1)
    | some false => .mk (.xr x ρ1) S1
    | none => .no)
  | r => r
abbrev Fm.we (F : Fm) (a : Addr) (cls : Value) (d : Option Addr) : Fm := { F with exc := some (a, cls, d) }
section
variable {F : Fm} {W : Wd} {H : Hp} {σ : L2.St} {ρ : Rho} {a : Addr} {cls : Value} {d : Option Addr} {i : Nat} {x : Exc}
theorem EnvOk.setEx (e : EnvOk F W H σ ρ) (hx : F.exc = none) (r : ERep F W H x cls d) : EnvOk (F.we a cls d) W H (σ.set i (some (.ref a))) (ρ.set i (.ex x)) where
  len := by rw [List.length_set, List.length_set, e.len]
  fz := fun j d' h => by
    by_cases z : i = j
    · subst z
      by_cases hi : i < ρ.length
      · rw [List.getElem?_set_self hi] at h
        cases h
      · rw [List.set_eq_of_length_le (by omega)] at h
        rw [List.set_eq_of_length_le (by rw [← e.len]; omega)]
        exact e.fz i d' h
    · rw [List.getElem?_set_ne z] at h ⊢
      exact e.fz j d' h
  ow := fun j d' h => by
    by_cases z : i = j
    · subst z
      by_cases hi : i < ρ.length
      · rw [List.getElem?_set_self hi] at h
        cases h
      · rw [List.set_eq_of_length_le (by omega)] at h
        rw [List.set_eq_of_length_le (by rw [← e.len]; omega)]
        exact e.ow i d' h
    · rw [List.getElem?_set_ne z] at h ⊢
      exact e.ow j d' h
  dj := fun j k ds es p h1 h2 h3 h4 => by
    by_cases hi : i < ρ.length
    · by_cases z : i = j
      · subst z
        rw [List.getElem?_set_self hi] at h1
        cases h1
      · by_cases z2 : i = k
        · subst z2
          rw [List.getElem?_set_self hi] at h2
          cases h2
        · rw [List.getElem?_set_ne z] at h1 h3
          rw [List.getElem?_set_ne z2] at h2 h4
          exact e.dj j k ds es p h1 h2 h3 h4
    · rw [List.set_eq_of_length_le (by omega)] at h1 h2
      rw [List.set_eq_of_length_le (by rw [← e.len]; omega)] at h3 h4
      exact e.dj j k ds es p h1 h2 h3 h4
  nw := fun j c ns xs h => by
    by_cases z : i = j
    · subst z
      by_cases hi : i < ρ.length
      · rw [List.getElem?_set_self hi] at h
        cases h
      · rw [List.set_eq_of_length_le (by omega)] at h
        rw [List.set_eq_of_length_le (by rw [← e.len]; omega)]
        exact e.nw i c ns xs h
    · rw [List.getElem?_set_ne z] at h ⊢
      exact e.nw j c ns xs h
  ex := fun j y h => by
    have no : ∀ (k : Nat) (z : Exc), ρ[k]? = some (Sl.ex z) → False := fun k z hk => by
      obtain ⟨_, _, _, q, _⟩ := e.ex k z hk
      rw [hx] at q
      cases q
    by_cases z : i = j
    · subst z
      by_cases hi : i < ρ.length
      · rw [List.getElem?_set_self hi] at h
        cases h
        exact ⟨a, cls, d, rfl, by rw [List.getElem?_set_self (by rw [← e.len]; exact hi)], r⟩
      · rw [List.set_eq_of_length_le (by omega)] at h
        exact (no _ _ h).elim
    · rw [List.getElem?_set_ne z] at h
      exact (no _ _ h).elim
  tk := e.tk
theorem EnvOk.unset (e : EnvOk (F.we a cls d) W H σ ρ) (h : (ρ.set i .un).all notEx = true) : EnvOk F W H (σ.set i none) (ρ.set i .un) where
  len := by rw [List.length_set, List.length_set]; exact e.len
  fz := fun j d' h => by
    by_cases z : i = j
    · subst z
      by_cases hi : i < ρ.length
      · rw [List.getElem?_set_self hi] at h
        cases h
      · rw [List.set_eq_of_length_le (by omega)] at h
        rw [List.set_eq_of_length_le (by rw [← e.len]; omega)]
        exact e.fz i d' h
    · rw [List.getElem?_set_ne z] at h ⊢
      exact e.fz j d' h
  ow := fun j d' h => by
    by_cases z : i = j
    · subst z
      by_cases hi : i < ρ.length
      · rw [List.getElem?_set_self hi] at h
        cases h
      · rw [List.set_eq_of_length_le (by omega)] at h
        rw [List.set_eq_of_length_le (by rw [← e.len]; omega)]
        exact e.ow i d' h
    · rw [List.getElem?_set_ne z] at h ⊢
      exact e.ow j d' h
  dj := fun j k ds es p h1 h2 h3 h4 => by
    by_cases hi : i < ρ.length
    · by_cases z : i = j
      · subst z
        rw [List.getElem?_set_self hi] at h1
        cases h1
      · by_cases z2 : i = k
        · subst z2
          rw [List.getElem?_set_self hi] at h2
          cases h2
        · rw [List.getElem?_set_ne z] at h1 h3
          rw [List.getElem?_set_ne z2] at h2 h4
          exact e.dj j k ds es p h1 h2 h3 h4
    · rw [List.set_eq_of_length_le (by omega)] at h1 h2
      rw [List.set_eq_of_length_le (by rw [← e.len]; omega)] at h3 h4
      exact e.dj j k ds es p h1 h2 h3 h4
  nw := fun j c ns xs h => by
    by_cases z : i = j
    · subst z
      by_cases hi : i < ρ.length
      · rw [List.getElem?_set_self hi] at h
        cases h
      · rw [List.set_eq_of_length_le (by omega)] at h
        rw [List.set_eq_of_length_le (by rw [← e.len]; omega)]
        exact e.nw i c ns xs h
    · rw [List.getElem?_set_ne z] at h ⊢
      exact e.nw j c ns xs h
  ex := fun j y hj => by
    have := List.all_eq_true.mp h _ (List.mem_of_getElem? hj)
    cases this
  tk := e.tk
theorem IF.setEx (I : IF F W H σ ρ) (hx : F.exc = none) (r : ERep F W H x cls d) : IF (F.we a cls d) W H (σ.set i (some (.ref a))) (ρ.set i (.ex x)) := ⟨I.ok, I.gr, I.env.setEx hx r⟩
theorem IF.unset (I : IF (F.we a cls d) W H σ ρ) (h : (ρ.set i .un).all notEx = true) : IF F W H (σ.set i none) (ρ.set i .un) := ⟨I.ok, I.gr, I.env.unset h⟩
theorem undo_post {En : Ends} {r : SR} (q : PostS F En W H (undoX i r)) : PostS (F.we a cls d) { nx := fun σ' H' => En.nx (σ'.set i none) H', rt := En.rt, bk := fun σ' H' => En.bk (σ'.set i none) H', ct := fun σ' H' => En.ct (σ'.set i none) H' } W H r := by
  match r, q with
  | .mk (.nx ρ2) S, q =>
    have q : PostS F En W H (if (ρ2.set i .un).all notEx = true then .mk (.nx (ρ2.set i .un)) S else .no) := q
    by_cases h : (ρ2.set i .un).all notEx = true
    · rw [if_pos h] at q
      exact fun σ' H' W' e I g => q _ H' W' e (I.unset h) g
    · rw [if_neg h] at q
      exact q.elim
  | .mk (.bk ρ2) S, q =>
    have q : PostS F En W H (if (ρ2.set i .un).all notEx = true then .mk (.bk (ρ2.set i .un)) S else .no) := q
    by_cases h : (ρ2.set i .un).all notEx = true
    · rw [if_pos h] at q
      exact fun σ' H' W' e I g => q _ H' W' e (I.unset h) g
    · rw [if_neg h] at q
      exact q.elim
  | .mk (.ct ρ2) S, q =>
    have q : PostS F En W H (if (ρ2.set i .un).all notEx = true then .mk (.ct (ρ2.set i .un)) S else .no) := q
    by_cases h : (ρ2.set i .un).all notEx = true
    · rw [if_pos h] at q
      exact fun σ' H' W' e I g => q _ H' W' e (I.unset h) g
    · rw [if_neg h] at q
      exact q.elim
  | .mk (.rt dd) S, q => exact fun v H' W' e ok g r => q v H' W' e ok g r
  | .mk (.xr y ρ2) S, q => exact (show False from q).elim
  | .no, q => exact (show False from q).elim
end
section
variable {X : Cx} {F : Fm} {body suite : List Stmt} {b₀ : Stmt} {c n : Str} {B : Addr} {i : Nat} {tab : List (Str × Bool)} {pos pos' np : Pos} {g gh : Stm}
theorem ds_tryAs (hst : X.stack = X.env :: X.outer) (hf : X.env.frame = some X.env.locals) (hN : X.N.Nodup) (hi : X.N[i]? = some n) (hln : X.env.kindOf n = some .local) (tk : L2N.Takes X F.wish) (hx : F.exc = none)
    (hc : Gl X c) (hd : (c == ("__debug__" : Str)) = false) (hm : X.mg c = some (.ref B)) (ht : ∀ y b, tab.lookup y = some b → SubAt X.K X.mg y c b)
    (hb : ∀ (W : WX) (pn : List (Addr × Obj)) (xe : Value → Shared → Prop), L2N.Takes (X.tr pn xe) W → PassesOwn (model X.prog X.w) X.A X.env xe → PSs (X.tr pn xe) body (denS (F.wi W) g))
    (hsu : ∀ (a : Addr) (oe : Obj) (cls : Value) (d : Option Addr) (pn : List (Addr × Obj)), L2N.Zn cls d oe → (∃ vs, oe.data = .fields vs) → PSs (X.suite a ((a, oe) :: pn)) (b₀ :: suite) (denS (F.we a cls d) gh))
    (hmg : F.mg = X.mg := by rfl) : PS X (.Try body [.ExceptHandler (some (.Name c np)) (some n) (b₀ :: suite) pos'] [] [] pos) (denS F (sTryAs g i tab gh)) :=
  (L2N.ps_try_as hst hf hN hi hln ⟨hc, hd, .inl hm⟩ tk hb hsu).imp fun En σ H ⟨ρ, W, I, q⟩ => by
    refine ⟨ρ, W, I.wi _, ?_⟩
    unfold sTryAs at q
    revert q
    match g ρ W.S with
    | .mk (.nx ρ1) S => exact fun q σ' H' W' e I' g' => q σ' H' W' e I'.iw g'
    | .mk (.bk ρ1) S => exact fun q σ' H' W' e I' g' => q σ' H' W' e I'.iw g'
    | .mk (.ct ρ1) S => exact fun q σ' H' W' e I' g' => q σ' H' W' e I'.iw g'
    | .mk (.rt d) S => exact fun q => q
    | .mk (.xr x ρ1) S =>
      intro q cls dd σ' H' W' e I' g' r
      have q : PostS F En W H (match tab.lookup x.cls with | some true => undoX i (gh (ρ1.set i (.ex x)) S) | some false => .mk (.xr x ρ1) S | none => .no) := q
      cases hl : tab.lookup x.cls with
      | none => rw [hl] at q; exact q.elim
      | some b =>
        rw [hl] at q
        obtain ⟨A, B', e1, e2, e3⟩ := ht _ _ hl
        rw [hm] at e2
        cases e2
        have r0 : ERep F W' H' x cls dd := r
        obtain ⟨C, h1, h2, h3⟩ := r
        have h1 : F.mg x.cls = some (.ref C) := h1
        rw [hmg, e1] at h1
        cases h1
        subst h2
        refine ⟨b, e3, fun hb a ha => ?_, fun hb => ?_⟩
        · subst hb
          exact ⟨_, W', I'.iw.setEx hx r0, by rw [e]; exact undo_post (PostS.weaken g' q)⟩
        · subst hb
          exact q _ _ _ _ _ e I'.iw g' r0
    | .no => exact fun q => q
end

/-! ### what a caught error holds -/
@[simp] def fXf (i : Nat) (cn n : Str) : Fn D := fun ρ S => match ρ[i]? with
  | some (.ex x) => if x.cls = cn then (match x.fld with
    | some fs => (match fs.lookup n with
      | some d => .ok d S
      | none => .no)
    | none => .no) else .no
  | _ => .no
theorem zip_fs {α β : Type} : ∀ fs : List (α × β), (fs.map (·.1)).zip (fs.map (·.2)) = fs
  | [] => rfl
  | p :: fs => by simp [zip_fs fs]
section
variable {X : Cx} {F : Fm} {a C : Addr} {oe : Obj} {cls : Value} {d : Option Addr} {pn : List (Addr × Obj)} {e : Expr} {pos : Pos} {n cn : Str} {i : Nat}
theorem de_xf (T : XfC X.K C) (hno : PySem.W.findIn X.K (.ref C) n = some none) (hC : F.mg cn = some (.ref C)) (hz : L2N.Zn cls d oe) (hf : ∃ vs, oe.data = .fields vs) (he : PE (X.suite a ((a, oe) :: pn)) e (tVar i)) (hb : attributeBase e n X.env (eval e X.env) = eval e X.env := by rfl) :
    PE (X.suite a ((a, oe) :: pn)) (.Attribute e n pos) (denE (F.we a cls d) (fXf i cn n)) := (pe_xf T hno hz.zc hf he hb).imp fun σ H Q ⟨ρ, W, I, q⟩ => by
  unfold fXf at q
  split at q
  · rename_i x hρ
    split at q
    · rename_i hcn
      split at q
      · rename_i fs hfs
        split at q
        · rename_i dd hl
          obtain ⟨a', cls', d', e1, e2, e3⟩ := I.env.ex _ _ hρ
          cases e1
          obtain ⟨C', h1, h2, h3⟩ := e3
          have h1 : F.mg x.cls = some (.ref C') := h1
          rw [hcn, hC] at h1
          cases h1
          rw [hfs] at h3
          obtain ⟨dx, vs, k1, k2, k3⟩ := h3
          have hl2 : ((fs.map (·.1)).zip (fs.map (·.2))).lookup n = some dd := by rw [zip_fs]; exact hl
          obtain ⟨v, v1, v2⟩ := zip_look n k3 hl2
          exact ⟨_, e2, rfl, h2, dx, _, v, k1, hid_le _ _ k2, v1, q.val I.ok v2⟩
        · exact q.elim
      · exact q.elim
    · exact q.elim
  · exact q.elim
end

/-! ### isinstance of a caught error -/
def rIsE2 (K : PySem.W.Frag) (a : Addr) (cls : Value) (d : Option Addr) : List V → Hp → VK → Prop := fun xs H Q => ∃ (D B : Addr) (b : Bool), xs = [.ref a, .ref B] ∧ cls = .ref D ∧ ExcC K D ∧ PySem.W.kitOne K (.ref D) (.ref B) = some b ∧ (d = none ∨ ∃ (dx : Addr) (fs : List (Str × V)), d = some dx ∧ H dx = some (.xd fs)) ∧ Q (.bl b) H
theorem cr_isE2 {X : Cx} {a : Addr} {cls : Value} {d : Option Addr} {oe : Obj} {pn : List (Addr × Obj)} (hz : Zc cls d oe) (hf : ∃ vs, oe.data = .fields vs) : CallR (X.suite a ((a, oe) :: pn)) (.builtin "isinstance") (rIsE2 X.K a cls d) := by
  intro pins s σ H xs us Q I r h
  obtain ⟨D, B, b, rfl, rfl, C, e, hd, q⟩ := h
  cases r with
  | cons rx rr =>
    cases rr with
    | cons rt rr =>
      cases rr
      cases rx
      cases rt
      obtain ⟨hget, _⟩ := I.pin (a, oe) (List.mem_append.mpr (.inl List.mem_cons_self))
      obtain ⟨vs, hv⟩ := hf
      obtain ⟨od, J⟩ : ∃ od, PySem.W.InstAt s.heap a oe D od := by
        rcases hd with hd | ⟨dx, fs, hd, hx⟩
        · obtain ⟨oc, od, oda, osl⟩ := oe
          obtain ⟨h1, h2⟩ := hz
          dsimp only at h1 h2 hv
          subst h1 h2 hv hd
          exact ⟨none, hget, rfl, rfl, trivial⟩
        · have hok : ObjOk X.prog X.w H s.heap dx (.xd fs) := I.hok dx _ hx
          obtain ⟨mA, hns, hr⟩ := hok
          obtain ⟨od, ho, hl⟩ := lookIn_ns hns
          exact ⟨some od, hget, hz.1, by unfold PySem.W.notCls; rw [hv] <;> rfl, by rw [hz.2, hd]; exact ho⟩
      have hcl : (PySem.W.clsIn X.K D).isSome = true := by
        have := C.hd
        unfold PySem.W.hasDictIn at this
        cases hc : PySem.W.clsIn X.K D with
        | none => rw [hc] at this; simp at this
        | some c => rfl
      exact PySem.W.kia_one (PySem.W.kitx_exc hcl C.hg C.hk C.hs C.ha C.hn C.ht C.hm) I.kIn J e (fun z => nomatch z) fun tk => ⟨.bl b, H, I.kept (t' := tk) fun _ _ z => z, rfl, q⟩
/-- what the written part says of isinstance(an error of class x, c) -/
def IsAt (K : PySem.W.Frag) (mg : Str → Option Value) (x c : Str) (b : Bool) : Prop := ∃ A B, mg x = some (.ref A) ∧ mg c = some (.ref B) ∧ ExcC K A ∧ PySem.W.kitOne K (.ref A) (.ref B) = some b
@[simp] def fIsE (i : Nat) (tab : List (Str × Bool)) : Fn D := fun ρ S => match ρ[i]? with
  | some (.ex x) => (match tab.lookup x.cls with
    | some b => .ok (.bl b) S
    | none => .no)
  | _ => .no
section
variable {X : Cx} {F : Fm} {a B : Addr} {oe : Obj} {cls : Value} {d : Option Addr} {pn : List (Addr × Obj)} {e nm : Expr} {p pos : Pos} {c : Str} {i : Nat} {tab : List (Str × Bool)}
theorem de_isE (hz : L2N.Zn cls d oe) (hf : ∃ vs, oe.data = .fields vs) (hg : Gl X "isinstance") (hm : X.mg "isinstance" = none) (hB : F.mg c = some (.ref B)) (ht : ∀ y b, tab.lookup y = some b → IsAt X.K F.mg y c b) (he : PE (X.suite a ((a, oe) :: pn)) e (tVar i)) (hN : PE (X.suite a ((a, oe) :: pn)) nm (tC (.ref B)))
    (h1 : starEach [e, nm] X.env = (false, eval e X.env) :: starEach [nm] X.env := by rfl) (h2 : starEach [nm] X.env = (false, eval nm X.env) :: starEach [] X.env := by rfl) (h3 : (backTo pos (starEach [nm] X.env)).any (·.1) = false := by rfl) :
    PE (X.suite a ((a, oe) :: pn)) (.Call (.Name "isinstance" p) [e, nm] [] pos) (denE (F.we a cls d) (fIsE i tab)) := by
  refine (pe_callB (cr_isE2 hz.zc hf) hg hm (by decide +kernel) (pa_cons he (pa_cons hN pa_nil h2) h1) (he := h1) (hpl := h3)).imp fun σ H Q ⟨ρ, W, I, q⟩ => ?_
  unfold fIsE at q
  split at q
  · rename_i x hρ
    split at q
    · rename_i b hl
      obtain ⟨a', cls', d', e1, e2, e3⟩ := I.env.ex _ _ hρ
      cases e1
      obtain ⟨C', k1, k2, k3⟩ := e3
      obtain ⟨A, B', i1, i2, i3, i4⟩ := ht _ _ hl
      have k1 : F.mg x.cls = some (.ref C') := k1
      rw [i1] at k1
      cases k1
      rw [hB] at i2
      cases i2
      refine ⟨_, e2, _, B, b, rfl, k2, i3, i4, ?_, q.val I.ok (.bl b)⟩
      cases hfl : x.fld with
      | none => rw [hfl] at k3; exact .inl k3
      | some fs =>
        rw [hfl] at k3
        obtain ⟨dx, vs, m1, m2, _⟩ := k3
        exact .inr ⟨dx, _, m1, hid_le _ _ m2⟩
    · exact q.elim
  · exact q.elim
end

theorem is_nil {K : PySem.W.Frag} {mg : Str → Option Value} {c : Str} : ∀ (y : Str) (b : Bool), ([] : List (Str × Bool)).lookup y = some b → IsAt K mg y c b := fun y b h => by cases h
theorem is_cons {K : PySem.W.Frag} {mg : Str → Option Value} {c x : Str} {b : Bool} {tab : List (Str × Bool)} (h : IsAt K mg x c b) (r : ∀ (y : Str) (b : Bool), tab.lookup y = some b → IsAt K mg y c b) : ∀ (y : Str) (b' : Bool), ((x, b) :: tab).lookup y = some b' → IsAt K mg y c b' := fun y b' e => by
  rw [List.lookup_cons] at e
  split at e
  · rename_i hy
    cases e
    have : y = x := by simpa using hy
    rw [this]
    exact h
  · exact r y b' e
/-! ### what the head hands in -/
def ExaTxt (K : PySem.W.Frag) (mg : Str → Option Value) (x qual : Str) (st : Stmt) (ps fs : List Str) : Prop :=
  ∃ C, mg x = some (.ref C) ∧ OexC K C ∧ MethAt K C "__init__" qual st ps ∧ (∀ f ∈ fs, PySem.W.findIn K (.ref C) f = some none) ∧ XfC K C
def oexD (C : Addr) (cd : ClassData) (sl : Array (Option Value)) : Bool := match cd.mro, sl.toList with
  | .ref C' :: bm, [_, _, _, _, some (.builtin n), _] => C' == C && n == "ValueError.__new__" && !cd.hasDel && cd.hasDict && PySem.HandSPX.refsVE bm
  | _, _ => false
theorem oex_mk {K : PySem.W.Frag} {C : Addr} {dd : Option Addr} {cd : ClassData} {sl : Array (Option Value)} (l : K.lookup C = some ⟨.type "type", dd, .cls cd, sl⟩) (q : oexD C cd sl = true)
    (sa : PySem.W.findIn K (.ref C) "__setattr__" = some (some (.builtin "object.__setattr__"))) (e : PySem.W.subIn K (.ref C) (.type "BaseException") = some true) (t : PySem.W.typeIn K (.ref C) = some (.type "type")) (k : PySem.W.keepIn K (.ref C) = true) : OexC K C := by
  refine ⟨?_, sa, e, t, k⟩
  unfold oexD at q
  split at q
  · rename_i C' bm k0 k1 k2 k3 n k5 hm hs
    simp only [Bool.and_eq_true, beq_iff_eq, Bool.not_eq_true'] at q
    obtain ⟨⟨⟨⟨rfl, rfl⟩, hdel⟩, hdi⟩, hr⟩ := q
    obtain ⟨nm, bs, mro, ns, qn, hd, sn, sub, ab, col, del⟩ := cd
    dsimp only at hm hdel hdi
    subst hm hdel hdi
    have hsl : sl = #[k0, k1, k2, k3, some (.builtin "ValueError.__new__"), k5] := by
      obtain ⟨l⟩ := sl
      simp only at hs
      rw [hs]
    subst hsl
    exact ⟨nm, qn, ns, bs, bm, sn, sub, ab, col, dd, k0, k1, k2, k3, k5, l, hr⟩
  · cases q
theorem all1 {α : Type} {P : α → Prop} {a : α} (h : P a) : ∀ x ∈ [a], P x := fun x hx => by
  simp at hx
  rw [hx]
  exact h
theorem all2 {α : Type} {P : α → Prop} {a b : α} (h : P a) (k : P b) : ∀ x ∈ [a, b], P x := fun x hx => by
  simp at hx
  rcases hx with e | e <;> rw [e] <;> assumption
theorem is_mk {K : PySem.W.Frag} {h : Heap} {mg : Str → Option Value} {x c : Str} {A B : Addr} {v : Bool} (X : K.In h) (G : h.Ns mainGlobals mg) (a : PySem.W.nsIn K mainGlobals x = some (some (.ref A))) (b : PySem.W.nsIn K mainGlobals c = some (some (.ref B)))
    (e : ExcC K A) (ic : PySem.W.isClsIn K B = true) (t : PySem.W.typeIn K (.ref B) = some (.type "type")) (s : PySem.W.subIn K (.ref A) (.ref B) = some v) (hv : A = B → v = true) : IsAt K mg x c v := by
  refine ⟨A, B, PySem.W.mg_of X G a, PySem.W.mg_of X G b, e, ?_⟩
  have ic : (PySem.W.clsIn K B).isSome = true := ic
  unfold PySem.W.kitOne
  by_cases z : A = B
  · rw [if_pos (by subst z; simp), hv z]
  · rw [if_neg (by simpa using z)]
    show (if ((PySem.W.clsIn K B).isSome && PySem.W.typeIn K (.ref B) == some (.type "type")) = true then PySem.W.subIn K (.ref A) (.ref B) else none) = some v
    rw [if_pos (by rw [ic, t]; rfl)]
    exact s
end Bx

namespace Bx
open PySem PyProof.Rows L2

/-! ### a def that a value names, called -/
section
variable {X : Cx} {F : Fm} {x : Str} {pos p : Pos} {fe e : Expr} {es : List Expr} {tf : TE} {t : TA} {kk : Nat} {E : L2.St → XK}
theorem de_fn (h : ∃ a, X.mg x = some (.ref a)) (hg : Gl X x) (hmg : F.mg = X.mg := by rfl) (hd : (x == ("__debug__" : Str)) = false := by decide) : PE X (.Name x pos) (denE F (fC (.fn x))) := by
  obtain ⟨a, h⟩ := h
  exact (pe_glob (v := .ref a) hg h rfl hd).imp fun σ H Q ⟨ρ, W, I, q⟩ => q.val I.ok (.fn (by rw [hmg]; exact h))
def tCallFe (X : Cx) (kk : Nat) (E : L2.St → XK) (tf : TE) (t : TA) : TE := fun σ H Q => tf σ H fun y H1 => ∃ a, y = V.ref a ∧ PySem.W.keepIn X.K (.ref a) = true ∧ t σ H1 fun vs H2 => ∃ (fd : FuncData) (ps : List Str) (sp : Sp), FnOk X.prog X.w X.K X.mg X.base (L2N.CX X.prog X.w) kk a fd ps sp ∧ Binds X.K fd ps [] ∧ sp vs H2 Q (E σ)
theorem pe_callFe (hf : PE X fe tf) (hr : Room kk X.A) (hx : ∀ σ, PassesAt (L2N.CX X.prog X.w) X σ (E σ)) (ha : PA X (e :: es) t)
    (ht : eval (.Call fe (e :: es) [] pos) X.env = (do callWith pos (← eval fe X.env) [] (backTo pos (starEach (e :: es) X.env)) (backToKw pos (keywordEach [] X.env))) := by rfl)
    (he : starEach (e :: es) X.env = (false, eval e X.env) :: starEach es X.env := by rfl) (hpl : (backTo pos (starEach es X.env)).any (·.1) = false := by rfl) : PE X (.Call fe (e :: es) [] pos) (tCallFe X kk E tf t) := by
  refine ⟨fun pins s σ H Q I h => ?_⟩
  rw [ht]
  refine wpAny_bind (thn (hf.run pins s σ H _ I h) fun u s1 ⟨y, H1, I1, ry, a, ey, hk, q⟩ => ?_)
  subst ey
  obtain rfl : u = Value.ref a := ry
  refine PySem.W.callWith_K (h₀ := X.base) I.ok.mod.kin hk (thn (ha.run pos pins s1 σ H1 _ I1 q) fun us s2 ⟨vs, H2, I2, r, fd, ps, sp, F1, hb, q2⟩ => ⟨I2.kIn, ?_⟩) he hpl
  exact run_fnS F1 hr hb (hx σ) I2 r q2
theorem pe_callFe0 (hf : PE X fe tf) (hr : Room kk X.A) (hx : ∀ σ, PassesAt (L2N.CX X.prog X.w) X σ (E σ))
    (ht : eval (.Call fe [] [] pos) X.env = (do callWith pos (← eval fe X.env) [] (backTo pos (starEach [] X.env)) (backToKw pos (keywordEach [] X.env))) := by rfl) : PE X (.Call fe [] [] pos) (tCallFe X kk E tf tNil) := by
  refine ⟨fun pins s σ H Q I h => ?_⟩
  rw [ht]
  refine wpAny_bind (thn (hf.run pins s σ H _ I h) fun u s1 ⟨y, H1, I1, ry, a, ey, hk, fd, ps, sp, F1, hb, q⟩ => ?_)
  subst ey
  obtain rfl : u = Value.ref a := ry
  exact PySem.W.callWith_K0 I1.kIn hk (run_fnS (us := []) F1 hr hb (hx σ) I1 .nil q)
/-- what each of these defs computes -/
def CalTab (P : Program) (w : World) (K : PySem.W.Frag) (mg : Str → Option Value) (base : Heap) (T : Tx) (k np : Nat) (tab : List (Str × Sem)) : Prop := ∀ f sem, tab.lookup f = some sem → Callee P w K mg base T k f np sem
theorem Callee.at {P : Program} {w : World} {K : PySem.W.Frag} {mg : Str → Option Value} {base : Heap} {T : Tx} {k np : Nat} {x : Str} {f : Sem} (c : Callee P w K mg base T k x np f) : ∃ a, mg x = some (.ref a) := by
  obtain ⟨fa, _, _, h, _⟩ := c
  exact ⟨fa, h⟩
theorem ct_nil {P : Program} {w : World} {K : PySem.W.Frag} {mg : Str → Option Value} {base : Heap} {T : Tx} {k np : Nat} : CalTab P w K mg base T k np [] := fun f s h => by cases h
theorem Callee.mono {P : Program} {w : World} {K : PySem.W.Frag} {mg : Str → Option Value} {base : Heap} {T : Tx} {k j np : Nat} {f : Str} {sem : Sem} (c : Callee P w K mg base T k f np sem) (h : k ≤ j) : Callee P w K mg base T j f np sem := by
  obtain ⟨fa, fd, ps, a, b, c, d⟩ := c
  exact ⟨fa, fd, ps, a, b.mono h, c, d⟩
theorem ct_cons {P : Program} {w : World} {K : PySem.W.Frag} {mg : Str → Option Value} {base : Heap} {T : Tx} {k j np : Nat} {f : Str} {sem : Sem} {tab : List (Str × Sem)} (c : Callee P w K mg base T j f np sem) (h : j ≤ k) (r : CalTab P w K mg base T k np tab) : CalTab P w K mg base T k np ((f, sem) :: tab) := fun g s e => by
  rw [List.lookup_cons] at e
  split at e
  · rename_i hy
    cases e
    have : g = f := by simpa using hy
    rw [this]
    exact c.mono h
  · exact r g s e
@[simp] def fCallV (np : Nat) (tab : List (Str × Sem)) (ff : Fn D) (fs : Fn (List D)) : Fn D := fun ρ S => (ff ρ S).bind fun d S1 => match d with
  | .fn f => (match tab.lookup f with
    | some sem => (fs ρ S1).bind fun ds S2 => if ds.length = np then sem ds S2 else .no
    | none => .no)
  | _ => .no
theorem callV_post {W1 : Wd} {H1 : Hp} {σ : L2.St} {ρ : Rho} {Q : VK} {sem : Sem} {np : Nat} {ds : List D} {vs : List V} (hK : F.K = X.K) (hmg : F.mg = X.mg) (I : IF F W1 H1 σ ρ) (r : F.reps W1 H1 ds vs) (hl : ds.length = np) (q : Post F F.rep W1 H1 σ (sem ds W1.S) Q) : spD X.K X.mg F.T np sem vs H1 Q (WE F.wish σ) := by
  refine ⟨ds, W1, by rw [← r.len]; exact hl, ⟨I.ok, I.env.tk⟩, by rw [← hK, ← hmg]; exact r, ?_⟩
  refine Post.wish (F1 := F) (rel1 := F.rep) hmg.symm hK.symm (fun W H a b h => ?_) (fun cls dd H' h => h) q
  show Rep F.K F.mg _ _ _ _
  rw [hK, hmg]; exact h
theorem de_callV {ff : Fn D} {fs : Fn (List D)} {np : Nat} {tab : List (Str × Sem)} (hf : PE X fe (denE F ff)) (ct : CalTab X.prog X.w X.K X.mg X.base F.T kk np tab) (hr : Room kk X.A) (tk : L2N.Takes X F.wish) (ha : PA X (e :: es) (denA F fs)) (hK : F.K = X.K := by rfl) (hmg : F.mg = X.mg := by rfl)
    (ht : eval (.Call fe (e :: es) [] pos) X.env = (do callWith pos (← eval fe X.env) [] (backTo pos (starEach (e :: es) X.env)) (backToKw pos (keywordEach [] X.env))) := by rfl)
    (he : starEach (e :: es) X.env = (false, eval e X.env) :: starEach es X.env := by rfl) (hpl : (backTo pos (starEach es X.env)).any (·.1) = false := by rfl) : PE X (.Call fe (e :: es) [] pos) (denE F (fCallV np tab ff fs)) := by
  refine (pe_callFe (E := WE F.wish) hf hr (fun σ => L2N.passAt tk σ) ha ht he hpl).imp fun σ H Q ⟨ρ, W, I, q⟩ => ⟨ρ, W, I, q.bind fun d v H1 W1 g ok r q1 => ?_⟩
  split at q1
  · rename_i f
    split at q1
    · rename_i sem hl
      obtain ⟨fa, fd, ps, h1, h2, h3, h4⟩ := ct _ _ hl
      cases r with
      | fn r =>
        rw [hmg, h1] at r
        cases r
        refine ⟨fa, rfl, h3, ρ, W1, I.go g ok, q1.bind fun ds vs H2 W2 g2 ok2 r2 q2 => ⟨fd, ps, _, h2, h4, ?_⟩⟩
        split at q2
        · rename_i hn
          exact callV_post hK hmg ((I.go g ok).go g2 ok2) r2 hn q2
        · exact q2.elim
    · exact q1.elim
  · exact q1.elim
theorem de_callV0 {ff : Fn D} {tab : List (Str × Sem)} (hf : PE X fe (denE F ff)) (ct : CalTab X.prog X.w X.K X.mg X.base F.T kk 0 tab) (hr : Room kk X.A) (tk : L2N.Takes X F.wish) (hK : F.K = X.K := by rfl) (hmg : F.mg = X.mg := by rfl)
    (ht : eval (.Call fe [] [] pos) X.env = (do callWith pos (← eval fe X.env) [] (backTo pos (starEach [] X.env)) (backToKw pos (keywordEach [] X.env))) := by rfl) : PE X (.Call fe [] [] pos) (denE F (fCallV 0 tab ff fNil)) := by
  refine (pe_callFe0 (E := WE F.wish) hf hr (fun σ => L2N.passAt tk σ) ht).imp fun σ H Q ⟨ρ, W, I, q⟩ => ⟨ρ, W, I, q.bind fun d v H1 W1 g ok r q1 => ?_⟩
  split at q1
  · rename_i f
    split at q1
    · rename_i sem hl
      obtain ⟨fa, fd, ps, h1, h2, h3, h4⟩ := ct _ _ hl
      cases r with
      | fn r =>
        rw [hmg, h1] at r
        cases r
        have q1 : Post F F.rep W1 H1 σ (sem [] W1.S) Q := q1
        exact ⟨fa, rfl, h3, fd, ps, _, h2, h4, callV_post hK hmg (I.go g ok) .nil rfl q1⟩
    · exact q1.elim
  · exact q1.elim
/-- f(), f a def without parameters -/
theorem de_call0 {f : Sem} {k : Nat} (c : Callee X.prog X.w X.K X.mg X.base F.T k x 0 f) (hr : Room k X.A) (hg : Gl X x) (tk : L2N.Takes X F.wish) (hK : F.K = X.K := by rfl) (hmg : F.mg = X.mg := by rfl) (hdb : (x == ("__debug__" : Str)) = false := by decide) :
    PE X (.Call (.Name x p) [] [] pos) (denE F (fUn f fNil)) := by
  obtain ⟨fa, fd, ps, hm, G, hk, hb⟩ := c
  refine ⟨fun pins s σ H Q I h => ?_⟩
  obtain ⟨ρ, W, J, q⟩ := h
  refine wpAny_Call_Name_kw (ld_glob I hg hm ?_ hdb)
  have q : Post F F.rep W H σ (f [] W.S) Q := q
  exact PySem.W.callWith_K0 I.kIn hk (run_fnS (us := []) G hr hb (L2N.passAt tk σ) I .nil (callV_post hK hmg J .nil rfl q))
end

/-! ### a dict of texts of the module -/
def DctAt (K : PySem.W.Frag) (w : World) (mg : Str → Option Value) (x : Str) (kvs : List (Str × Str)) : Prop := ∃ a, mg x = some (.ref a) ∧ ∀ k v, kvs.lookup k = some v → KDct K w a k (.str v)
@[simp] def gDct (kvs : List (Str × Str)) : D → Store → R D := fun d S => match d with
  | .str k => (match kvs.lookup k with
    | some v => .ok (.str v) S
    | none => .no)
  | _ => .no
theorem de_kd {X : Cx} {F : Fm} {x : Str} {kvs : List (Str × Str)} {b : Expr} {f : Fn D} {pos p : Pos} (h : DctAt X.K X.w X.mg x kvs) (hg : Gl X x) (hb : PE X b (denE F f)) (hs : PlainIx b := by exact fun _ _ => rfl) (hd : (x == ("__debug__" : Str)) = false := by decide) : PE X (.Subscript (.Name x p) b pos) (denE F (fUn (gDct kvs) f)) := by
  obtain ⟨a, ha, hk⟩ := h
  refine (pe_ix ix_kdict (pe_glob (v := .ref a) hg ha rfl hd) hb hs).imp fun σ H Q ⟨ρ, W, I, q⟩ => ⟨ρ, W, I, q.bind fun d v H1 W1 g ok r q1 => ?_⟩
  unfold gDct at q1
  split at q1
  · split at q1
    · rename_i k _ v hl
      cases r
      exact ⟨a, k, _, rfl, rfl, hk _ _ hl, q1.val ok (.str v)⟩
    · exact q1.elim
  · exact q1.elim
theorem dct_mk {K : PySem.W.Frag} {w : World} {h : Heap} {mg : Str → Option Value} {x k1 v1 k2 v2 : Str} {A : Addr} {es : Array DictEntry} {n : Nat} {u1 u2 : Value} (X : K.In h) (G : h.Ns mainGlobals mg) (a : PySem.W.nsIn K mainGlobals x = some (some (.ref A)))
    (l : K.lookup A = some ⟨.type "dict", none, .dict es n, #[]⟩) (kl : PySem.W.KeysLit w.params es.toList) (e1 : PySem.W.nsIn K A k1 = some (some u1)) (e2 : PySem.W.nsIn K A k2 = some (some u2)) (r1 : RelV (.str v1) u1) (r2 : RelV (.str v2) u2) : DctAt K w mg x [(k1, v1), (k2, v2)] := by
  refine ⟨A, PySem.W.mg_of X G a, fun k v hl => ?_⟩
  rw [List.lookup_cons] at hl
  split at hl
  · rename_i hy
    cases hl
    have : k = k1 := by simpa using hy
    subst this
    exact ⟨es, n, u1, l, kl, e1, r1⟩
  · rw [List.lookup_cons] at hl
    split at hl
    · rename_i hy
      cases hl
      have : k = k2 := by simpa using hy
      subst this
      exact ⟨es, n, u2, l, kl, e2, r2⟩
    · cases hl

end Bx

namespace Bx
open PySem PyProof.Rows L2
/-! ### sorted(set(xs)), xs a list of ints -/
abbrev newSet (w : World) : Obj := { cls := .type "set", dict := none, data := .set #[] 0 (.fresh 0 0 (!w.params.followText "set-order")) }
section
variable {P : Program} {w : World} {A : Around} {E : Value → Shared → Prop} {s : Shared}
set_option maxRecDepth 100000 in
set_option maxHeartbeats 3200000 in
theorem call_set_lst {l : Addr} {items : Array Value} (ns : List Int) {Q : Value → Shared → Prop} (hh : A.handled = none) (hl : s.heap.IsList l items) (hit : IntsAre items.toList ns) (hb : ns.length + 1 < scanBound)
    (h : ∀ (h' : Heap) (tk c : Nat), SetR w h' s.heap.objs.size (fun j => decide (j ∈ ns)) c → c ≤ ns.length → (∀ b o, s.heap.get? b = some o → h'.get? b = some o) → Q (.ref s.heap.objs.size) { s with heap := h', toks := tk }) :
    wpAny (model P w) A (call (.type "set") [.ref l]) Q E s := by
  have hisz : items.size = ns.length := by
    have q := IntsAre.length hit
    rw [Array.length_toList] at q
    exact q
  obtain ⟨c, tl, hmro⟩ := F.called_set.mro
  have hmade := F.called_set.made
  have hsub := F.called_set.sub
  refine wpAny_call (codeAny_of_tree ?_)
  show wpAny _ _ (callAny (.type "set") _) _ _ _
  refine wpAny_pure ⟨Code.quiet_builtin _ (by decide +kernel), codeAny_builtin F.entry_type_call ?_⟩
  rw [Around.under_plain (weight_type_call_type "set" [.ref l] []) rfl]
  have h1 := F.called_set.notType
  have h2 := F.called_set.canCreate
  have hct := F.typeCall_set_1 (.ref l)
  repeat (any_goals (first | assumption | wp_step))

  refine codeAny_mono (code_set_led1 (.ref l) (E := E) (Q₁ := fun obj s₁ => obj = .ref s.heap.objs.size ∧ s₁ = { s with heap := s.heap.push (newSet w) }) ⟨rfl, rfl⟩) fun r s₁ hr => ?_
  cases r with
  | error e => exact hr
  | ok fl =>
    cases fl with
    | ret obj =>
      obtain ⟨rfl, rfl⟩ := hr
      have hS : (s.heap.push (newSet w)).get? s.heap.objs.size = some (newSet w) := Heap.get?_push_size _ rfl
      have hT : Shared.TypeIs { s with heap := s.heap.push (newSet w) } (.ref s.heap.objs.size) "set" := ⟨_, hS, rfl⟩
      have hli := F.called_set.init.lookup
      have hbi := F.called_set.init.bind (.ref s.heap.objs.size)
      repeat (any_goals (first | assumption | wp_step))

      refine codeAny_mono (codeAny_call_builtin (R := wants (fun r s₂ => r = .none ∧ ∃ h' tk c, s₂ = { s with heap := h', toks := tk } ∧ SetR w h' s.heap.objs.size (fun j => decide (j ∈ ns)) c ∧ c ≤ ns.length ∧
          (∀ b o, s.heap.get? b = some o → h'.get? b = some o)) E) F.called_set.init.plain F.entry_set_init (check_set_init_1 hT ?_)) fun r₂ s₂ hr₂ => ?_
      · obtain ⟨ol, hol, hcl, nl, hdl⟩ := hl
        obtain ⟨ocls, odict, odata, oslots⟩ := ol
        simp only at hcl hdl
        subst hcl; subst hdl
        have hol' : (s.heap.push (newSet w)).get? l = some { cls := .type "list", dict := odict, data := .seq items nl, slots := oslots } := Heap.get?_push_of_some _ hol
        have hsls := F.sub_list_set
        have hslf := F.sub_list_frozenset
        have hne : (Value.type "list" == Value.type "dict") = false := by decide
        have hl1 : (s.heap.push (newSet w)).IsList l items := ⟨_, hol', rfl, nl, rfl⟩
        unfold Builtin.«set.__init__» noKeywords Builtin.Frozenset.updateFrom
        generalize hPI : pyIter = PI
        wp_walk
        subst hPI

        refine wpAny_pyIter_list hl1 ?_
        refine wpAny_bind (wpAny_runValue ?_)
        have hlS : l < s.heap.objs.size := Heap.lt_size hol
        have hh3 : A.in1.in1.in1.handled = none := by simp [hh]
        have hz1 : (s.heap.push (newSet w)).objs.size = s.heap.objs.size + 1 := Heap.size_push ..
        have hneI : l ≠ (s.heap.push (newSet w)).objs.size := by
          rw [Heap.size_push]; exact Nat.ne_of_lt (Nat.lt_succ_of_lt hlS)
        have hSf : s.heap.objs.size ∉ [(s.heap.push (newSet w)).objs.size, l] := by
          rw [Heap.size_push]; simp only [List.mem_cons, List.mem_singleton, List.not_mem_nil, or_false, not_or]
          exact ⟨Nat.ne_of_lt (Nat.lt_succ_self _), Nat.ne_of_gt hlS⟩
        have hval : ∀ (i : Nat) (v : Value), items[i]? = some v → ∃ k t, ns[i]? = some k ∧ v = .int k t := fun i v hv => by
          have hi : i < ns.length := by rw [← hisz]; exact (Array.getElem?_eq_some_iff.mp hv).1
          obtain ⟨t, e⟩ := PyProof.Rows.IntsAre.int_at hit i v (by rw [Array.getElem?_toList]; exact hv)
          refine ⟨ns[i], t, List.getElem?_eq_getElem hi, ?_⟩
          rw [e, List.getD_eq_getElem?_getD, List.getElem?_eq_getElem hi] <;> rfl
        refine set_update_ints ((Walks.list hh3 _ l hneI items).toS) s.heap.objs.size
          hSf ns hisz hb hval (items.size - 0) 0 _ (by omega) (Nat.zero_le _)
          ⟨⟨_, Heap.get?_push_size _ rfl, rfl, rfl⟩, (hl1.push _)⟩ ?hS0 ?hR
        case hS0 =>
          have hget : ((s.heap.push (newSet w)).push { cls := .type "list_iterator", data := .fields #[.ref l, .int 0 0] }).get? s.heap.objs.size
              = some (newSet w) := Heap.get?_push_of_some _ hS
          exact ⟨0, Nat.le_refl 0, setR_new_at hget⟩
        case hR =>
          intro s' c' hm hc' hS'
          obtain ⟨h', g2, d', tk', os'⟩ := s'
          have eg : g2 = s.gens := hm.gens
          have ed : d' = s.drawn := hm.drawn
          have eo : os' = s.os := hm.os
          subst eg; subst ed; subst eo
          show wpAny _ _ _ _ _ _
          refine wpAny_pure ?_
          show wpAny _ _ (ret Value.none) _ _ _
          rw [hisz] at hc'
          refine wpAny_pure ⟨rfl, h', tk', c', rfl, hS', hc', fun b o e => ?_⟩
          have hb0 : b < s.heap.objs.size := Heap.lt_size e
          have hb1 : b ≠ s.heap.objs.size := Nat.ne_of_lt hb0
          have hb2 : b ≠ (s.heap.push (newSet w)).objs.size := by
            rw [Heap.size_push]; exact Nat.ne_of_lt (Nat.lt_succ_of_lt hb0)
          exact hm.heap b o (by simp only [List.mem_cons, List.mem_singleton, List.not_mem_nil, or_false, not_or]; exact ⟨hb1, hb2⟩) (Heap.get?_push_of_some _ (Heap.get?_push_of_some _ e))

      · cases r₂ with
        | error e => exact hr₂
        | ok fl₂ =>
          cases fl₂ with
          | ret r =>
            obtain ⟨rfl, h', tk, c', rfl, hS', hc', hk'⟩ := hr₂
            repeat (any_goals (first | assumption | wp_step))
            exact h _ _ _ hS' hc' hk'
          | _ => exact hr₂.elim
    | _ => exact hr.elim


end
def rSetLst (K : PySem.W.Frag) (w : World) : List V → Hp → VK → Prop := fun xs H Q => ∃ (l : Addr) (ns : List Int), xs = [V.ref l] ∧ SqL K H l (ns.map V.int) ∧ ns.length ≤ 60 ∧ ∀ a c, H a = none → c ≤ ns.length → Q (.ref a) (upd H a (SetO w a (fun j => decide (j ∈ ns)) c))
theorem cr_setLst {X : Cx} (hc : X.calm = true) : CallR X (.type "set") (rSetLst X.K X.w) := by
  intro pins s σ H xs us Q I r h
  obtain ⟨l, ns, rfl, hs, hn, q⟩ := h
  obtain ⟨its, rv, hl, hz⟩ := I.list hs
  rw [Vals.ref1 r]
  refine call_set_lst ns (I.ok.hd hc) hl.isList rv.ints (Nat.lt_of_le_of_lt (Nat.succ_le_succ hn) (by decide)) fun h' tk c hS hle hk => ?_
  have hfr : H s.heap.objs.size = none := I.hok.fresh (Nat.le_refl _)
  exact ⟨.ref _, _, I.laid (t' := tk) hk (Nat.le_refl _) (setO_new hS), rfl, q _ c hfr hle⟩
/-- the numbers of a list, each once, ascending -/
def uniqI : List Int → List Int
  | [] => []
  | x :: xs => if x ∈ uniqI xs then uniqI xs else insI x (uniqI xs)
theorem uniqI_mem : ∀ (l : List Int) (k : Int), k ∈ uniqI l ↔ k ∈ l
  | [], k => Iff.rfl
  | x :: xs, k => by
    have ih := uniqI_mem xs
    unfold uniqI
    split
    · rename_i h
      rw [ih, List.mem_cons]
      refine ⟨.inr, fun z => ?_⟩
      rcases z with rfl | z
      · exact (ih _).mp h
      · exact z
    · rw [(insI_perm x _).mem_iff, List.mem_cons, List.mem_cons, ih]
theorem uniqI_asc : ∀ l : List Int, (uniqI l).Pairwise (· < ·)
  | [] => .nil
  | x :: xs => by
    unfold uniqI
    split
    · exact uniqI_asc xs
    · rename_i h
      have h1 := insI_sorted x (uniqI xs) ((uniqI_asc xs).imp fun h => Int.le_of_lt h)
      have nd : (insI x (uniqI xs)).Nodup := (insI_perm x _).nodup_iff.mpr (List.nodup_cons.mpr ⟨h, (uniqI_asc xs).imp fun h => by omega⟩)
      exact (h1.and nd).imp fun h => by have := h.1; have := h.2; omega
theorem asc_ext {a b : List Int} (ha : a.Pairwise (· < ·)) (hb : b.Pairwise (· < ·)) (h : ∀ k, k ∈ a ↔ k ∈ b) : a = b :=
  sort_same ((List.perm_ext_iff_of_nodup (ha.imp fun h => by omega) (hb.imp fun h => by omega)).mpr h) (ha.imp fun h => Int.le_of_lt h) (hb.imp fun h => Int.le_of_lt h)
def gSortSet : List D → Store → R (List D)
  | [.lst xs], S => match ints? xs with
    | some ns => if ns.length ≤ 60 then .ok ((uniqI ns).map .int) S else .no
    | _ => .no
  | _, _ => .no
def tSortSet (X : Cx) (t : TA) : TE := tCB (rSortedSet X.w) (tCons (tCB (rSetLst X.K X.w) t) tNil)
theorem dx_sortSet {X : Cx} {F : Fm} {e : Expr} {fs : Fn (List D)} {pos p pos2 p2 : Pos} (hc : X.calm = true) (hg : Gl X "sorted") (hm : X.mg "sorted" = none) (hg2 : Gl X "set") (hm2 : X.mg "set" = none) (ha : PA X [e] (denA F fs)) (he : starEach [e] X.env = (false, eval e X.env) :: starEach [] X.env := by rfl)
    (he2 : starEach [.Call (.Name "set" p2) [e] [] pos2] X.env = (false, eval (.Call (.Name "set" p2) [e] [] pos2) X.env) :: starEach [] X.env := by rfl) (hK : F.K = X.K := by rfl) :
    PE X (.Call (.Name "sorted" p) [.Call (.Name "set" p2) [e] [] pos2] [] pos) (denX F (fCx gSortSet fs)) := by
  refine (pe_callB (cr_sortedSet hc) hg hm (by decide +kernel) (pa_cons (pe_callTy (cr_setLst hc) hg2 hm2 (by decide +kernel) ha (he := he)) pa_nil he2) (he := he2)).imp fun σ H Q ⟨ρ, W, I, q⟩ => ⟨ρ, W, I, ?_⟩
  refine Post.bind q fun ds vs H1 W1 g ok r q1 => ?_
  split at q1
  · rename_i es S' he
    unfold gSortSet at he
    split at he
    · split at he
      · rename_i ns hi
        split at he
        · rename_i hl
          cases he
          cases r with
          | cons r1 r2 =>
            cases r2
            cases r1 with
            | lst a b =>
              rw [ints_eq hi] at b
              obtain rfl := b.ints
              refine ⟨_, ns, rfl, SqL.of (hid_le _ _ a), hl, fun sa c hsa hc => ?_⟩
              refine ⟨sa, _, c, rfl, upd_same, by omega, fun out p h1 h2 h3 hp => ?_⟩
              have e1 : out = uniqI ns := asc_ext h1 (uniqI_asc ns) fun k => by rw [h2, uniqI_mem]; simp
              subst e1
              have sm : Same H1 (upd H1 sa (SetO X.w sa (fun j => decide (j ∈ ns)) c)) := same_new hsa
              exact Post.newX (g.trans (Gr.same sm)) (ok.same sm) hp (q1.weaken (Gr.same sm)) (Reps.ofInts _)
        · cases he
      · cases he
    · cases he
  · exact q1.elim
end Bx

namespace Bx
open PySem PyProof.Rows L2

/-! ### dicts with texts for keys -/
theorem mergeK_app : ∀ (more acc : List (Key × V)), ((acc ++ more).map (·.1)).Nodup → mergeK acc more = acc ++ more
  | [], acc, _ => by simp [mergeK]
  | kv :: more, acc, h => by
    have e1 : putK acc kv.1 kv.2 = acc ++ [kv] := by
      unfold putK
      rw [if_neg]
      rw [List.any_eq_true]
      rintro ⟨x, hx, he⟩
      rw [decide_eq_true_eq] at he
      rw [List.map_append, List.nodup_append] at h
      exact h.2.2 _ (List.mem_map_of_mem hx) _ (List.mem_cons_self ..) he
    have ih := mergeK_app more (acc ++ [kv]) (by rw [List.append_assoc]; exact h)
    unfold mergeK at *
    rw [List.foldl_cons, e1, ih, List.append_assoc]
    rfl
def fDct (ks : List Str) (fs : Fn (List D)) : Fn D := fun ρ S => (fs ρ S).bind fun ds S1 => if ks.length = ds.length ∧ ks.Nodup ∧ ks.length ≤ 15 then .ok (.dct ks ds) S1 else .no
inductive PairsD (X : Cx) (F : Fm) : List (Option Expr) → List Expr → List Str → Fn (List D) → List (TE × TE) → Prop
  | nil : PairsD X F [] [] [] fNil []
  | cons {k : Str} {j : Nat} {p : Pos} {v : Expr} {f : Fn D} {keys : List (Option Expr)} {vs : List Expr} {ks : List Str} {fs : Fn (List D)} {trs : List (TE × TE)} (he : PE X v (denE F f)) (r : PairsD X F keys vs ks fs trs) :
      PairsD X F (some (.Constant (.str k) j p) :: keys) (v :: vs) (k :: ks) (fCons f fs) ((tC (.str k), denE F f) :: trs)
section
variable {X : Cx} {F : Fm} {keys : List (Option Expr)} {values : List Expr} {ks : List Str} {fs : Fn (List D)} {trs : List (TE × TE)} {pos : Pos}
theorem PairsD.pps (h : PairsD X F keys values ks fs trs) : PPs X pos keys values trs ∧ keys.all (·.isSome) = true ∧ keys.length = values.length ∧ keys.length = ks.length := by
  induction h with
  | nil => exact ⟨pps_nil, rfl, rfl, rfl⟩
  | cons he r ih => exact ⟨pps_cons pe_str he ih.1, by simpa using ih.2.1, by simpa using ih.2.2.1, by simpa using ih.2.2.2⟩
theorem PairsD.run (h : PairsD X F keys values ks fs trs) : ∀ {ρ : Rho} {W : Wd} {H : Hp} {σ : L2.St} {K : List (V × V) → Hp → Prop}, IF F W H σ ρ → Post F F.reps W H σ (fs ρ W.S) (fun vs H' => K ((ks.map V.str).zip vs) H') → tPairs trs σ H K := by
  induction h with
  | nil =>
    intro ρ W H σ K I q
    have q : Post F F.reps W H σ (.ok [] W.S) (fun vs H' => K ((([] : List Str).map V.str).zip vs) H') := q
    exact Post.val (rel := F.reps) I.ok q Reps.nil
  | @cons k j p v f keys vs ks fs trs he r ih =>
    intro ρ W H σ K I q
    have q : Post F F.reps W H σ ((f ρ W.S).bind fun d S1 => (fs ρ S1).bind fun ds S2 => .ok (d :: ds) S2) _ := q
    refine ⟨ρ, W, I, q.bind fun d v H1 W1 g ok r1 q1 => ?_⟩
    exact ih (I.go g ok) (q1.bind (rel := F.reps) (rel2 := F.reps) fun ds vs H2 W2 g2 ok2 r2 q2 => Post.val (rel := F.reps) ok2 q2 (Reps.cons (rep_gr g2.s r1) r2))
theorem Gr.updN {W W' : Wd} {H H' : Hp} {p : Addr} {o : HO} (g : Gr W H W' H') (hp : H p = none) : Gr W H W' (upd H' p o) :=
  ⟨g.ms, fun q u h n => by rw [upd_ne (ne_of_none h hp)]; exact g.ex q u h n, fun q h => by
    have : q ≠ p := fun e => h (e ▸ hp)
    rw [upd_ne this]
    exact g.ds q h, g.mu, g.tt⟩
theorem zipK : ∀ (ks : List Str) (vs : List V), (ks.map V.str).zip vs = ((ks.map Sum.inr).zip vs).map fun (kv : Key × V) => (kV kv.1, kv.2)
  | [], _ => rfl
  | k :: ks, [] => rfl
  | k :: ks, v :: vs => by
    rw [List.map_cons, List.map_cons, List.zip_cons_cons, List.zip_cons_cons, List.map_cons, zipK ks vs]
    rfl
theorem de_dct (h : PairsD X F keys values ks fs trs) (h0 : keys ≠ [] := by simp) (h15 : keys.length ≤ 15 := by decide) : PE X (.Dict keys values pos) (denE F (fDct ks fs)) := by
  obtain ⟨p1, p2, p3, p4⟩ := h.pps (pos := pos)
  refine (pe_disp p1 p2 p3 h0 h15).imp fun σ H Q ⟨ρ, W, I, q⟩ => ?_
  intro p hp
  obtain ⟨ok0, g0⟩ := mask_new (o := .dK []) I.ok hp
  refine h.run (I.go g0 ok0) ?_
  have q : Post F F.rep W H σ ((fs ρ W.S).bind fun ds S1 => if ks.length = ds.length ∧ ks.Nodup ∧ ks.length ≤ 15 then .ok (.dct ks ds) S1 else .no) Q := q
  show Post F F.reps (mask p W) _ σ (fs ρ W.S) _
  cases hfs : fs ρ W.S with
  | no => rw [hfs] at q; exact q
  | er x S1 =>
    rw [hfs] at q
    have q : Post F F.rep W H σ (.er x S1) Q := q
    exact fun cls dd H' W' e g' ok hr => q cls dd H' W' e (g0.trans g') ok hr
  | ok ds S1 =>
    rw [hfs] at q
    have q : Post F F.rep W H σ (if ks.length = ds.length ∧ ks.Nodup ∧ ks.length ≤ 15 then .ok (.dct ks ds) S1 else .no) Q := q
    intro vs H2 W2 e2 g2 ok2 r2
    have hM : W2.M p = some 0 := (g2.ms p (by rw [upd_same]; simp)).trans mask_self
    have hH : H2 p = some (.dK []) := g2.ex p _ upd_same fun l => by rw [mask_self]; simp
    split at q
    · rename_i hc
      obtain ⟨c1, c2, c3⟩ := hc
      have hl := r2.len
      have hv : ks.length = vs.length := by omega
      refine ⟨hH, (ks.map Sum.inr).zip vs, zipK ks vs, ?_, ?_⟩
      · rw [List.length_zip, List.length_map]; omega
      · have em : mergeK [] ((ks.map Sum.inr).zip vs) = (ks.map Sum.inr).zip vs := by
          rw [mergeK_app _ _ (by
            rw [List.nil_append, List.map_fst_zip (by rw [List.length_map]; omega)]
            exact List.pairwise_map.mpr (c2.imp fun h e => h (Sum.inr.inj e))), List.nil_append]
        rw [em]
        have ok3 : WOk W2 (upd H2 p (.dK ((ks.map Sum.inr).zip vs))) := ok2.own hM fun c q z => by rw [hH] at z; cases z
        have gg : Gr W H W2 (upd H2 p (.dK ((ks.map Sum.inr).zip vs))) := (g0.trans g2).updN hp
        refine q _ _ (unmask p W2) e2 (unmask_gr hM hp gg) (unmask_ok ok3 hM) ?_
        refine .dct (hid_some.mpr ⟨unmask_self, upd_same⟩) hv ?_
        refine Reps.mono (fun _ _ h => h) ?_ _ _ r2
        intro a u ha
        obtain ⟨a1, a2⟩ := hid_some.mp ha
        have ne : a ≠ p := fun e => by rw [e, hM] at a1; cases a1
        exact hid_some.mpr ⟨(unmask_ne ne).trans a1, by rw [upd_ne ne]; exact a2⟩
    · exact q.elim
end
/-- d[k], k in d -/
@[simp] def gDIx : D → D → Store → R D := fun d e S => match d, e with
  | .dct ks ds, .str k => (match (ks.zip ds).lookup k with
    | some x => .ok x S
    | none => .no)
  | _, _ => .no
@[simp] def gDIn : D → D → Store → R D := fun e d S => match d, e with
  | .dct ks ds, .str k => .ok (.bl ((ks.zip ds).lookup k).isSome) S
  | _, _ => .no
theorem dct_look {K : PySem.W.Frag} {mg : Str → Option Value} {μ : Nat → Option Addr} {H : Hp} (k : Str) : ∀ {ks : List Str} {ds : List D} {vs : List V}, Reps K mg μ H ds vs → ks.length = vs.length →
    match (ks.zip ds).lookup k with
    | some x => ∃ v, valV ((ks.map Sum.inr).zip vs : List (Key × V)) (Sum.inr k) = some v ∧ Rep K mg μ H x v
    | none => valV ((ks.map Sum.inr).zip vs : List (Key × V)) (Sum.inr k) = none
  | [], _, _, _, _ => by simp [valV]
  | k' :: ks, _, _, h, hl => by
    cases h with
    | nil => simp at hl
    | @cons d ds v vs h1 h2 =>
      have ih := dct_look k h2 (ks := ks) (by simpa using hl)
      rw [List.zip_cons_cons, List.lookup_cons, List.map_cons, List.zip_cons_cons]
      by_cases e : k = k'
      · subst e
        rw [beq_self_eq_true]
        exact ⟨v, valV_pos rfl, h1⟩
      · have : (k == k') = false := by simpa using e
        rw [this, valV_neg (fun z => e (Sum.inr.inj z).symm)]
        exact ih
section
variable {X : Cx} {F : Fm} {a b : Expr} {f1 f2 : Fn D} {pos : Pos}
theorem de_dix (hu : X.A.units + 1 < cLine) (ha : PE X a (denE F f1)) (hb : PE X b (denE F f2)) (hs : NoSl b := by exact fun _ _ => rfl) : PE X (.Subscript a b pos) (denE F (fBin gDIx f1 f2)) := by
  refine (pe_dget hu ha hb hs).imp fun σ H Q ⟨ρ, W, I, q⟩ => ⟨ρ, W, I, q.bind fun d v H1 W1 g1 ok1 r1 q1 => ⟨ρ, W1, I.go g1 ok1, q1.bind fun e u H2 W2 g2 ok2 r2 q2 => ?_⟩⟩
  unfold gDIx at q2
  split at q2
  · rename_i ks ds k
    cases r2
    cases rep_gr g2.s r1 with
    | dct h1 h2 h3 =>
      have hl := dct_look k h3 h2
      split at q2
      · rename_i x hx
        rw [hx] at hl
        obtain ⟨w, w1, w2⟩ := hl
        exact ⟨_, w, rfl, .inl ⟨_, Sum.inr k, .inl (hid_le _ _ h1), rfl, w1.symm⟩, q2.val ok2 w2⟩
      · exact q2.elim
  · exact q2.elim
theorem pc_dinD (hu : X.A.units + 1 < cLine) (ha : PE X a (denE F f1)) (hb : PE X b (denE F f2)) : PC X .In a b (denE F (fBin gDIn f1 f2)) := by
  refine ⟨fun pins s σ H Q J h => (pc_din hu ha hb).run pins s σ H Q J ?_⟩
  obtain ⟨ρ, W, I, q⟩ := h
  refine ⟨ρ, W, I, q.bind fun d v H1 W1 g1 ok1 r1 q1 => ⟨ρ, W1, I.go g1 ok1, q1.bind fun e u H2 W2 g2 ok2 r2 q2 => ?_⟩⟩
  unfold gDIn at q2
  split at q2
  · rename_i ks ds k
    cases r2 with
    | @dct aa _ vs0 _ h1 h2 h3 =>
      have hl := dct_look k h3 h2
      cases r1
      refine ⟨aa, valV ((ks.map Sum.inr).zip vs0) (Sum.inr k), rfl, .inl ⟨_, Sum.inr k, .inl (hid_le _ _ h1), rfl, rfl⟩, ?_⟩
      have e : (valV ((ks.map Sum.inr).zip vs0 : List (Key × V)) (Sum.inr k)).isSome = ((ks.zip ds).lookup k).isSome := by
        split at hl
        · rename_i x hx
          obtain ⟨w, w1, w2⟩ := hl
          rw [w1, hx]
          rfl
        · rename_i hx
          rw [hl, hx]
          rfl
      rw [e]
      exact q2.val ok2 (.bl _)
  · exact q2.elim
theorem de_din (hu : X.A.units + 1 < cLine) (ha : PE X a (denE F f1)) (hb : PE X b (denE F f2)) (hm : behindInMarks .In b = false := by rfl) : PE X (.Compare a [.In] [b] pos) (denE F (fBin gDIn f1 f2)) := pe_cmp (pc_dinD hu ha hb) hm
theorem dt_din (hu : X.A.units + 1 < cLine) (ha : PE X a (denE F f1)) (hb : PE X b (denE F f2)) (hm : behindInMarks .In b = false := by rfl) : PT X (.Compare a [.In] [b] pos) (denT F (fUn gBl (fBin gDIn f1 f2))) := dt_of (pt_cmp (pc_dinD hu ha hb) hm) fun _ _ _ h => h
end

/-! ### xs + ys, a list of one's own -/
@[simp] def fAddL (f1 f2 : Fn D) : Fn Sl := fun ρ S => (f1 ρ S).bind fun a S1 => (f2 ρ S1).bind fun b S2 => match a, b with
  | .lst xs, .lst ys => if xs.length + ys.length ≤ LIM then .ok (.ow (xs ++ ys)) S2 else .no
  | _, _ => .no
theorem dx_addL {X : Cx} {F : Fm} {a b : Expr} {f1 f2 : Fn D} {pos : Pos} (ha : PE X a (denE F f1)) (hb : PE X b (denE F f2)) : PE X (.BinOp a .Add b pos) (denX F (fAddL f1 f2)) :=
  (pe_op op_cat ha hb).imp fun σ H Q ⟨ρ, W, I, q⟩ => by
    have q : Post F (relX F H) W H σ ((f1 ρ W.S).bind fun a S1 => (f2 ρ S1).bind fun b S2 => match a, b with
      | .lst xs, .lst ys => if xs.length + ys.length ≤ LIM then .ok (.ow (xs ++ ys)) S2 else .no
      | _, _ => .no) Q := q
    refine ⟨ρ, W, I, q.bind fun d v H1 W1 g1 ok1 r1 q1 => ⟨ρ, W1, I.go g1 ok1, q1.bind fun e u H2 W2 g2 ok2 r2 q2 => ?_⟩⟩
    split at q2
    · split at q2
      · rename_i hz
        cases r2 with
        | lst a2 b2 =>
          cases rep_gr g2.s r1 with
          | lst a1 b1 =>
            rw [b1.len, b2.len] at hz
            exact ⟨_, _, _, _, rfl, rfl, hid_le _ _ a1, hid_le _ _ a2, lim_le hz, fun p hp => Post.newX (g1.trans g2) ok2 hp q2 (b1.append b2)⟩
      · exact q2.elim
    · exact q2.elim
end Bx

namespace Bx
open PySem PyProof.Rows L2

/-! ### a, b, .. = x, y, .. where lists of one's own may be among the values -/
def goP (ρ : Rho) : List Nat → List (Fn Sl) → Rho → Store → SR
  | [], [], ρv, S => .mk (.nx ρv) S
  | i :: is, f :: fs, ρv, S => match f ρ S with
    | .ok sl S1 => if i < ρv.length then goP ρ is fs (ρv.set i sl) S1 else .no
    | .er x S1 => .mk (.xr x ρ) S1
    | .no => .no
  | _, _, _, _ => .no
def sParN (is : List Nat) (fs : List (Fn Sl)) : Stm := fun ρ S => goP ρ is fs ρ S
def setsV (σ : L2.St) : List Nat → List V → L2.St
  | i :: is, v :: vs => setsV (σ.set i (some v)) is vs
  | _, _ => σ
def lenIs : List Nat → List V → Prop
  | [], [] => True
  | _ :: is, _ :: vs => lenIs is vs
  | _, _ => False
def tXs (F : Fm) : List (Fn Sl) → TA
  | [] => tNil
  | f :: fs => tCons (denX F f) (tXs F fs)
section
variable {X : Cx} {F : Fm}
inductive ParX (X : Cx) (F : Fm) : List Expr → List (Fn Sl) → Prop
  | nil : ParX X F [] []
  | cons {e : Expr} {f : Fn Sl} {es : List Expr} {fs : List (Fn Sl)} (he : PE X e (denX F f)) (r : ParX X F es fs) (hs : starEach (e :: es) X.env = (false, eval e X.env) :: starEach es X.env) : ParX X F (e :: es) (f :: fs)
theorem ParX.pa {es : List Expr} {fs : List (Fn Sl)} (h : ParX X F es fs) : PA X es (tXs F fs) := by
  induction h with
  | nil => exact pa_nil
  | cons he r hs ih => exact pa_cons he ih hs
def gNames : List Nat → TGs
  | [] => gNil
  | i :: is => gCons (gName i) (gNames is)
theorem gNames_run : ∀ (is : List Nat) (vs : List V) (σ : L2.St) (H : Hp) (Q : L2.St → Hp → Prop), lenIs is vs → Q (setsV σ is vs) H → gNames is vs σ H Q
  | [], [], σ, H, Q, _, q => ⟨rfl, q⟩
  | i :: is, v :: vs, σ, H, Q, hl, q => ⟨v, vs, rfl, gNames_run is vs _ H Q hl q⟩
theorem goP_run {En : Ends} {ρ : Rho} {σ : L2.St} : ∀ (is : List Nat) (fs : List (Fn Sl)) (ρv : Rho) (σv : L2.St) (W : Wd) (H : Hp) (k : List V → List V), IF F W H σ ρ → IF F W H σv ρv → PostS F En W H (goP ρ is fs ρv W.S) → (Q : List V → Hp → Prop) → (∀ vs H', lenIs is vs → (∀ p, H' p = none → En.nx (setsV σv is vs) (upd H' p (.tup (k vs)))) → Q vs H') →
    tXs F fs σ H Q
  | [], [], ρv, σv, W, H, k, I, J, q, Q, hQ => by
    refine hQ [] H trivial fun p hp => ?_
    exact q σv _ W rfl ⟨J.ok.same (same_new hp), J.gr.trans (Gr.same (same_new hp)), J.env.gr (Gr.same (same_new hp))⟩ (Gr.same (same_new hp)).s
  | [], f :: fs, ρv, σv, W, H, k, I, J, q, Q, hQ => q.elim
  | i :: is, [], ρv, σv, W, H, k, I, J, q, Q, hQ => q.elim
  | i :: is, f :: fs, ρv, σv, W, H, k, I, J, q, Q, hQ => by
    have q : PostS F En W H (match f ρ W.S with
      | .ok sl S1 => if i < ρv.length then goP ρ is fs (ρv.set i sl) S1 else .no
      | .er x S1 => .mk (.xr x ρ) S1
      | .no => .no) := q
    refine ⟨ρ, W, I, ?_⟩
    cases hf : f ρ W.S with
    | no => rw [hf] at q; exact q
    | er x S1 =>
      rw [hf] at q
      have q : PostS F En W H (.mk (.xr x ρ) S1) := q
      exact fun cls dd H' W' e g ok r => q cls dd σ H' W' e (I.go g ok) g.s r
    | ok sl S1 =>
      rw [hf] at q
      have q : PostS F En W H (if i < ρv.length then goP ρ is fs (ρv.set i sl) S1 else .no) := q
      intro v H1 W1 e1 g1 ok1 r1
      split at q
      · rename_i hi
        have J1 : IF F W1 H1 (σv.set i (some v)) (ρv.set i sl) := ⟨ok1, J.gr.trans g1, (J.env.gr g1).setX J.env J.gr r1 hi⟩
        rw [← e1] at q
        exact goP_run is fs (ρv.set i sl) (σv.set i (some v)) W1 H1 (fun xs => k (v :: xs)) (I.go g1 ok1) J1 (PostS.weaken g1.s q) (fun xs H2 => Q (v :: xs) H2) fun vs H' h k2 => hQ (v :: vs) H' h k2
      · exact q.elim
theorem lenIs_len : ∀ (is : List Nat) (vs : List V), lenIs is vs → vs.length = is.length
  | [], [], _ => rfl
  | _ :: is, _ :: vs, h => by simp [lenIs_len is vs h]
  | [], _ :: _, h => h.elim
  | _ :: _, [], h => h.elim
/-- a, b, .. = x, y, .. -/
theorem ds_parN {ts es : List Expr} {fs : List (Fn Sl)} {is : List Nat} {kt k2 : Nat} {pt pt2 pos : Pos} (hc : X.calm = true) (hz : is.length ≤ sizeLine) (hT : PGs X ts (gNames is)) (ha : ParX X F es fs)
    (hn : (assignEach ts X.env).length = is.length := by rfl) (hst : (assignEach ts X.env).findIdx? (·.1) = none := by rfl)
    (hs : swapsWithSole [.Tuple ts kt pt] (.Tuple es k2 pt2) pos.line X.env = pure false := by rfl) (hw : swappedStores [.Tuple ts kt pt] (.Tuple es k2 pt2) X.env = pure none := by rfl) (h1 : (assignEach [.Tuple ts kt pt] X.env).map (·.2) = [assign (.Tuple ts kt pt) X.env] := by rfl) :
    PS X (.Assign [.Tuple ts kt pt] (.Tuple es k2 pt2) pos) (denS F (sParN is fs)) :=
  (ps_asg (pe_tup ha.pa) (pg_tup hc hT hn hst) hs hw h1).imp fun En σ H ⟨ρ, W, I, q⟩ => by
    refine goP_run (En := En) is fs ρ σ W H id I I q _ fun vs H' hl k => ?_
    have hlen := lenIs_len is vs hl
    refine ⟨by rw [hlen]; exact hz, fun p hp => ⟨p, vs, rfl, SqT.of upd_same, hlen, gNames_run is vs σ _ _ hl (k p hp)⟩⟩
end
end Bx

open PySem PySem.Spec PyProof.Rows
namespace L2
/-! ### a tuple by 1 is the same object -/
theorem tuple_mulW1 (l : Addr) (items : Array Value) (n : Nat) (dd : Option Addr) (sl : Array (Option Value)) (u : Tok) :
    Meets (Builtin.«tuple.__mul__» ⟨[.ref l, .int 1 u], []⟩) (fun _ R s => s.heap.get? l = some { cls := .type "tuple", dict := dd, data := .seq items n, slots := sl } ∧
      R (.ok (.ret (Value.ref l))) s) :=
  .of_wp fun prog w A R s h => by
    obtain ⟨hp, g, d, tk, os⟩ := s
    obtain ⟨hl, h⟩ := h
    have f1 := AutoSeq1.idx_int
    wp_walk using wpAny_loadPart' hl
    exact ⟨_, rfl, h⟩
theorem tuple_mulW0 (l : Addr) (items : Array Value) (n : Nat) (dd : Option Addr) (sl : Array (Option Value)) (u : Tok) (hne : items.isEmpty = false) :
    Meets (Builtin.«tuple.__mul__» ⟨[.ref l, .int 0 u], []⟩) (fun _ R s => s.heap.get? l = some { cls := .type "tuple", dict := dd, data := .seq items n, slots := sl } ∧
      R (.ok (.ret (Value.ref s.heap.objs.size))) { s with heap := s.heap.push { cls := Value.type "tuple", data := Data.seq #[] }, toks := s.toks }) :=
  .of_wp fun prog w A R s h => by
    obtain ⟨hp, g, d, tk, os⟩ := s
    obtain ⟨hl, h⟩ := h
    have f1 := AutoSeq1.idx_int
    have c1 : (items.isEmpty || (0 : Int) == 1) = false := by rw [hne]; rfl
    wp_walk using wpAny_loadPart' hl
    exact ⟨_, rfl, h⟩
def rRepT1 (K : PySem.W.Frag) : R2 := fun x y H Q => ∃ l xs, x = .ref l ∧ y = .int 1 ∧ SqT K H l xs ∧ Q (.ref l) H
theorem op_repT1 {X : Cx} : OpR X (binaryOp .Mult) (rRepT1 X.K) := by
  intro pins s σ H x y v u Q I rx ry h
  obtain ⟨l, xs, rfl, rfl, hT, q⟩ := h
  cases rx
  obtain ⟨t, rfl⟩ := ry
  obtain ⟨its, r, ⟨⟨cls, dd, data, sl⟩, ho, hc, n, hd⟩, hs⟩ := I.tuple hT
  simp only at hc hd
  subst hc hd
  refine wpAny_binaryOp_repeat_ref (T := "tuple") (U := "int") (by decide) ⟨_, ho, rfl⟩ (fun s' => typeIs_int s' 1 t) noFill_tuple_mul F.fills_int_mul F.slot_int_rmul repeat_tuple F.slot_int_index.lookup
    (call_meets F.slot_int_rmul (typeIs_int s 1 t) F.entry_int_rmul (F.args_int_rmul_2 _ _) (int_rmul_tuple 1 t l its.toArray n dd sl)
      ⟨ho, rfl, ⟨_, ho, rfl⟩, call_meets F.slot_tuple_mul ⟨_, ho, rfl⟩ F.entry_tuple_mul (F.args_tuple_mul_2 _ _) (tuple_mulW1 l its.toArray n dd sl t) ⟨ho, ?_⟩⟩)
  exact ⟨.ref l, _, I, rfl, q⟩
def rRepT0 (K : PySem.W.Frag) : R2 := fun x y H Q => ∃ l xs, x = .ref l ∧ y = .int 0 ∧ SqT K H l xs ∧ xs ≠ [] ∧ ∀ p, H p = none → Q (.ref p) (upd H p (.tup []))
theorem op_repT0 {X : Cx} : OpR X (binaryOp .Mult) (rRepT0 X.K) := by
  intro pins s σ H x y v u Q I rx ry h
  obtain ⟨l, xs, rfl, rfl, hT, hne, q⟩ := h
  cases rx
  obtain ⟨t, rfl⟩ := ry
  obtain ⟨its, r, ⟨⟨cls, dd, data, sl⟩, ho, hc, n, hd⟩, hs⟩ := I.tuple hT
  simp only at hc hd
  subst hc hd
  have hle : its.length = xs.length := r.length.symm
  have hi : its.toArray.isEmpty = false := by
    cases its with
    | nil => exact absurd (List.eq_nil_of_length_eq_zero hle.symm) hne
    | cons a b => rfl
  refine wpAny_binaryOp_repeat_ref (T := "tuple") (U := "int") (by decide) ⟨_, ho, rfl⟩ (fun s' => typeIs_int s' 0 t) noFill_tuple_mul F.fills_int_mul F.slot_int_rmul repeat_tuple F.slot_int_index.lookup
    (call_meets F.slot_int_rmul (typeIs_int s 0 t) F.entry_int_rmul (F.args_int_rmul_2 _ _) (int_rmul_tuple 0 t l its.toArray n dd sl)
      ⟨ho, rfl, ⟨_, ho, rfl⟩, call_meets F.slot_tuple_mul ⟨_, ho, rfl⟩ F.entry_tuple_mul (F.args_tuple_mul_2 _ _) (tuple_mulW0 l its.toArray n dd sl t hi) ⟨ho, ?_⟩⟩)
  refine ⟨.ref s.heap.objs.size, _, I.laid (t' := s.toks) (o := .tup []) (fun b ob q => Heap.get?_push_of_some _ q) (Nat.le_refl _) ?_, rfl, q _ (I.hok.fresh (Nat.le_refl _))⟩
  exact ⟨by show 0 ≤ sizeLine; omega, [], .nil, IsTup.new _ _⟩
end L2
namespace Bx
open L2
def gMulT : D → D → Store → R D
  | .tup a, .int k, S => if k = 1 then .ok (.tup a) S else if k = 0 ∧ a ≠ [] then .ok (.tup []) S else gMul (.tup a) (.int k) S
  | _, _, _ => .no
section
variable {F : Fm} {X : Cx} {a b : Expr} {f1 f2 : Fn D} {pos : Pos}
theorem opd_mulT : OpD F (fun x y H Q => (fun x y H Q => (rI CMul fun i j => .int (i * j)) x y H Q ∨ rRep x y H Q ∨ rRepT F.K x y H Q) x y H Q ∨ rRepT1 F.K x y H Q ∨ rRepT0 F.K x y H Q) gMulT := by
  intro W H σ d e x y Q ok hT rx ry h
  unfold gMulT at h
  split at h
  · split at h
    · rename_i hk
      subst hk
      cases ry
      cases rx with
      | tup a1 b1 => exact .inr (.inl ⟨_, _, rfl, rfl, SqT.of (hid_le _ _ a1), h.val ok (.tup a1 b1)⟩)
    · split at h
      · rename_i hk2
        obtain ⟨rfl, hne⟩ := hk2
        cases ry
        cases rx with
        | tup a1 b1 =>
          refine .inr (.inr ⟨_, _, rfl, rfl, SqT.of (hid_le _ _ a1), ?_, fun p hp => h.new ok hp (rep_tup ok hp .nil)⟩)
          rintro rfl
          cases b1
          exact hne rfl
      · exact .inl (opd_mul W H σ _ _ x y Q ok hT rx ry h)
  · exact h.elim
theorem de_mulT (ha : PE X a (denE F f1)) (hb : PE X b (denE F f2)) (hK : F.K = X.K := by rfl) : PE X (.BinOp a .Mult b pos) (denE F (fBin gMulT f1 f2)) := de_op ((op_mul.or (op_rep.or op_repT)).or (op_repT1.or op_repT0)) (by have := @opd_mulT F; rw [hK] at this; exact this) ha hb
end
end Bx

namespace Bx
open PySem L2
/-! ### texts -/
def asgE : Stmt → Expr
  | .Assign _ e _ => e
  | .Return (some e) _ => e
  | _ => .Constant .none 0 ⟨0, 0, 0, 0⟩
def lcScope (e : Expr) : Scope := match e with
  | .ListComp _ _ sc _ => sc
  | _ => default
def strs? : List D → Option (List Str)
  | [] => some []
  | .str s :: ds => (strs? ds).map (s :: ·)
  | _ :: _ => none
theorem strs_eq : ∀ {ds : List D} {ys : List Str}, strs? ds = some ys → ds = ys.map .str
  | [], ys, h => by
    obtain rfl := Option.some.inj h
    rfl
  | .str s :: ds, ys, h => by
    obtain ⟨m, h1, rfl⟩ := Option.map_eq_some_iff.mp (show (strs? ds).map (s :: ·) = some ys from h)
    rw [strs_eq h1]; rfl
@[simp] theorem strs_map : ∀ ys : List Str, strs? (ys.map D.str) = some ys
  | [] => rfl
  | n :: ns => by simp [strs?, strs_map ns]
section
variable {K : PySem.W.Frag} {mg : Str → Option Value} {μ : Nat → Option Addr} {H : Hp}
theorem Reps.strs : ∀ {ys : List Str} {vs : List V}, Reps K mg μ H (ys.map D.str) vs → vs = ys.map V.str
  | [], _, h => by cases h; rfl
  | y :: ys, _, h => by
    cases h with
    | cons h1 h2 =>
      cases h1
      rw [Reps.strs h2]; rfl
theorem Reps.ofStrs : ∀ (ys : List Str), Reps K mg μ H (ys.map D.str) (ys.map V.str)
  | [] => .nil
  | y :: ys => .cons (.str y) (Reps.ofStrs ys)
end
def isStr : D → Bool
  | .str _ => true
  | _ => false
/-- a text's method: the text looked at first -/
@[simp] def fStrM (g : D → D → Store → R D) (f1 f2 : Fn D) : Fn D := fun ρ S => (f1 ρ S).bind fun a S1 => if isStr a = true then (f2 ρ S1).bind fun b S2 => g a b S2 else .no
def gStr : List D → Store → R D
  | [.int i], S => if i.natAbs.log2 < 1920 then .ok (.str (toString i)) S else .no
  | _, _ => .no
def gIntS : List D → Store → R D
  | [.str a], S => match PySem.intText? a with
    | some n => if a.length ≤ 640 then .ok (.int n) S else .no
    | none => .no
  | _, _ => .no
def gJoin : D → D → Store → R D
  | .str a, .lst ds, S => match strs? ds with
    | some ys => if (ys.map (·.length)).sum + ys.length * a.length ≤ LIM then .ok (.str (Txt.join a ys)) S else .no
    | none => .no
  | _, _, _ => .no
def gSplit : D → D → Store → R D
  | .str a, .str b, S => if (b.length == 0) = false ∧ a.length + 2 ≤ LIM then .ok (.lst ((Txt.split a b).map .str)) S else .no
  | _, _, _ => .no
def gRstrip : D → Store → R D
  | .str a, S => if a.length ≤ LIM then .ok (.str (Txt.rstrip a)) S else .no
  | _, _ => .no
def gFmt (pre : Str) : D → Store → R D
  | .int i, S => if i.natAbs.log2 < 1920 ∧ (pre ++ (toString i : Str)).length ≤ LIM then .ok (.str (pre ++ (toString i : Str))) S else .no
  | _, _ => .no
@[simp] def fFmt (pre : Str) (f : Fn D) : Fn D := fun ρ S => if pre.length ≤ 1000 then (f ρ S).bind (gFmt pre) else .no
def gMulS : D → D → Store → R D
  | .str a, .int k, S => if 0 ≤ k ∧ k ≤ 1000 ∧ a.length ≤ 1000 then .ok (.str (Txt.mul a k)) S else .no
  | _, _, _ => .no
def gChars : D → Store → R (List D)
  | .str z, S => .ok (z.cps.toList.map fun c => .str ⟨#[c]⟩) S
  | _, _ => .no
section
variable {F : Fm} {X : Cx} {e o a b tg : Expr} {es : List Expr} {f f1 f2 : Fn D} {fs : Fn (List D)} {pos p apos : Pos} {x : Str}
theorem cal_str : CalD F (fun xs H Q => ∃ i : Int, xs = [.int i] ∧ i.natAbs.log2 < 1920 ∧ Q (.str (toString i)) H) gStr := by
  intro W H σ ds vs Q ok r h
  unfold gStr at h
  split at h
  · split at h
    · rename_i hz
      cases r with
      | cons r1 r2 =>
        cases r2; cases r1
        exact ⟨_, rfl, hz, h.val ok (.str _)⟩
    · exact h.elim
  · exact h.elim
theorem cal_intS : CalD F (fun xs H Q => ∃ a n, xs = [.str a] ∧ PySem.intText? a = some n ∧ a.length ≤ 640 ∧ Q (.int n) H) gIntS := by
  intro W H σ ds vs Q ok r h
  unfold gIntS at h
  split at h
  · split at h
    · rename_i hn
      split at h
      · rename_i hz
        cases r with
        | cons r1 r2 =>
          cases r2; cases r1
          exact ⟨_, _, rfl, hn, hz, h.val ok (.int _)⟩
      · exact h.elim
    · exact h.elim
  · exact h.elim
theorem de_str1 (hg : Gl X "str") (hm : X.mg "str" = none) (ha : PA X [e] (denA F fs)) (he : starEach [e] X.env = (false, eval e X.env) :: starEach [] X.env := by rfl) : PE X (.Call (.Name "str" p) [e] [] pos) (denE F (fUn gStr fs)) :=
  de_ct call_str_int cal_str hg hm (by decide +kernel) ha (he := he)
theorem de_intS (hg : Gl X "int") (hm : X.mg "int" = none) (ha : PA X [e] (denA F fs)) (he : starEach [e] X.env = (false, eval e X.env) :: starEach [] X.env := by rfl) : PE X (.Call (.Name "int" p) [e] [] pos) (denE F (fUn gIntS fs)) :=
  de_ct call_int_str cal_intS hg hm (by decide +kernel) ha (he := he)
theorem den_m1 {r : V → List V → Hp → VK → Prop} {g : D → D → Store → R D} (hg : ∀ (W : Wd) (H : Hp) (σ : L2.St) (d e : D) (x y : V) (Q : VK), WOk W H → F.rep W H d x → F.rep W H e y → Post F F.rep W H σ (g d e W.S) Q → r x [y] H Q)
    {σ : L2.St} {H : Hp} {Q : VK} (h : denE F (fStrM g f1 f2) σ H Q) : tM1 r (denE F f1) (denE F f2) σ H Q := by
  obtain ⟨ρ, W, I, q⟩ := h
  refine ⟨ρ, W, I, q.bind fun d v H1 W1 g1 ok r1 q1 => ?_⟩
  split at q1
  · rename_i hs
    refine ⟨?_, ρ, W1, I.go g1 ok, q1.bind fun d2 v2 H2 W2 g2 ok2 r2 q2 => hg W2 H2 σ d d2 v v2 Q ok2 (rep_gr g2.s r1) r2 q2⟩
    cases r1 <;> first | exact ⟨_, rfl⟩ | cases hs
  · exact q1.elim
theorem de_join (ho : PE X o (denE F f1)) (he : PE X e (denE F f2)) (hs : starEach [e] X.env = [(false, eval e X.env)] := by rfl) (hbase : attributeBase o "join" X.env (eval o X.env) = eval o X.env := by rfl) (hline : (apos.endLine == pos.line) = true := by rfl) (hK : F.K = X.K := by rfl) :
    PE X (.Call (.Attribute o "join" apos) [e] [] pos) (denE F (fStrM gJoin f1 f2)) :=
  (pe_join ho he hs hbase hline).imp fun σ H Q h => den_m1 (fun W H σ d e x y Q ok rx ry h => by
    unfold gJoin at h
    split at h
    · split at h
      · rename_i hys
        split at h
        · rename_i hz
          cases rx
          cases ry with
          | lst a1 b1 =>
            rw [strs_eq hys] at b1
            obtain rfl := b1.strs
            exact ⟨_, _, _, rfl, rfl, .inl (SqL.of (hid_le _ _ a1)), Nat.le_trans hz (by decide), h.val ok (.str _)⟩
        · exact h.elim
      · exact h.elim
    · exact h.elim) h
theorem de_split (ho : PE X o (denE F f1)) (he : PE X e (denE F f2)) (hs : starEach [e] X.env = [(false, eval e X.env)] := by rfl) (hbase : attributeBase o "split" X.env (eval o X.env) = eval o X.env := by rfl) (hline : (apos.endLine == pos.line) = true := by rfl) :
    PE X (.Call (.Attribute o "split" apos) [e] [] pos) (denE F (fStrM gSplit f1 f2)) :=
  (pe_split ho he hs hbase hline).imp fun σ H Q h => den_m1 (fun W H σ d e x y Q ok rx ry h => by
    unfold gSplit at h
    split at h
    · split at h
      · rename_i hz
        cases rx; cases ry
        exact ⟨_, _, rfl, rfl, hz.1, lim_le hz.2, fun p hp => h.new ok hp (rep_lst ok hp (Reps.ofStrs _))⟩
      · exact h.elim
    · exact h.elim) h
theorem de_rstrip (ho : PE X o (denE F f)) (hbase : attributeBase o "rstrip" X.env (eval o X.env) = eval o X.env := by rfl) (hline : (apos.endLine == pos.line) = true := by rfl) :
    PE X (.Call (.Attribute o "rstrip" apos) [] [] pos) (denE F (fUn gRstrip f)) :=
  (pe_m0 PySem.F.slot_str_rstrip PySem.F.type_str_rstrip mt_rstrip ho hbase hline).imp fun σ H Q ⟨ρ, W, I, q⟩ => ⟨ρ, W, I, q.bind fun d v H1 W1 g ok r q1 => by
    unfold gRstrip at q1
    split at q1
    · split at q1
      · rename_i hz
        cases r
        exact ⟨⟨_, rfl⟩, _, rfl, rfl, lim_le hz, q1.val ok (.str _)⟩
      · exact q1.elim
    · exact q1.elim⟩
theorem str_empty (y : Str) : Str.empty ++ y = y := by
  cases y with
  | mk c => show Str.mk (#[] ++ c) = _; simp
theorem de_fstr {pre : Str} {j : Nat} {p2 : Pos} (he : PE X e (denE F f)) : PE X (.JoinedStr [.Constant (.str pre) j p, .FormattedValue e (-1) none p2] pos) (denE F (fFmt pre f)) :=
  (pe_joined (.cons pe_str (.cons (pe_fmt he) .nil))).imp fun σ H Q ⟨ρ, W, I, q⟩ => by
    rw [fFmt] at q
    split at q
    · rename_i hp
      refine ⟨pre, rfl, by rw [str_empty]; exact lim_le (Nat.le_trans hp (by decide)), ρ, W, I, q.bind fun d v H1 W1 g ok r q1 => ?_⟩
      unfold gFmt at q1
      split at q1
      · split at q1
        · rename_i hz
          cases r
          refine .inr ⟨_, rfl, hz.1, _, rfl, ?_, ?_⟩
          · rw [str_empty]; exact lim_le hz.2
          · rw [str_empty]
            exact q1.val ok (.str _)
        · exact q1.elim
      · exact q1.elim
    · exact q.elim
theorem op_mulS {X : Cx} : OpR X (binaryOp .Mult) (fun x y H Q => ∃ a k, x = .str a ∧ y = .int k ∧ MulOk a k ∧ Q (.str (Txt.mul a k)) H) := by
  intro pins s σ H x y v u Q I rx ry h
  obtain ⟨i, j, rfl, rfl, hz, q⟩ := h
  obtain ⟨t, rfl⟩ := rx
  obtain ⟨t', rfl⟩ := ry
  exact SB.mul hz fun t' tk => ⟨.str _, H, I.tok _, ⟨_, rfl⟩, q⟩
theorem de_mulS (ha : PE X a (denE F f1)) (hb : PE X b (denE F f2)) : PE X (.BinOp a .Mult b pos) (denE F (fBin gMulS f1 f2)) := de_op op_mulS (by
  intro W H σ d e x y Q ok hT rx ry h
  unfold gMulS at h
  split at h
  · split at h
    · rename_i hz
      cases rx; cases ry
      obtain ⟨h0, h1, h2⟩ := hz
      rename_i x k
      refine ⟨_, _, rfl, rfl, ⟨?_, fun a1 a2 => ?_, fun a1 a2 => ?_⟩, h.val ok (.str _)⟩
      · simp; omega
      · have h3 : (1000 : Int) ≤ (2 ^ 63 - 1) / k := (Int.le_ediv_iff_mul_le (by omega)).mpr (by omega)
        omega
      · unfold PySem.Builtin.Str.tooLong
        have : x.length * k.toNat ≤ 1000 * 1000 := Nat.mul_le_mul h2 (by omega)
        have e : 1000000 ≤ sizeLine := by decide
        simp; omega
    · exact h.elim
  · exact h.elim) ha hb
theorem di_str (h : PE X e (denE F f)) : PI X tg e (denI F (fUn gChars f)) := (pi_str h).imp fun σ H T ⟨ρ, W, I, q⟩ => ⟨ρ, W, I, q.bind fun d v H1 W1 g ok r q1 => by
  unfold gChars at q1
  split at q1
  · rename_i z
    cases r
    refine ⟨_, rfl, ?_⟩
    refine q1 _ _ (fun _ => True) H1 W1 rfl (Gr.refl _ _) ok (by rw [List.length_map]; exact walk_str) (fun _ _ _ => trivial) fun i d W2 H2 x H3 g2 _ hd y => ?_
    obtain ⟨rfl, c, hc, rfl⟩ := y
    rw [List.getElem?_map] at hd
    obtain ⟨c', hc', rfl⟩ := Option.map_eq_some_iff.mp hd
    rw [Array.getElem?_toList] at hc'
    rw [hc] at hc'
    cases hc'
    exact ⟨Same.refl _, .str _⟩
  · exact q1.elim⟩
end
end Bx

namespace Bx
open PySem L2
/-! ### the store's lists and objects -/
/-- the tables' written part and names are the frame's -/
abbrev TxOk (F : Fm) : Prop := F.T.K = F.K ∧ F.T.mg = F.mg
section
variable {F : Fm} {W W' : Wd} {H H' : Hp} {σ : L2.St} {ρ : Rho} {l : Nat} {v : V} {o o' : O}
theorem ref_at (ok : WOk W H) (r : F.rep W H (.ref l) v) (h : W.S[l]? = some o) : ∃ a, v = .ref a ∧ W.μ l = some a ∧ ORep W H l a o := by
  cases r with
  | ref hμ =>
    obtain ⟨a, h1, h2⟩ := ok.obj l o h
    rw [hμ] at h1
    cases h1
    exact ⟨_, rfl, hμ, h2⟩
theorem lst_at_ref (hx : TxOk F) (hT : W.T = F.T) {a : Addr} {ds : List D} (h : ORep W H l a (.lst ds)) : W.M a = some (l + 2) ∧ noLs ds = true ∧ ∃ vs, H a = some (.lst vs) ∧ F.reps W H ds vs := by
  obtain ⟨h1, h2, vs, h3, h4⟩ := h
  rw [hT, hx.1, hx.2] at h4
  exact ⟨h1, h2, vs, h3, h4⟩
theorem obj_at_ref (hx : TxOk F) (hT : W.T = F.T) {a : Addr} {c : Str} {ns : List Str} {xs : List D} (h : ORep W H l a (.obj c ns xs)) : W.M a = some (l + 2) ∧ noLs xs = true ∧ ∃ C dx vs, F.mg c = some (.ref C) ∧ H a = some (.ins C dx (ns.zip vs)) ∧ ns.length = vs.length ∧ F.reps W H xs vs := by
  obtain ⟨h1, h2, C, dx, vs, h3, h4, h5, h6⟩ := h
  rw [hT, hx.2] at h3
  rw [hT, hx.1, hx.2] at h6
  exact ⟨h1, h2, C, dx, vs, h3, h4, h5, h6⟩
/-- an object of the store is changed -/
theorem st_set {a : Addr} {ho : HO} (ok : WOk W H) (hl : W.S[l]? = some o) (hμ : W.μ l = some a) (hMa : W.M a = some (l + 2)) (hc : ∀ q, H a ≠ some (LamX.CodeO a q)) (hn : ∀ H2 : Hp, H2 = upd H a ho → ORep { W with S := W.S.set l o' } H2 l a o') :
    WOk { W with S := W.S.set l o' } (upd H a ho) ∧ Gr W H { W with S := W.S.set l o' } (upd H a ho) := by
  have hlt : l < W.S.length := (List.getElem?_eq_some_iff.mp hl).1
  have hk : ∀ q, q ≠ a → upd H a ho q = H q := fun q h => upd_ne h
  have dom : ∀ p, H p ≠ none → upd H a ho p ≠ none := fun p hp => by
    by_cases e : p = a
    · subst e; rw [upd_same]; simp
    · rw [hk p e]; exact hp
  refine ⟨⟨fun p hp => dom p (ok.dom p hp), fun m x hx => ?_, fun m b hb => ?_, fun P q hT => (ok.tab P q hT).world (fun p h1 => ⟨h1, ?_⟩) (fun p q h1 h2 => ⟨h1, ?_⟩)⟩, ⟨fun p _ => rfl, fun p o hp hq => ?_, dom, fun _ _ h => h, rfl⟩⟩
  · by_cases e : m = l
    · subst e
      have hx : (W.S.set m o')[m]? = some x := hx
      rw [List.getElem?_set_self hlt] at hx
      cases hx
      exact ⟨a, hμ, hn _ rfl⟩
    · have hx : (W.S.set l o')[m]? = some x := hx
      rw [List.getElem?_set_ne (Ne.symm e)] at hx
      obtain ⟨b, h1, h2⟩ := ok.obj m x hx
      refine ⟨b, h1, h2.world (W' := { W with S := W.S.set l o' }) (fun _ _ q => q) (fun p o hp _ => ?_) (by rfl) fun q hq => ⟨hq, hk q fun z => ?_⟩⟩
      · obtain ⟨p1, p2⟩ := hid_some.mp hp
        exact hid_some.mpr ⟨p1, (hk p fun z => by rw [z, hMa] at p1; cases p1).trans p2⟩
      · rw [z, hMa] at hq; simp at hq; omega
  · show m < (W.S.set l o').length
    rw [List.length_set]
    exact ok.bd m b hb
  · exact hk p fun z => by rw [z, hMa] at h1; simp at h1
  · exact hk p fun z => h1 (l + 1) (by rw [z]; exact hMa)
  · rw [hk p fun z => hq (l + 1) (by rw [z]; exact hMa)]
    exact hp
/-- the world in which a frame's own object at p is the store's -/
def putW (W : Wd) (p : Addr) (o : O) : Wd := ⟨fun q => if q = p then some (W.S.length + 2) else W.M q, fun m => if m = W.S.length then some p else W.μ m, W.S ++ [o], W.T⟩
theorem put_mu {p : Addr} (ok : WOk W H) : ∀ m b, W.μ m = some b → (putW W p o).μ m = some b := fun m b hm => by
  show (if m = W.S.length then some p else W.μ m) = some b
  rw [if_neg (Nat.ne_of_lt (ok.bd m b hm))]; exact hm
theorem put_sm {p : Addr} (hp : W.M p = some 0) : SameN (hid W.M H) (hid (putW W p o).M H) := fun q u hq _ => by
  obtain ⟨p1, p2⟩ := hid_some.mp hq
  exact hid_some.mpr ⟨(if_neg fun z => by rw [z, hp] at p1; cases p1).trans p1, p2⟩
theorem st_put {p : Addr} {o : O} (ok : WOk W H) (hp : W.M p = some 0) (hH : H p ≠ none) (hc : ∀ q, H p ≠ some (LamX.CodeO p q)) (ho : ORep (putW W p o) H W.S.length p o) : WOk (putW W p o) H := by
  refine ⟨fun q hq => ?_, fun m x hx' => ?_, fun m a hm => ?_, fun P q hT => (ok.tab P q hT).world (fun a h1 => ?_) (fun a q h1 h2 => ?_)⟩
  · by_cases e : q = p
    · subst e; exact hH
    · exact ok.dom q (by have : (if q = p then some (W.S.length + 2) else W.M q) ≠ none := hq
                         rwa [if_neg e] at this)
  · by_cases e : m = W.S.length
    · subst e
      have hx' : (W.S ++ [o])[W.S.length]? = some x := hx'
      rw [List.getElem?_concat_length] at hx'
      cases hx'
      exact ⟨p, if_pos rfl, ho⟩
    · have hx' : (W.S ++ [o])[m]? = some x := hx'
      have hm : m < W.S.length := by
        have := (List.getElem?_eq_some_iff.mp hx').1
        simp at this
        omega
      rw [List.getElem?_append_left hm] at hx'
      obtain ⟨a, h1, h2⟩ := ok.obj m x hx'
      exact ⟨a, (if_neg e).trans h1, h2.world (W' := putW W p o) (put_mu ok) (put_sm hp) (by rfl) fun q hq => ⟨(if_neg fun z => by rw [z, hp] at hq; simp at hq).trans hq, rfl⟩⟩
  · have hm : (if m = W.S.length then some p else W.μ m) = some a := hm
    show m < (W.S ++ [o]).length
    rw [List.length_append]
    split at hm
    · rename_i e; rw [e]; simp
    · have := ok.bd m a hm
      simp; omega
  · exact ⟨(if_neg fun z => by rw [z, hp] at h1; simp at h1).trans h1, rfl⟩
  · exact ⟨fun m => by
      show (if a = p then some (W.S.length + 2) else W.M a) ≠ some (m + 1)
      rw [if_neg fun z => hc q (by subst z; exact h2)]
      exact h1 m, rfl⟩
theorem put_gr {W0 : Wd} {H0 : Hp} {p : Addr} {o : O} (ok : WOk W H) (hn : H0 p = none) (g : Gr W0 H0 W H) : Gr W0 H0 (putW W p o) H :=
  ⟨fun q hq => (if_neg (show ¬ q = p from fun z => hq (by rw [z]; exact hn))).trans (g.ms q hq), g.ex, g.ds, fun m a h => put_mu ok m a (g.mu m a h), g.tt⟩
theorem put_lst {p : Addr} {ds : List D} {vs : List V} (hx : TxOk F) (hT : W.T = F.T) (ok : WOk W H) (hp : W.M p = some 0) (hH : H p = some (.lst vs)) (hn : noLs ds = true) (r : F.reps W H ds vs) : WOk (putW W p (.lst ds)) H :=
  st_put ok hp (by rw [hH]; simp) (lst_code hH p) ⟨if_pos rfl, hn, vs, hH, by
    show Reps W.T.K W.T.mg _ _ ds vs
    rw [hT, hx.1, hx.2]
    exact Reps.monoN (put_mu ok) (put_sm hp) _ _ hn r⟩
theorem put_ref {p : Addr} {o : O} : F.rep (putW W p o) H (.ref W.S.length) (.ref p) := .ref (if_pos rfl)
end
section
variable {X : Cx} {F : Fm} {a b e o : Expr} {es : List Expr} {f f1 f2 : Fn D} {fs : Fn (List D)} {fx : Fn Sl} {pos pos' p apos : Pos} {cn nm : Str}
/-- a new list for the store -/
@[simp] def fRefL (f : Fn Sl) : Fn D := fun ρ S => (f ρ S).bind fun sl S1 => match sl with
  | .ow ds => if noLs ds = true then .ok (.ref S1.length) (S1 ++ [.lst ds]) else .no
  | _ => .no
theorem de_refL (hx : TxOk F) (h : PE X e (denX F fx)) : PE X e (denE F (fRefL fx)) := h.imp fun σ H Q ⟨ρ, W, I, q⟩ => ⟨ρ, W, I, by
  unfold fRefL at q
  revert q
  cases fx ρ W.S with
  | ok sl S =>
    intro q v H1 W1 e g ok r
    cases sl with
    | ow ds =>
      have q : Post F F.rep W H σ (if noLs ds = true then .ok (.ref S.length) (S ++ [.lst ds]) else .no) Q := q
      split at q
      · rename_i hn
        obtain ⟨p, vs, rfl, h0, hm, hp, hr⟩ := r
        rw [← e] at q
        exact q (.ref p) H1 (putW W1 p (.lst ds)) rfl (put_gr ok h0 g) (put_lst hx ((I.go g ok).env.tk) ok hm hp hn hr) put_ref
      · exact q.elim
    | fz d => exact q.elim
    | un => exact r.elim
    | nw _ _ _ => exact r.elim
    | ex _ => exact r.elim
  | er x S => exact fun q => q
  | no => exact fun q => q⟩
/-- an object's field -/
def gOFld (cn nm : Str) : D → Store → R D
  | .ref l, S => match S[l]? with
    | some (.obj c ns xs) => if c = cn then (match (ns.zip xs).lookup nm with
      | some d => .ok d S
      | none => .no) else .no
    | _ => .no
  | _, _ => .no
theorem de_ofld {C : Addr} (hx : TxOk F) (he : PE X e (denE F f)) (hC : F.mg cn = some (.ref C)) (cl : Cls F.K C) (na : NoAttr F.K C nm) (hb : attributeBase e nm X.env (eval e X.env) = eval e X.env := by rfl) (hK : F.K = X.K := by rfl) : PE X (.Attribute e nm pos) (denE F (fUn (gOFld cn nm) f)) :=
  (pe_fld he hb).imp fun σ H Q ⟨ρ, W, I, q⟩ => ⟨ρ, W, I, q.bind fun d v H1 W1 g ok r q1 => by
    unfold gOFld at q1
    split at q1
    · split at q1
      · rename_i hl
        split at q1
        · rename_i hc
          subst hc
          split at q1
          · rename_i d hd
            obtain ⟨a, rfl, hμ, ho⟩ := ref_at ok r hl
            obtain ⟨_, _, C', dx, vs, h1, h2, h3, h4⟩ := obj_at_ref hx ((I.go g ok).env.tk) ho
            rw [hC] at h1
            cases h1
            obtain ⟨v, hv, r'⟩ := zip_look nm h4 hd
            exact ⟨a, C, dx, _, v, rfl, h2, by rw [← hK]; exact cl, by rw [← hK]; exact na, hv, Post.val (rel := F.rep) ok q1 r'⟩
          · exact q1.elim
        · exact q1.elim
      · exact q1.elim
    · exact q1.elim⟩
/-- an item of a store's list -/
def gOIx : D → D → Store → R D
  | .ref l, .int i, S => match S[l]? with
    | some (.lst ds) => (match atI ds i with
      | some d => .ok d S
      | none => .no)
    | _ => .no
  | _, _, _ => .no
theorem opd_oix (hx : TxOk F) : OpD F (rIx F.K) gOIx := by
  intro W H σ d e x y Q ok hT rx ry h
  unfold gOIx at h
  split at h
  · split at h
    · rename_i hl
      split at h
      · rename_i hd
        cases ry
        obtain ⟨a, rfl, hμ, ho⟩ := ref_at ok rx hl
        obtain ⟨_, _, vs, h2, h3⟩ := lst_at_ref hx hT ho
        obtain ⟨v, e1, r1⟩ := atI_rep h3 hd
        exact .inl ⟨_, _, _, v, rfl, rfl, SqL.of h2, e1, h.val ok r1⟩
      · exact h.elim
    · exact h.elim
  · exact h.elim
theorem de_oix (hx : TxOk F) (ha : PE X a (denE F f1)) (hb : PE X b (denE F f2)) (hs : PlainIx b := by exact fun _ _ => rfl) (hK : F.K = X.K := by rfl) : PE X (.Subscript a b pos) (denE F (fBin gOIx f1 f2)) := (pe_ix ix_seq ha hb hs).imp fun _ _ _ h => den_bin (by rw [← hK]; exact opd_oix hx) h
/-- tuple(..), list(..), len(..) of a store's list -/
def gOLst : D → Store → Option (List D)
  | .ref l, S => match S[l]? with
    | some (.lst ds) => some ds
    | _ => none
  | _, _ => none
def gOTuple : List D → Store → R D
  | [d], S => match gOLst d S with
    | some ds => .ok (.tup ds) S
    | none => .no
  | _, _ => .no
def gOLen : List D → Store → R D
  | [d], S => match gOLst d S with
    | some ds => .ok (.int ds.length) S
    | none => .no
  | _, _ => .no
def gOList : List D → Store → R (List D)
  | [d], S => match gOLst d S with
    | some ds => .ok ds S
    | none => .no
  | _, _ => .no
theorem olst_at {W : Wd} {H : Hp} {d : D} {v : V} {ds : List D} (hx : TxOk F) (hT : W.T = F.T) (ok : WOk W H) (r : F.rep W H d v) (h : gOLst d W.S = some ds) : ∃ a vs, v = .ref a ∧ H a = some (.lst vs) ∧ F.reps W H ds vs := by
  unfold gOLst at h
  split at h
  · split at h
    · rename_i hl
      cases h
      obtain ⟨a, rfl, hμ, ho⟩ := ref_at ok r hl
      obtain ⟨_, _, vs, h2, h3⟩ := lst_at_ref hx hT ho
      exact ⟨a, vs, rfl, h2, h3⟩
    · cases h
  · cases h
/-- a call's rule that knows the tables -/
def CalT (F : Fm) (r : List V → Hp → VK → Prop) (g : List D → Store → R D) : Prop := ∀ (W : Wd) (H : Hp) (σ : L2.St) (ds : List D) (vs : List V) (Q : VK), WOk W H → W.T = F.T → F.reps W H ds vs → Post F F.rep W H σ (g ds W.S) Q → r vs H Q
theorem den_cbT {r : List V → Hp → VK → Prop} {g : List D → Store → R D} (hg : CalT F r g) {σ : L2.St} {H : Hp} {Q : VK} (h : denE F (fUn g fs) σ H Q) : tCB r (denA F fs) σ H Q := by
  obtain ⟨ρ, W, I, q⟩ := h
  exact ⟨ρ, W, I, q.bind fun d v H1 W1 g1 ok r q1 => hg W1 H1 σ d v Q ok ((I.go g1 ok).env.tk) r q1⟩
theorem de_otuple (hx : TxOk F) (hg : Gl X "tuple") (hm : X.mg "tuple" = none) (ha : PA X [e] (denA F fs)) (he : starEach [e] X.env = (false, eval e X.env) :: starEach [] X.env := by rfl) (hK : F.K = X.K := by rfl) : PE X (.Call (.Name "tuple" p) [e] [] pos) (denE F (fUn gOTuple fs)) :=
  (pe_callTy call_tuple_of hg hm (by decide +kernel) ha (he := he)).imp fun _ _ _ h => den_cbT (by
    intro W H σ ds vs Q ok hT r h
    unfold gOTuple at h
    split at h
    · split at h
      · rename_i hd
        cases r with
        | cons r1 r2 =>
          cases r2
          obtain ⟨a, ws, rfl, h2, h3⟩ := olst_at hx hT ok r1 hd
          exact ⟨_, _, rfl, .inl ⟨SqL.of h2, fun l hl => h.new ok hl (rep_tup ok hl h3)⟩⟩
      · exact h.elim
    · exact h.elim) h
theorem de_olen (hx : TxOk F) (hg : Gl X "len") (hm : X.mg "len" = none) (ha : PA X [e] (denA F fs)) (he : starEach [e] X.env = (false, eval e X.env) :: starEach [] X.env := by rfl) (hK : F.K = X.K := by rfl) : PE X (.Call (.Name "len" p) [e] [] pos) (denE F (fUn gOLen fs)) :=
  (pe_callB call_len hg hm PySem.boot_len ha (he := he)).imp fun _ _ _ h => den_cbT (by
    intro W H σ ds vs Q ok hT r h
    unfold gOLen at h
    split at h
    · split at h
      · rename_i hd
        cases r with
        | cons r1 r2 =>
          cases r2
          obtain ⟨a, ws, rfl, h2, h3⟩ := olst_at hx hT ok r1 hd
          exact ⟨_, _, rfl, .inl ⟨_, SqL.of h2, rfl⟩, by rw [← h3.len]; exact h.val ok (.int _)⟩
      · exact h.elim
    · exact h.elim) h
theorem dx_olist (hx : TxOk F) (hg : Gl X "list") (hm : X.mg "list" = none) (ha : PA X [e] (denA F fs)) (he : starEach [e] X.env = (false, eval e X.env) :: starEach [] X.env := by rfl) (hK : F.K = X.K := by rfl) : PE X (.Call (.Name "list" p) [e] [] pos) (denX F (fCx gOList fs)) :=
  (pe_callTy call_list_of hg hm (by decide +kernel) ha (he := he)).imp fun σ H Q ⟨ρ, W, I, q⟩ => by
    refine ⟨ρ, W, I, q.bind fun ds vs H1 W1 g1 ok r q1 => ?_⟩
    split at q1
    · rename_i es S' he
      unfold gOList at he
      split at he
      · split at he
        · rename_i hd
          cases he
          cases r with
          | cons r1 r2 =>
            cases r2
            obtain ⟨a, ws, rfl, h2, h3⟩ := olst_at hx ((I.go g1 ok).env.tk) ok r1 hd
            exact ⟨_, _, rfl, .inl (SqL.of h2), fun l hl => Post.newX g1 ok hl q1 h3⟩
        · cases he
      · cases he
    · exact q1.elim
/-- the truth of a store's list -/
def gOTru (d : D) (S : Store) : R Bool := match gOLst d S with
  | some ds => .ok (!ds.isEmpty) S
  | none => .no
theorem dt_otru (hx : TxOk F) (ha : PE X a (denE F f)) (he : ∀ whole, isTrue a X.env whole = (do let v ← whole; standAt a.pos; holding [v] (truthy v)) := by intro _; rfl) (hK : F.K = X.K := by rfl) : PT X a (denT F (fUn gOTru f)) :=
  (pt_truth ha he).imp fun σ H Q ⟨ρ, W, I, q⟩ => ⟨ρ, W, I, q.bind fun d v H1 W1 g ok r q1 => by
    unfold gOTru at q1
    split at q1
    · rename_i ds hd
      obtain ⟨a, ws, rfl, h2, h3⟩ := olst_at hx ((I.go g ok).env.tk) ok r hd
      refine ⟨!ds.isEmpty, ?_, q1.val ok rfl⟩
      have hk : ds.isEmpty = ws.isEmpty := by
        have := h3.len
        cases ds <;> cases ws <;> simp_all
      rw [hk]
      exact .inl ⟨ws, SqL.of h2, rfl⟩
    · exact q1.elim⟩
end
end Bx

namespace Bx
open PySem L2
/-! ### the store's lists and objects changed; methods, properties, makings of the store's objects -/
section
variable {X : Cx} {F : Fm} {a b e o : Expr} {es : List Expr} {f f1 f2 : Fn D} {fs : Fn (List D)} {pos pos' p apos : Pos} {cn nm m : Str} {C : Addr}
/-- o.append(e) -/
@[simp] def sOApp (f1 f2 : Fn D) : Stm := liftE f1 fun d ρ S => if (gOLst d S).isSome = true then liftE f2 (fun y ρ S => match d with
  | .ref l => (match S[l]? with
    | some (.lst ds) => if ds.length < LIM ∧ noL y = true then .mk (.nx ρ) (S.set l (.lst (ds ++ [y]))) else .no
    | _ => .no)
  | _ => .no) ρ S else .no
theorem IF.set_st {W : Wd} {H H' : Hp} {σ : L2.St} {ρ : Rho} {S' : Store} (I : IF F W H σ ρ) (ok : WOk { W with S := S' } H') (g : Gr W H { W with S := S' } H') : IF F { W with S := S' } H' σ ρ := I.go g ok
theorem ds_oapp (hx : TxOk F) (ho : PE X o (denE F f1)) (he : PE X e (denE F f2)) (hst : starEach [e] X.env = (false, eval e X.env) :: starEach [] X.env := by rfl)
    (hbase : attributeBase o "append" X.env (eval o X.env) = eval o X.env := by rfl)
    (hfew : ((backTo p (starEach [e] X.env)).all (fun x => !x.1) && (backToKw p (keywordEach [] X.env)).all (fun x => x.1.isSome)
      && decide ([e].length + ([] : List Keyword).length + (if ([] : List Keyword).isEmpty then 0 else 1) < 30)) = true := by rfl)
    (hline : (apos.endLine == p.line) = true := by rfl) (hplain : (backTo p (starEach [] X.env)).any (·.1) = false := by rfl)
    (hs : swapsWith (.Call (.Attribute o "append" apos) [e] [] p) none pos.line X.env = pure false := by rfl) (hK : F.K = X.K := by rfl) : PS X (.Expr (.Call (.Attribute o "append" apos) [e] [] p) pos) (denS F (sOApp f1 f2)) :=
  (ps_expr (pe_bm PySem.F.plainAttrs_list PySem.F.slot_list_append PySem.F.type_list_append mt_append ho (pa_cons he pa_nil hst) hbase hfew hline hst hplain) hs).imp fun En σ H ⟨ρ, W, I, q⟩ => ⟨ρ, W, I, by
    unfold sOApp at q
    refine q.bind I fun d v H1 W1 g1 ok1 r1 q1 => ?_
    have I1 := I.go g1 ok1
    split at q1
    · rename_i hd
      obtain ⟨ds0, hd⟩ := Option.isSome_iff_exists.mp hd
      obtain ⟨l, rfl⟩ : ∃ l, d = .ref l := by
        unfold gOLst at hd
        split at hd
        · exact ⟨_, rfl⟩
        · cases hd
      obtain ⟨a, vs, rfl, h2, h3⟩ := olst_at hx I1.env.tk ok1 r1 hd
      refine ⟨.inl ⟨rfl, vs, SqL.of h2⟩, ρ, W1, I1, q1.bind I1 fun y v H2 W2 g2 ok2 r2 q2 => ?_⟩
      have I2 := I1.go g2 ok2
      have q2 : PostS F En W2 H2 (match W2.S[l]? with
        | some (.lst ds) => if ds.length < LIM ∧ noL y = true then .mk (.nx ρ) (W2.S.set l (.lst (ds ++ [y]))) else .no
        | _ => .no) := q2
      · split at q2
        · rename_i ds hl
          split at q2
          · rename_i hz
            obtain ⟨a', ea, hμ, ho'⟩ := ref_at ok2 (rep_gr g2.s r1) hl
            cases ea
            obtain ⟨hM, hn, ws, hH, hr⟩ := lst_at_ref hx I2.env.tk ho'
            refine ⟨a, ws, v, rfl, rfl, hH, by rw [← hr.len]; exact lim_lt hz.1, ?_⟩
            have nl : noLs (ds ++ [y]) = true := by
              have : ∀ xs : List D, noLs xs = true → noLs (xs ++ [y]) = true := fun xs => by
                induction xs with
                | nil => intro _; show (noL y && noLs []) = true; rw [hz.2]; rfl
                | cons x xs ih =>
                  intro h
                  have h : (noL x && noLs xs) = true := h
                  rw [Bool.and_eq_true] at h
                  show (noL x && noLs (xs ++ [y])) = true
                  rw [h.1, ih h.2]; rfl
              exact this ds hn
            obtain ⟨ok3, g3⟩ := st_set (o' := .lst (ds ++ [y])) (ho := .lst (ws ++ [v])) ok2 hl hμ hM (fun q z => by rw [hH] at z; cases z) (fun H2' e => by
              subst e
              refine ⟨hM, nl, _, upd_same, ?_⟩
              show Reps W2.T.K W2.T.mg _ (hid W2.M (upd H2 a _)) _ _
              rw [hid_own (by rw [hM]; simp), I2.env.tk, hx.1, hx.2]
              exact hr.append (.cons r2 .nil))
            exact PostS.nil (W := { W2 with S := W2.S.set l (.lst (ds ++ [y])) }) (I2.go g3 ok3) (q2.weaken g3.s)
          · exact q2.elim
        · exact q2.elim
    · exact q1.elim⟩
/-- o.pop() -/
@[simp] def sOPop (f1 : Fn D) : Stm := liftE f1 fun d ρ S => match d with
  | .ref l => (match S[l]? with
    | some (.lst ds) => if ds.length ≠ 0 then .mk (.nx ρ) (S.set l (.lst ds.dropLast)) else .no
    | _ => .no)
  | _ => .no
theorem Reps.dropLast {K : PySem.W.Frag} {mg : Str → Option Value} {μ : Nat → Option Addr} {H : Hp} {ds : List D} {vs : List V} (h : Reps K mg μ H ds vs) : Reps K mg μ H ds.dropLast vs.dropLast := by
  rw [List.dropLast_eq_take, List.dropLast_eq_take, h.len]
  exact h.take _
theorem noLs_take : ∀ (n : Nat) (xs : List D), noLs xs = true → noLs (xs.take n) = true
  | 0, _, _ => by simp [noLs]
  | n + 1, [], _ => by simp [noLs]
  | n + 1, x :: xs, h => by
    have h : (noL x && noLs xs) = true := h
    rw [Bool.and_eq_true] at h
    show (noL x && noLs (xs.take n)) = true
    rw [h.1, noLs_take n xs h.2]; rfl
theorem ds_opop (hx : TxOk F) (ho : PE X o (denE F f1))
    (hbase : attributeBase o "pop" X.env (eval o X.env) = eval o X.env := by rfl) (hline : (apos.endLine == p.line) = true := by rfl)
    (hs : swapsWith (.Call (.Attribute o "pop" apos) [] [] p) none pos.line X.env = pure false := by rfl) (hK : F.K = X.K := by rfl) : PS X (.Expr (.Call (.Attribute o "pop" apos) [] [] p) pos) (denS F (sOPop f1)) :=
  (ps_expr (pe_bm0 PySem.F.plainAttrs_list PySem.F.slot_list_pop PySem.F.type_list_pop mt_pop ho hbase hline) hs).imp fun En σ H ⟨ρ, W, I, q⟩ => ⟨ρ, W, I, by
    unfold sOPop at q
    refine q.bind I fun d v H1 W1 g1 ok1 r1 q1 => ?_
    have I1 := I.go g1 ok1
    split at q1
    · rename_i l
      split at q1
      · rename_i ds hl
        split at q1
        · rename_i hz
          obtain ⟨a, rfl, hμ, ho'⟩ := ref_at ok1 r1 hl
          obtain ⟨hM, hn, ws, hH, hr⟩ := lst_at_ref hx I1.env.tk ho'
          have hw : ws.length ≠ 0 := by rw [← hr.len]; exact hz
          refine ⟨.inl ⟨rfl, ws, SqL.of hH⟩, a, ws, ws[ws.length - 1], rfl, rfl, hH, by rw [List.getElem?_eq_getElem], ?_⟩
          obtain ⟨ok3, g3⟩ := st_set (o' := .lst ds.dropLast) (ho := .lst ws.dropLast) ok1 hl hμ hM (fun q z => by rw [hH] at z; cases z) (fun H2' e => by
            subst e
            refine ⟨hM, by rw [List.dropLast_eq_take]; exact noLs_take _ _ hn, _, upd_same, ?_⟩
            show Reps W1.T.K W1.T.mg _ (hid W1.M (upd H1 a _)) _ _
            rw [hid_own (by rw [hM]; simp), I1.env.tk, hx.1, hx.2]
            exact hr.dropLast)
          exact PostS.nil (W := { W1 with S := W1.S.set l (.lst ds.dropLast) }) (I1.go g3 ok3) (q1.weaken g3.s)
        · exact q1.elim
      · exact q1.elim
    · exact q1.elim⟩
/-- o.nm = e -/
def setAt (nm : Str) (d : D) : List Str → List D → List D
  | n :: ns, x :: xs => if n = nm then d :: xs else x :: setAt nm d ns xs
  | _, xs => xs
@[simp] def sOFld (cn nm : Str) (fo fe : Fn D) : Stm := liftE fe fun y ρ S => liftE fo (fun d ρ S => match d with
  | .ref l => (match S[l]? with
    | some (.obj c ns xs) => if c = cn ∧ nm ∈ ns ∧ ns.length < 100 ∧ noL y = true then .mk (.nx ρ) (S.set l (.obj c ns (setAt nm y ns xs))) else .no
    | _ => .no)
  | _ => .no) ρ S
theorem put_at {nm : Str} {v : V} {y : D} {K : PySem.W.Frag} {mg : Str → Option Value} {μ : Nat → Option Addr} {H : Hp} (ry : Rep K mg μ H y v) : ∀ {ns : List Str} {xs : List D} {vs : List V}, nm ∈ ns → ns.length = vs.length → Reps K mg μ H xs vs →
    ∃ ws, putF nm v (ns.zip vs) = ns.zip ws ∧ ns.length = ws.length ∧ Reps K mg μ H (setAt nm y ns xs) ws
  | [], _, _, h, _, _ => by cases h
  | n :: ns, [], vs, _, hl, r => by cases r; simp at hl
  | n :: ns, x :: xs, _, h, hl, r => by
    cases r with
    | @cons _ _ u us r1 r2 =>
      by_cases e : n = nm
      · refine ⟨v :: us, ?_, hl, ?_⟩
        · show (if n = nm then (n, v) :: ns.zip us else (n, u) :: putF nm v (ns.zip us)) = _
          rw [if_pos e]; rfl
        · show Reps _ _ _ _ (if n = nm then y :: xs else x :: setAt nm y ns xs) _
          rw [if_pos e]
          exact .cons ry r2
      · have hm : nm ∈ ns := by
          rcases List.mem_cons.mp h with z | z
          · exact absurd z.symm e
          · exact z
        obtain ⟨ws, e1, e2, e3⟩ := put_at ry hm (by simpa using hl) r2
        refine ⟨u :: ws, ?_, by simpa using e2, ?_⟩
        · show (if n = nm then (n, v) :: ns.zip us else (n, u) :: putF nm v (ns.zip us)) = _
          rw [if_neg e, e1]; rfl
        · show Reps _ _ _ _ (if n = nm then y :: xs else x :: setAt nm y ns xs) _
          rw [if_neg e]
          exact .cons r1 e3
theorem noLs_set {nm : Str} {y : D} (hy : noL y = true) : ∀ (ns : List Str) (xs : List D), noLs xs = true → noLs (setAt nm y ns xs) = true
  | [], xs, h => by unfold setAt; exact h
  | n :: ns, [], _ => rfl
  | n :: ns, x :: xs, h => by
    have h : (noL x && noLs xs) = true := h
    rw [Bool.and_eq_true] at h
    show noLs (if n = nm then y :: xs else x :: setAt nm y ns xs) = true
    split
    · show (noL y && noLs xs) = true
      rw [hy, h.2]; rfl
    · show (noL x && noLs (setAt nm y ns xs)) = true
      rw [h.1, noLs_set hy ns xs h.2]; rfl
theorem ds_ofld (hx : TxOk F) (ho : PE X o (denE F f1)) (hC : F.mg cn = some (.ref C)) (cl : Cls F.K C) (na : NoAttr F.K C nm) (he : PE X e (denE F f2)) (hs : swapsWith e (some (.Attribute o nm pos')) pos.line X.env = pure false := by rfl) (hK : F.K = X.K := by rfl) :
    PS X (.Assign [.Attribute o nm pos'] e pos) (denS F (sOFld cn nm f1 f2)) := (ps_fld ho he hs).imp fun En σ H ⟨ρ, W, I, q⟩ => ⟨ρ, W, I, by
  unfold sOFld at q
  refine q.bind I fun y v H1 W1 g1 ok1 r1 q1 => ?_
  have I1 := I.go g1 ok1
  refine ⟨ρ, W1, I1, q1.bind I1 fun d u H2 W2 g2 ok2 r2 q2 => ?_⟩
  have I2 := I1.go g2 ok2
  split at q2
  · rename_i l
    split at q2
    · rename_i c ns xs hl
      split at q2
      · rename_i hz
        obtain ⟨h0, h1, h2, h3⟩ := hz
        subst h0
        obtain ⟨a, rfl, hμ, ho'⟩ := ref_at ok2 r2 hl
        obtain ⟨hM, hn, C', dx, vs, hC', hH, hlen, hr⟩ := obj_at_ref hx I2.env.tk ho'
        rw [hC] at hC'
        cases hC'
        obtain ⟨ws, e1, e2, e3⟩ := put_at (rep_gr g2.s r1) h1 hlen hr
        refine ⟨a, C, dx, ns.zip vs, rfl, hH, by rw [← hK]; exact cl, by rw [← hK]; exact na, by rw [List.length_zip]; omega, ?_⟩
        rw [e1]
        obtain ⟨ok3, g3⟩ := st_set (o' := .obj c ns (setAt nm y ns xs)) (ho := .ins C dx (ns.zip ws)) ok2 hl hμ hM (fun q z => by rw [hH] at z; cases z) (fun H2' e => by
          subst e
          refine ⟨hM, noLs_set h3 _ _ hn, C, dx, ws, by rw [I2.env.tk, hx.2]; exact hC, upd_same, e2, ?_⟩
          show Reps W2.T.K W2.T.mg _ (hid W2.M (upd H2 a _)) _ _
          rw [hid_own (by rw [hM]; simp), I2.env.tk, hx.1, hx.2]
          exact e3)
        exact PostS.nil (W := { W2 with S := W2.S.set l (.obj c ns (setAt nm y ns xs)) }) (I2.go g3 ok3) (q2.weaken g3.s)
      · exact q2.elim
    · exact q2.elim
  · exact q2.elim⟩

/-! ### methods and properties -/
def MCal (P : Program) (w : World) (K : PySem.W.Frag) (mg : Str → Option Value) (base : Heap) (T : Tx) (C : Addr) (k : Nat) (m : Str) (np : Nat) (sem : Sem) : Prop :=
  ∃ fa fd ps, Meth K C m fa ∧ FnOk P w K mg base (L2N.CX P w) k fa fd ps (spD K mg T (np + 1) sem) ∧ Binds K fd ps []
def isObj (cn m : Str) : D → Store → Bool
  | .ref l, S => match S[l]? with
    | some (.obj c ns _) => decide (c = cn ∧ m ∉ ns)
    | _ => false
  | _, _ => false
theorem lookup_out {m : Str} : ∀ {ns : List Str} {vs : List V}, m ∉ ns → (ns.zip vs).lookup m = none
  | [], _, _ => rfl
  | n :: ns, [], _ => rfl
  | n :: ns, v :: vs, h => by
    have h1 : ¬ m = n := fun e => h (by simp [e])
    show (match m == n with | true => some v | false => (ns.zip vs).lookup m) = none
    rw [show (m == n) = false from by simpa using h1]
    exact lookup_out fun z => h (List.mem_cons_of_mem _ z)
theorem obj_is {W : Wd} {H : Hp} {d : D} {v : V} (hx : TxOk F) (hT : W.T = F.T) (ok : WOk W H) (r : F.rep W H d v) (h : isObj cn m d W.S = true) (hC : F.mg cn = some (.ref C)) : ∃ a dx fs, v = .ref a ∧ H a = some (.ins C dx fs) ∧ fs.lookup m = none := by
  unfold isObj at h
  split at h
  · split at h
    · rename_i c ns xs hl
      obtain ⟨rfl, hm⟩ := of_decide_eq_true h
      obtain ⟨a, rfl, hμ, ho⟩ := ref_at ok r hl
      obtain ⟨_, _, C', dx, vs, h1, h2, h3, h4⟩ := obj_at_ref hx hT ho
      rw [hC] at h1
      cases h1
      exact ⟨a, dx, _, rfl, h2, lookup_out hm⟩
    · cases h
  · cases h
def tMethS (C : Addr) (m : Str) (sp : Sp) (E : L2.St → XK) (ta : TE) (t : TA) : TE := fun σ H Q => ta σ H fun x H1 => ∃ a dx fs, x = .ref a ∧ H1 a = some (.ins C dx fs) ∧ fs.lookup m = none ∧ t σ H1 fun vs H2 => sp (x :: vs) H2 Q (E σ)
theorem pe_methS {pl : PySem.Sem Bool} {ta : TE} {t : TA} {k : Nat} {fa : Addr} {fd : FuncData} {ps : List Str} {sp : Sp} {E : L2.St → XK} (he : PE X o ta) (c : Cls X.K C) (hm : Meth X.K C m fa) (G : FnOk X.prog X.w X.K X.mg X.base (L2N.CX X.prog X.w) k fa fd ps sp) (hr : Room k X.A) (hb : Binds X.K fd ps []) (hx : ∀ σ, PassesAt (L2N.CX X.prog X.w) X σ (E σ)) (ha : PA X (e :: es) t)
    (hst : starEach (e :: es) X.env = (false, eval e X.env) :: starEach es X.env := by rfl) (hpl : (backTo pos (starEach es X.env)).any (·.1) = false := by rfl)
    (ht : eval (.Call (.Attribute o m apos) (e :: es) [] pos) X.env = (do
      let ov ← eval o X.env
      standAt apos.atName
      let (f, first) ← holding [ov] (getMethod ov m pl)
      callWith pos f first (backTo pos (starEach (e :: es) X.env)) (backToKw pos (keywordEach [] X.env))) := by rfl) :
    PE X (.Call (.Attribute o m apos) (e :: es) [] pos) (tMethS C m sp E ta t) := by
  refine ⟨fun pins s σ H Q I h => ?_⟩
  refine PySem.W.methodCall_KW (pl := pl) (thn (he.run pins s σ H _ I h) fun u s1 ⟨x, H1, I1, rx, a, dx, fs, ex, ea, l, q⟩ => ?_) ht
  subst ex
  obtain rfl : u = Value.ref a := rx
  refine getmeth_ok I1 ea c hm l ?_
  refine PySem.W.callWith_K (first := [.ref a]) (h₀ := X.base) I.ok.mod.kin hm.kp (thn (ha.run pos pins s1 σ H1 _ I1 q) fun us s2 ⟨vs, H2, I2, r, q2⟩ => ⟨I2.kIn, ?_⟩) hst hpl
  exact run_fnS (us := .ref a :: us) (vs := .ref a :: vs) G hr hb (hx σ) I2 (.cons rfl r) q2
theorem pe_methS0 {pl : PySem.Sem Bool} {ta : TE} {k : Nat} {fa : Addr} {fd : FuncData} {ps : List Str} {sp : Sp} {E : L2.St → XK} (he : PE X o ta) (c : Cls X.K C) (hm : Meth X.K C m fa) (G : FnOk X.prog X.w X.K X.mg X.base (L2N.CX X.prog X.w) k fa fd ps sp) (hr : Room k X.A) (hb : Binds X.K fd ps []) (hx : ∀ σ, PassesAt (L2N.CX X.prog X.w) X σ (E σ))
    (ht : eval (.Call (.Attribute o m apos) [] [] pos) X.env = (do
      let ov ← eval o X.env
      standAt apos.atName
      let (f, first) ← holding [ov] (getMethod ov m pl)
      callWith pos f first (backTo pos (starEach [] X.env)) (backToKw pos (keywordEach [] X.env))) := by rfl) :
    PE X (.Call (.Attribute o m apos) [] [] pos) (tMethS C m sp E ta tNil) := by
  refine ⟨fun pins s σ H Q I h => ?_⟩
  refine PySem.W.methodCall_KW (pl := pl) (thn (he.run pins s σ H _ I h) fun u s1 ⟨x, H1, I1, rx, a, dx, fs, ex, ea, l, q⟩ => ?_) ht
  subst ex
  obtain rfl : u = Value.ref a := rx
  refine getmeth_ok I1 ea c hm l ?_
  exact PySem.W.callWith_K0 (first := [.ref a]) I1.kIn hm.kp (run_fnS (us := [.ref a]) (vs := [.ref a]) G hr hb (hx σ) I1 (.cons rfl .nil) q)
/-- o.m(..) of an object of the store -/
@[simp] def fMeth (cn m : Str) (sem : Sem) (f : Fn D) (fs : Fn (List D)) : Fn D := fun ρ S => (f ρ S).bind fun d S1 => if isObj cn m d S1 = true then (fs ρ S1).bind fun ds S2 => sem (d :: ds) S2 else .no
theorem meth_post {W1 : Wd} {H1 : Hp} {σ : L2.St} {ρ : Rho} {Q : VK} {sem : Sem} {np : Nat} {ds : List D} {vs : List V} (hK : F.K = X.K) (hmg : F.mg = X.mg) (I : IF F W1 H1 σ ρ) (r : F.reps W1 H1 ds vs) (hl : ds.length = np) (q : Post F F.rep W1 H1 σ (sem ds W1.S) Q) : spD X.K X.mg F.T np sem vs H1 Q (WE F.wish σ) := by
  refine ⟨ds, W1, by rw [← r.len]; exact hl, ⟨I.ok, I.env.tk⟩, by rw [← hK, ← hmg]; exact r, ?_⟩
  refine Post.wish (F1 := F) (rel1 := F.rep) hmg.symm hK.symm (fun W H a b h => ?_) (fun cls dd H' h => h) q
  show Rep F.K F.mg _ _ _ _
  rw [hK, hmg]; exact h
theorem de_meth {sem : Sem} {k np : Nat} (hx : TxOk F) (c : MCal X.prog X.w X.K X.mg X.base F.T C k m np sem) (hr : Room k X.A) (hC : F.mg cn = some (.ref C)) (cl : Cls X.K C) (tk : L2N.Takes X F.wish) (ho : PE X o (denE F f)) (ha : PA X (e :: es) (denA F fs)) (hnp : (e :: es).length = np)
    (hlen : ∀ ρ S ds S', fs ρ S = .ok ds S' → ds.length = np) (hK : F.K = X.K := by rfl) (hmg : F.mg = X.mg := by rfl)
    (hst : starEach (e :: es) X.env = (false, eval e X.env) :: starEach es X.env := by rfl) (hpl : (backTo pos (starEach es X.env)).any (·.1) = false := by rfl)
    {pl : PySem.Sem Bool} (ht : eval (.Call (.Attribute o m apos) (e :: es) [] pos) X.env = (do
      let ov ← eval o X.env
      standAt apos.atName
      let (f, first) ← holding [ov] (getMethod ov m pl)
      callWith pos f first (backTo pos (starEach (e :: es) X.env)) (backToKw pos (keywordEach [] X.env))) := by rfl) :
    PE X (.Call (.Attribute o m apos) (e :: es) [] pos) (denE F (fMeth cn m sem f fs)) := by
  obtain ⟨fa, fd, ps, hm, G, hb⟩ := c
  refine (pe_methS ho cl hm G hr hb (E := WE F.wish) (fun σ => L2N.passAt tk σ) ha hst hpl ht).imp fun σ H Q ⟨ρ, W, I, q⟩ => ⟨ρ, W, I, q.bind fun d v H1 W1 g1 ok1 r1 q1 => ?_⟩
  have I1 := I.go g1 ok1
  split at q1
  · rename_i hi
    obtain ⟨a, dx, gs, rfl, h2, h3⟩ := obj_is hx I1.env.tk ok1 r1 hi hC
    refine ⟨a, dx, gs, rfl, h2, h3, ρ, W1, I1, ?_⟩
    cases hf : fs ρ W1.S with
    | no => rw [hf] at q1; exact q1
    | er x S => rw [hf] at q1; exact q1
    | ok ds S =>
      rw [hf] at q1
      have q1 : Post F F.rep W1 H1 σ (sem (d :: ds) S) Q := q1
      intro vs H2 W2 e2 g2 ok2 r2
      rw [← e2] at q1
      refine meth_post hK hmg (I1.go g2 ok2) (.cons (rep_gr g2.s r1) r2) ?_ (q1.weaken g2)
      have := hlen _ _ _ _ hf
      simp [this]
  · exact q1.elim
theorem de_meth0 {sem : Sem} {k : Nat} (hx : TxOk F) (c : MCal X.prog X.w X.K X.mg X.base F.T C k m 0 sem) (hr : Room k X.A) (hC : F.mg cn = some (.ref C)) (cl : Cls X.K C) (tk : L2N.Takes X F.wish) (ho : PE X o (denE F f)) (hK : F.K = X.K := by rfl) (hmg : F.mg = X.mg := by rfl)
    {pl : PySem.Sem Bool} (ht : eval (.Call (.Attribute o m apos) [] [] pos) X.env = (do
      let ov ← eval o X.env
      standAt apos.atName
      let (f, first) ← holding [ov] (getMethod ov m pl)
      callWith pos f first (backTo pos (starEach [] X.env)) (backToKw pos (keywordEach [] X.env))) := by rfl) :
    PE X (.Call (.Attribute o m apos) [] [] pos) (denE F (fMeth cn m sem f fNil)) := by
  obtain ⟨fa, fd, ps, hm, G, hb⟩ := c
  refine (pe_methS0 ho cl hm G hr hb (E := WE F.wish) (fun σ => L2N.passAt tk σ) ht).imp fun σ H Q ⟨ρ, W, I, q⟩ => ⟨ρ, W, I, q.bind fun d v H1 W1 g1 ok1 r1 q1 => ?_⟩
  have I1 := I.go g1 ok1
  split at q1
  · rename_i hi
    obtain ⟨a, dx, gs, rfl, h2, h3⟩ := obj_is hx I1.env.tk ok1 r1 hi hC
    refine ⟨a, dx, gs, rfl, h2, h3, ?_⟩
    exact meth_post hK hmg I1 (.cons r1 .nil) rfl q1
  · exact q1.elim
/-- a property of an object of the store -/
def gOProp (cn nm : Str) (f : Sem) : D → Store → R D := fun d S => if isObj cn nm d S = true then noer (fun x S1 => .ok x S1) (f [d] S) else .no
theorem de_oprop {sem : Sem} {k : Nat} {pr ga : Addr} {fd : FuncData} {ps : List Str} (hx : TxOk F) (he : PE X e (denE F f)) (hC : F.mg cn = some (.ref C)) (cl : Cls X.K C) (hp : PropOf X.K C nm pr ga) (G : FnOk X.prog X.w X.K X.mg X.base (L2N.CX X.prog X.w) k ga fd ps (spD X.K X.mg F.T 1 sem))
    (hr : Room (k + 1) X.A) (hb : Binds X.K fd ps []) (hab : attributeBase e nm X.env (eval e X.env) = eval e X.env := by rfl) (hK : F.K = X.K := by rfl) (hmg : F.mg = X.mg := by rfl) : PE X (.Attribute e nm pos) (denE F (fUn (gOProp cn nm sem) f)) :=
  (pe_prop he cl hp G hr hb .nil passLN hab).imp fun σ H Q ⟨ρ, W, I, q⟩ => ⟨ρ, W, I, q.bind fun d v H1 W1 g ok r q1 => by
    unfold gOProp at q1
    split at q1
    · rename_i hi
      obtain ⟨a, dx, fs, rfl, ha, _⟩ := obj_is hx ((I.go g ok).env.tk) ok r hi hC
      refine ⟨a, dx, fs, rfl, ha, [d], W1, rfl, ⟨ok, (I.go g ok).env.tk⟩, by rw [← hK, ← hmg]; exact .cons r .nil, ?_⟩
      revert q1
      cases sem [d] W1.S with
      | ok x S =>
        intro q1 b H' W' e g ok r
        exact q1 b H' W' e g ok (by
          show Rep F.K F.mg _ _ _ _
          rw [hK, hmg]; exact r)
      | er x S => exact fun q => q.elim
      | no => exact fun q => q.elim
    · exact q1.elim⟩

/-! ### making an object of the store -/
@[simp] def fMakeO (cn : Str) (f : SemI) (fs : Fn (List D)) : Fn D := fun ρ S => (fs ρ S).bind fun ds S1 => (f ds S1).bind fun p S2 => if noLs p.2 = true then .ok (.ref S2.length) (S2 ++ [.obj cn p.1 p.2]) else .no
theorem de_makeO {f : SemI} {k np : Nat} {fa : Addr} {fd : FuncData} {ps : List Str} {E : XK} (hx0 : TxOk F) (M : Mk X.K C fa) (G : FnOk X.prog X.w X.K X.mg X.base (L2N.CX X.prog X.w) k fa fd ps (spI X.K X.mg F.T C np f)) (hr : Room (k + 1) X.A) (hg : Gl X cn) (hm : X.mg cn = some (.ref C)) (hb : Binds X.K fd ps [])
    (hw : ∀ cls dd σ H, F.wish cls dd σ H = E cls dd H) (tk : L2N.Takes X F.wish) (ha : PA X (e :: es) (denA F fs)) (hlen : ∀ ρ S ds S', fs ρ S = .ok ds S' → ds.length = np) (hK : F.K = X.K := by rfl) (hmg : F.mg = X.mg := by rfl)
    (hdb : (cn == ("__debug__" : Str)) = false := by decide) (he : starEach (e :: es) X.env = (false, eval e X.env) :: starEach es X.env := by rfl) (hpl : (backTo pos (starEach es X.env)).any (·.1) = false := by rfl) :
    PE X (.Call (.Name cn p) (e :: es) [] pos) (denE F (fMakeO cn f fs)) :=
  (pe_make M G hr hg hm hb .nil (E := E) (L2N.passes_call tk fun cls d σ H h => by rw [hw]; exact h) ha hdb he hpl).imp fun σ H Q ⟨ρ, W, I, q⟩ => ⟨ρ, W, I, by
    unfold fMakeO at q
    cases hf : fs ρ W.S with
    | no => rw [hf] at q; exact q
    | er x S => rw [hf] at q; exact q
    | ok ds S =>
      rw [hf] at q
      have q : Post F F.rep W H σ ((f ds S).bind fun p S2 => if noLs p.2 = true then .ok (.ref S2.length) (S2 ++ [.obj cn p.1 p.2]) else .no) Q := q
      intro vs H1 W1 e1 g1 ok1 r1 x dx hx hdx hne
      refine ⟨x, dx, vs, ds, W1, H1, by rw [List.append_nil], ?_, rfl, hx, hdx, hne, ⟨ok1, (I.go g1 ok1).env.tk⟩, by rw [← hK, ← hmg]; exact r1, ?_⟩
      · rw [← r1.len]; exact hlen _ _ _ _ hf
      · rw [e1]
        cases hs : f ds S with
        | no => rw [hs] at q; exact q.elim
        | er y S2 =>
          rw [hs] at q
          intro cls dd H' W' e g ok r
          rw [← hw cls dd σ]
          refine q cls dd H' W' e (g1.trans g) ok ?_
          obtain ⟨C', h1, h2, h3⟩ := r
          refine ⟨C', by rw [hmg]; exact h1, h2, ?_⟩
          cases hx : y.fld with
          | none => rw [hx] at h3; exact h3
          | some fs =>
            rw [hx] at h3
            obtain ⟨d, ws, a, b, c⟩ := h3
            refine ⟨d, ws, a, b, ?_⟩
            show Reps F.K F.mg _ _ _ _
            rw [hK, hmg]
            exact c
        | ok nx S2 =>
          rw [hs] at q
          obtain ⟨ns, xs⟩ := nx
          intro H' W' ws dx' e g ok hM hH hl r
          refine ⟨rfl, ?_⟩
          have q : Post F F.rep W H σ (if noLs xs = true then .ok (.ref S2.length) (S2 ++ [.obj cn ns xs]) else .no) Q := q
          split at q
          · rename_i hn
            have hx0' : H x = none := by
              cases z : H x with
              | none => rfl
              | some u => exact absurd hx (g1.ds x (by simp [z]))
            rw [← e] at q
            have hT : W'.T = F.T := ((g1.trans g).tt).trans I.env.tk
            exact q (.ref x) H' (putW W' x (.obj cn ns xs)) rfl (put_gr ok hx0' (g1.trans g)) (st_put ok hM (by rw [hH]; simp) (ins_code hH x) ⟨if_pos rfl, hn, C, dx', ws, by
              show W'.T.mg cn = _
              rw [hT, hx0.2, hmg]; exact hm, hH, hl, by
              show Reps W'.T.K W'.T.mg _ _ xs ws
              rw [hT, hx0.1, hx0.2, hK, hmg]
              exact Reps.monoN (put_mu ok) (put_sm hM) _ _ hn r⟩) put_ref
          · exact q.elim⟩
end
end Bx

namespace Bx
open PySem PySem.Spec PyProof.Rows L2
/-! ### len(x) by an own __len__ -/
theorem len_own {prog : Program} {w : World} {A : Around} {E : Value → Shared → Prop} {s : Shared} {K : PySem.W.Frag} {x C f : Addr} {ox : Obj} {odd : Option Obj} {Q : Value → Shared → Prop} (X : K.In s.heap) (I : PySem.W.InstAt s.heap x ox C odd) (hs : PySem.W.findIn K (.ref C) "__len__" = some (some (.ref f))) (hf : PySem.W.isFn K (.ref f) = true)
    (h : wpAny (model prog w) A.in1 (call (.ref f) [.ref x]) (fun r s₁ => ∃ n u, r = Value.int n u ∧ 0 ≤ n ∧ n < 2 ^ 62 ∧ ∀ t k, Q (.int n t) { s₁ with toks := k }) E s) : wpAny (model prog w) A (call (.builtin "len") [.ref x]) Q E s := by
  refine Calls.call_function_entry kind_len plain_len entry_len (args_len1 _) ?_
  unfold Builtin.«len»
  refine wpAny_bind (m := oneArg "len" _) (wpAny_pure ?_)
  refine wpAny_bind (m := callSpecial? (.ref x) (Str.ofString "__len__")) (PySem.W.special_fn X I hs (beq_iff_eq.mp hf) (wpAny_mono h (fun r s' hr => ?_) fun _ _ y => y))
  obtain ⟨n, u, rfl, h0, h1, hq⟩ := hr
  refine wpAny_bind (wpAny_holding (wpAny_pure ?_))
  refine wpAny_bind (wpAny_letGo ?_)
  show wpAny _ _ (if n < 0 then _ else _) _ _ _
  rw [if_neg (by omega)]
  show wpAny _ _ (if n ≥ 2 ^ 63 then _ else _) _ _ _
  rw [if_neg (by omega)]
  exact wpAny_bind (wpAny_mkInt (wpAny_pure ⟨_, rfl, hq _ _⟩))
def rLenOwn (C : Addr) (sp : Sp) : List V → Hp → VK → Prop := fun xs H Q => ∃ a dx fs, xs = [.ref a] ∧ H a = some (.ins C dx fs) ∧ sp [.ref a] H (fun v H' => ∃ n : Int, v = .int n ∧ 0 ≤ n ∧ n < 2 ^ 62 ∧ Q (.int n) H') E0
theorem cr_lenOwn {X : Cx} {k : Nat} {C f : Addr} {fd : FuncData} {ps : List Str} {sp : Sp} (hr : Room (k + 1) X.A) (G : FnOk X.prog X.w X.K X.mg X.base (L2N.CX X.prog X.w) k f fd ps sp) (hs : PySem.W.findIn X.K (.ref C) "__len__" = some (some (.ref f))) (hf : PySem.W.isFn X.K (.ref f) = true) (hb : Binds X.K fd ps []) : CallR X (.builtin "len") (rLenOwn C sp) := by
  intro pins s σ H xs us Q I r h
  obtain ⟨a, dx, fs, rfl, ha, hsp⟩ := h
  rw [Vals.ref1 r]
  obtain ⟨mA, J, _⟩ := ins_get I.hok ha
  obtain ⟨od, J, _⟩ := J.look
  refine len_own I.kIn J hs hf ?_
  have hl := G.len _ _ _ _ hsp
  have r2 : Vals [V.ref a] [Value.ref a] := .cons rfl .nil
  refine wpAny_call (codeAny_mono (G.run X.A.in1 X.stack s H ⟨[.ref a], []⟩ [.ref a] [.ref a] _ E0 hr.in1 I.env0.in1 (by
    have := hb s [.ref a] I.kIn (by simpa using hl)
    simpa using this) r2 hsp) fun r s' hq => ?_)
  cases r with
  | error e => exact (passLN pins σ H s e s' (I.wish (X := X) (fun _ _ => False)) hq).elim
  | ok fl =>
    cases fl with
    | ret w =>
      obtain ⟨z, H', I', rz, n, ez, h0, h1, q⟩ := I.after hq
      subst ez
      obtain ⟨t, rfl⟩ := rz
      exact ⟨n, t, rfl, h0, h1, fun t2 k => ⟨.int n, H', I'.tok _, ⟨_, rfl⟩, q⟩⟩
    | next => exact False.elim hq
    | brk => exact False.elim hq
    | cont => exact False.elim hq
/-- len(o) of an object of the store -/
def gOLenM (cn : Str) (f : Sem) : D → Store → R D := fun d S => if isObj cn "__len__" d S = true then (match f [d] S with
  | .ok (.int n) S1 => if 0 ≤ n ∧ n < 2 ^ 62 then .ok (.int n) S1 else .no
  | _ => .no) else .no
theorem de_olenM {X : Cx} {F : Fm} {e : Expr} {f : Fn D} {p pos : Pos} {cn : Str} {C fa : Addr} {sem : Sem} {k : Nat} {fd : FuncData} {ps : List Str} (hx : TxOk F) (hs : PySem.W.findIn X.K (.ref C) "__len__" = some (some (.ref fa))) (hf : PySem.W.isFn X.K (.ref fa) = true) (G : FnOk X.prog X.w X.K X.mg X.base (L2N.CX X.prog X.w) k fa fd ps (spD X.K X.mg F.T 1 sem)) (hb : Binds X.K fd ps []) (hr : Room (k + 1) X.A)
    (hC : F.mg cn = some (.ref C)) (hg : Gl X "len") (hm : X.mg "len" = none) (he : PE X e (denE F f)) (h1 : starEach [e] X.env = (false, eval e X.env) :: starEach [] X.env := by rfl) (hK : F.K = X.K := by rfl) (hmg : F.mg = X.mg := by rfl) : PE X (.Call (.Name "len" p) [e] [] pos) (denE F (fUn (gOLenM cn sem) f)) :=
  (pe_callB (cr_lenOwn hr G hs hf hb) hg hm PySem.boot_len (pa_cons he pa_nil h1) (he := h1)).imp fun σ H Q ⟨ρ, W, I, q⟩ => ⟨ρ, W, I, q.bind fun d v H1 W1 g ok r q1 => by
    unfold gOLenM at q1
    split at q1
    · rename_i hi
      obtain ⟨a, dx, fs, rfl, ha, _⟩ := obj_is hx ((I.go g ok).env.tk) ok r hi hC
      refine ⟨a, dx, fs, rfl, ha, [d], W1, rfl, ⟨ok, (I.go g ok).env.tk⟩, by rw [← hK, ← hmg]; exact .cons r .nil, ?_⟩
      revert q1
      cases sem [d] W1.S with
      | ok x S =>
        intro q1 b H' W' e g ok r
        have q1 : Post F F.rep W1 H1 σ (match (.ok x S : R D) with
          | .ok (.int n) S1 => if 0 ≤ n ∧ n < 2 ^ 62 then .ok (.int n) S1 else .no
          | _ => .no) Q := q1
        cases x with
        | int n =>
          have q1 : Post F F.rep W1 H1 σ (if 0 ≤ n ∧ n < 2 ^ 62 then .ok (.int n) S else .no) Q := q1
          split at q1
          · rename_i hn
            cases r
            exact ⟨n, rfl, hn.1, hn.2, q1 _ H' W' e g ok (.int _)⟩
          · exact q1.elim
        | _ => exact q1.elim
      | er x S => exact fun q => q.elim
      | no => exact fun q => q.elim
    · exact q1.elim⟩
/-- a, b, c = x, y, z -/
@[simp] def sPar3 (i j l : Nat) (fs : Fn (List D)) : Stm := liftE fs fun ds ρ S => match ds with
  | [a, b, c] => if i < ρ.length ∧ j < ρ.length ∧ l < ρ.length then .mk (.nx (((ρ.set i (.fz a)).set j (.fz b)).set l (.fz c))) S else .no
  | _ => .no
theorem ds_par3 {X : Cx} {F : Fm} {i j l : Nat} {x y z : Str} {a b c : Expr} {fs : Fn (List D)} {px py pz pt pos : Pos} {kt k2 pt2} (hc : X.calm = true) (hN : X.N.Nodup) (hi : X.N[i]? = some x) (hj : X.N[j]? = some y) (hl : X.N[l]? = some z) (hij : i ≠ j) (hil : i ≠ l) (hjl : j ≠ l)
    (hx : X.env.scope.names.lookup x = some .local) (hy : X.env.scope.names.lookup y = some .local) (hz : X.env.scope.names.lookup z = some .local) (ha : PA X [a, b, c] (denA F fs))
    (hw : swappedStores [.Tuple [.Name x px, .Name y py, .Name z pz] kt pt] (.Tuple [a, b, c] k2 pt2) X.env = pure (some [x, y, z]))
    (hs : swapsWithSole [.Tuple [.Name x px, .Name y py, .Name z pz] kt pt] (.Tuple [a, b, c] k2 pt2) pos.line X.env = pure false := by rfl) :
    PS X (.Assign [.Tuple [.Name x px, .Name y py, .Name z pz] kt pt] (.Tuple [a, b, c] k2 pt2) pos) (denS F (sPar3 i j l fs)) :=
  (ps_par3 hc hN hi hj hl hij hil hjl hx hy hz ha hw hs).imp fun En σ H ⟨ρ, W, I, q⟩ => ⟨ρ, W, I, by
    unfold sPar3 at q
    refine q.bind I fun ds vs H1 W1 g ok r q1 => ?_
    have I1 := I.go g ok
    split at q1
    · split at q1
      · rename_i h
        cases r with
        | cons r1 r2 =>
          cases r2 with
          | cons r2 r3 =>
            cases r3 with
            | cons r3 r4 =>
              cases r4
              refine ⟨_, _, _, rfl, PostS.nil ⟨ok, I1.gr, ?_⟩ q1⟩
              exact ((I1.env.set r1 h.1).set r2 (by rw [List.length_set]; exact h.2.1)).set r3 (by rw [List.length_set, List.length_set]; exact h.2.2)
      · exact q1.elim
    · exact q1.elim⟩
end Bx

namespace Bx
open PySem L2
/-! ### the store's dicts: keys are tuples (of tuples) of integers, values integers -/
mutual
def toNk : D → Option NestedKey
  | .non => some .none
  | .int i => some (.num i)
  | .str x => some (.text x)
  | .tup ds => (toNks ds).map .tup
  | _ => none
def toNks : List D → Option (List NestedKey)
  | [] => some []
  | d :: ds => match toNk d, toNks ds with
    | some k, some ks => some (k :: ks)
    | _, _ => none
end
mutual
theorem ofNk_to : ∀ (d : D) (k : NestedKey), toNk d = some k → ofNk k = d
  | .non, _, h => by cases h; rfl
  | .int _, _, h => by cases h; rfl
  | .str _, _, h => by cases h; rfl
  | .tup ds, k, h => by
    have h : (toNks ds).map NestedKey.tup = some k := h
    cases hs : toNks ds with
    | none => rw [hs] at h; cases h
    | some ks =>
      rw [hs] at h
      cases h
      show D.tup (ofNks ks) = _
      rw [ofNks_to ds ks hs]
  | .bl _, _, h => by cases h
  | .lst _, _, h => by cases h
  | .ins _ _ _, _, h => by cases h
  | .scr _, _, h => by cases h
  | .dct _ _, _, h => by cases h
  | .ref _, _, h => by cases h
  | .fn _, _, h => by cases h
theorem ofNks_to : ∀ (ds : List D) (ks : List NestedKey), toNks ds = some ks → ofNks ks = ds
  | [], _, h => by cases h; rfl
  | d :: ds, ks, h => by
    have h : (match toNk d, toNks ds with
      | some k, some ks => some (k :: ks)
      | _, _ => none) = some ks := h
    cases h1 : toNk d with
    | none => rw [h1] at h; cases h
    | some k1 =>
      cases h2 : toNks ds with
      | none => rw [h1, h2] at h; cases h
      | some ks1 =>
        rw [h1, h2] at h
        cases h
        show ofNk k1 :: ofNks ks1 = _
        rw [ofNk_to d k1 h1, ofNks_to ds ks1 h2]
end
section
variable {P : Program} {w : World} {K : PySem.W.Frag} {mg : Str → Option Value} {μ : Nat → Option Addr} {H H' : Hp} {h : Heap}
mutual
theorem nk_is (hok : HOk P w H' h) (le : Same H H') : ∀ (k : NestedKey) (v : V) (u : Value), Rep K mg μ H (ofNk k) v → RelV v u → NestedIs h k u
  | .none, _, u, r, q => by cases r; have q : u = .none := q; subst q; exact .none
  | .num i, _, u, r, q => by cases r; obtain ⟨t, q⟩ := q; subst q; exact .int i t
  | .text x, _, u, r, q => by cases r; obtain ⟨t, q⟩ := q; subst q; exact .text x t
  | .tup ks, _, u, r, q => by
    cases r with
    | @tup a vs ds h1 h2 =>
      have q : u = .ref a := q
      subst q
      obtain ⟨z, its, r, ho⟩ := hok a _ (le _ _ h1)
      obtain ⟨o, ho, hc, n, hd⟩ := ho
      exact .tup ho hc hd (by
        show NestedAll h ks its.toArray.toList
        rw [List.toList_toArray]
        exact nks_is hok le ks _ _ h2 r)
theorem nks_is (hok : HOk P w H' h) (le : Same H H') : ∀ (ks : List NestedKey) (vs : List V) (us : List Value), Reps K mg μ H (ofNks ks) vs → Vals vs us → NestedAll h ks us
  | [], _, us, r, q => by cases r; cases q; exact .nil
  | k :: ks, _, us, r, q => by
    cases r with
    | cons r1 r2 =>
      cases q with
      | cons q1 q2 => exact .cons (nk_is hok le k _ _ r1 q1) (nks_is hok le ks _ _ r2 q2)
end
end

/-- the values at the keys -/
def getNk (kvs : List (NestedKey × Int)) (k : NestedKey) : Option Int := (kvs.find? fun x => decide (x.1 = k)).map (·.2)
def setNk (kvs : List (NestedKey × Int)) (k : NestedKey) (v : Int) : List (NestedKey × Int) := if (getNk kvs k).isSome then kvs.map fun x => if x.1 = k then (x.1, v) else x else kvs ++ [(k, v)]
def KvR (x : NestedKey × Addr × Value) (y : NestedKey × Int) : Prop := x.1 = y.1 ∧ ∃ t, x.2.2 = .int y.2 t
theorem kv_get {k : NestedKey} : ∀ {xs : List (NestedKey × Addr × Value)} {kvs : List (NestedKey × Int)}, Paired KvR xs kvs → (∀ i, getNk kvs k = some i → ∃ p t, atKey xs k = some p ∧ p.2 = .int i t) ∧ (atKey xs k).isSome = (getNk kvs k).isSome
  | _, _, .nil => ⟨fun i h => (by cases h), rfl⟩
  | x :: xs, y :: kvs, .cons r rs => by
    obtain ⟨h1, h2⟩ := kv_get (k := k) rs
    obtain ⟨e, t, ev⟩ := r
    by_cases c : y.1 = k
    · have a1 : atKey (x :: xs) k = some x.2 := by simp [atKey, e, c]
      have a2 : getNk (y :: kvs) k = some y.2 := by simp [getNk, c]
      rw [a1, a2]
      exact ⟨fun i hi => by cases hi; exact ⟨x.2, t, rfl, ev⟩, rfl⟩
    · have a1 : atKey (x :: xs) k = atKey xs k := by simp [atKey, e, c]
      have a2 : getNk (y :: kvs) k = getNk kvs k := by simp [getNk, c]
      rw [a1, a2]
      exact ⟨h1, h2⟩
theorem paired_snoc {α β : Type} {R : α → β → Prop} {x : α} {y : β} (r : R x y) : ∀ {l1 : List α} {l2 : List β}, Paired R l1 l2 → Paired R (l1 ++ [x]) (l2 ++ [y])
  | _, _, .nil => .cons r .nil
  | _, _, .cons q qs => .cons q (paired_snoc r qs)
theorem kv_set {xs : List (NestedKey × Addr × Value)} {kvs : List (NestedKey × Int)} (r : Paired KvR xs kvs) (k : NestedKey) (b : Addr) (i : Int) (t : Tok) : Paired KvR (storedH xs k b (.int i t)) (setNk kvs k i) := by
  have hs := (kv_get (k := k) r).2
  unfold storedH setNk
  rw [hs]
  split
  · rename_i hh
    clear hs hh
    induction r with
    | nil => exact .nil
    | @cons x y xs kvs r rs ih =>
      refine .cons ?_ ih
      obtain ⟨e, tv, ev⟩ := r
      show KvR (putAt k (.int i t) x) (if y.1 = k then (y.1, i) else y)
      unfold putAt
      by_cases c : y.1 = k
      · rw [if_pos (e.trans c), if_pos c]
        exact ⟨e, t, rfl⟩
      · rw [if_neg (fun z => c (e.symm.trans z)), if_neg c]
        exact ⟨e, tv, ev⟩
  · exact paired_snoc (R := KvR) ⟨rfl, t, rfl⟩ r
theorem stored_mem {xs : List (NestedKey × Addr × Value)} {k : NestedKey} {b : Addr} {u : Value} {z : NestedKey × Addr × Value} (h : z ∈ storedH xs k b u) : (∃ y ∈ xs, y.1 = z.1 ∧ y.2.1 = z.2.1) ∨ (z.1 = k ∧ z.2.1 = b) := by
  unfold storedH at h
  split at h
  · obtain ⟨y, hy, rfl⟩ := List.mem_map.mp h
    refine .inl ⟨y, hy, ?_⟩
    unfold putAt
    split <;> exact ⟨rfl, rfl⟩
  · rcases List.mem_append.mp h with h | h
    · exact .inl ⟨z, h, rfl, rfl⟩
    · simp at h
      subst h
      exact .inr ⟨rfl, rfl⟩
/-- at b stands the key k -/
def KIs (P : Program) (w : World) (H : Hp) (k : NestedKey) (b : Addr) : Prop := k.depth ≤ 8 ∧ ∀ h, HOk P w H h → NestedIs h k (.ref b)
/-- at a stands the dict with the entries xs -/
def DKs (P : Program) (w : World) (H : Hp) (a : Addr) (xs : List (NestedKey × Addr × Value)) : Prop := (a == sysModules) = false ∧ H a = some (DicO w a xs) ∧ (∀ x ∈ xs, KIs P w H x.1 x.2.1) ∧ (xs.map (·.1)).Nodup
section
variable {P : Program} {w : World} {H : Hp} {h : Heap} {a b : Addr} {k : NestedKey} {xs : List (NestedKey × Addr × Value)}
theorem DKs.at (d : DKs P w H a xs) (hok : HOk P w H h) : h.DictOfH (nestedKind P w) a xs := by
  obtain ⟨_, e, hk, hn⟩ := d
  obtain ⟨⟨o, es, ep, h1, h2, h3, h4⟩, _, _⟩ := hok a _ e
  exact ⟨o, es, ep, h1, h2, h3, h4, fun x hx => ⟨(hk x hx).2 h hok, (hk x hx).1⟩, hn⟩
theorem dic_ok {H' : Hp} {o : Obj} {es : Array DictEntry} {ep : _} (h1 : h.get? a = some o) (h2 : o.ExactDict) (h3 : o.data = .dict es ep) (h4 : es.toList = xs.map fun x => (⟨x.1.hash w, .ref x.2.1, x.2.2⟩ : DictEntry)) : ObjOk P w H' h a (DicO w a xs) :=
  ⟨⟨o, es, ep, h1, h2, h3, h4⟩, ⟨o, h1⟩, fun _ _ ⟨o, es, ep, q1, q2⟩ k => ⟨o, es, ep, k o q1, q2⟩⟩
end
theorem nc_of {w : World} {h : Heap} {a : Addr} {xs : List (NestedKey × Addr × Value)} {o : Obj} {es : Array DictEntry} {ep : _} (h1 : h.get? a = some o) (h2 : o.ExactDict) (h3 : o.data = .dict es ep) (h4 : es.toList = xs.map fun x => (⟨x.1.hash w, .ref x.2.1, x.2.2⟩ : DictEntry)) : ∀ q, DicO w a xs ≠ LamX.CodeO a q := fun q e => by
  have e := HO.ext.inj e
  have e := congrFun e h
  have c : ∃ (oc : Obj) (vs : Array Value) (t : Tok), h.get? a = some oc ∧ oc.data = .fields vs ∧ vs[1]? = some (.str q t) := by
    rw [← e]
    exact ⟨o, es, ep, h1, h2, h3, h4⟩
  obtain ⟨oc, vs, t, c1, c2, _⟩ := c
  rw [h1] at c1
  cases c1
  rw [h3] at c2
  cases c2
def tKGet (P : Program) (w : World) (td ty : TE) : TE := fun σ H Q => td σ H fun x H1 => ty σ H1 fun y H2 => ∃ a b k xs i p t, x = .ref a ∧ y = .ref b ∧ KIs P w H2 k b ∧ DKs P w H2 a xs ∧ atKey xs k = some p ∧ p.2 = .int i t ∧ Q (.int i) H2
def tKIn (P : Program) (w : World) (g : Bool → Bool) (ty td : TE) : TE := fun σ H Q => ty σ H fun y H1 => td σ H1 fun x H2 => ∃ a b k xs, x = .ref a ∧ y = .ref b ∧ KIs P w H2 k b ∧ DKs P w H2 a xs ∧ Q (.bl (g (atKey xs k).isSome)) H2
def sKPut (P : Program) (w : World) (td ty tv : TE) : TS := fun D σ H => tv σ H fun v H1 => td σ H1 fun x H2 => ty σ H2 fun y H3 => ∃ a b k xs i, x = .ref a ∧ y = .ref b ∧ v = .int i ∧ KIs P w H3 k b ∧ DKs P w H3 a xs ∧ xs.length ≤ sizeLine ∧
  ∀ t, (∀ q, DicO w a xs ≠ LamX.CodeO a q) → ((storedH xs k b (.int i t)).map (·.1)).Nodup → D.nx σ (upd H3 a (DicO w a (storedH xs k b (.int i t))))
def tKNew (w : World) : TE := fun _ H Q => ∀ p, H p = none → (p == sysModules) = false → (∀ q, DicO w p [] ≠ LamX.CodeO p q) → Q (.ref p) (upd H p (DicO w p []))
section
variable {X : Cx} {o i e value : Expr} {pos pos' : Pos} {td ty tv : TE}
theorem nk_room {X : Cx} (hu : X.A.units + 64 < cLine) : (nestedKind X.prog X.w).room X.A.in1 := by
  show X.A.units + 1 + 8 < cLine
  omega
theorem pe_kget (hu : X.A.units + 64 < cLine) (ho : PE X o td) (hi : PE X i ty) (hs : NoSl i) : PE X (.Subscript o i pos) (tKGet X.prog X.w td ty) := by
  refine ⟨fun pins s σ H Q I h => ?_⟩
  refine subD_of PySem.F.slot_dict_getitem.lookup hs (thn (ho.run pins s σ H _ I h) fun u s1 ⟨x, H1, I1, rx, q1⟩ => thn (hi.run pins s1 σ H1 _ I1 q1) fun iv s2 ⟨y, H2, I2, ry, a, b, k, xs, v, p, t, ex, ey, hk, hd, hp, hv, q2⟩ => ?_)
  subst ex ey
  obtain rfl : u = Value.ref a := rx
  obtain rfl : iv = Value.ref b := ry
  have dd := hd.at I2.hok
  refine ⟨dd.typeIs, wpAny_getItem_heap (nk_room hu) ⟨hk.2 _ I2.hok, hk.1⟩ dd hp ?_⟩
  exact ⟨.int v, H2, I2.tok _, ⟨t, hv⟩, q2⟩
theorem pc_kin (hu : X.A.units + 64 < cLine) (hi : PE X i ty) (ho : PE X o td) : PC X .In i o (tKIn X.prog X.w id ty td) := by
  refine ⟨fun pins s σ H Q I h => ?_⟩
  refine thn (hi.run pins s σ H _ I h) fun iv s1 ⟨y, H1, I1, ry, q1⟩ => thn (ho.run pins s1 σ H1 _ I1 q1) fun u s2 ⟨x, H2, I2, rx, a, b, k, xs, ex, ey, hk, hd, q2⟩ => ?_
  subst ex ey
  obtain rfl : u = Value.ref a := rx
  obtain rfl : iv = Value.ref b := ry
  exact wpAny_in_heap (nk_room hu) ⟨hk.2 _ I2.hok, hk.1⟩ hd.1 (hd.at I2.hok) ⟨.bl _, H2, I2.tok _, rfl, q2⟩
theorem pc_knotin (hu : X.A.units + 64 < cLine) (hi : PE X i ty) (ho : PE X o td) : PC X .NotIn i o (tKIn X.prog X.w not ty td) := by
  refine ⟨fun pins s σ H Q I h => ?_⟩
  refine thn (hi.run pins s σ H _ I h) fun iv s1 ⟨y, H1, I1, ry, q1⟩ => thn (ho.run pins s1 σ H1 _ I1 q1) fun u s2 ⟨x, H2, I2, rx, a, b, k, xs, ex, ey, hk, hd, q2⟩ => ?_
  subst ex ey
  obtain rfl : u = Value.ref a := rx
  obtain rfl : iv = Value.ref b := ry
  exact PyProof.Rows.wpAny_notIn_heap (nk_room hu) ⟨hk.2 _ I2.hok, hk.1⟩ hd.1 (hd.at I2.hok) ⟨.bl _, H2, I2.tok _, rfl, q2⟩
theorem ps_kput (hu : X.A.units + 64 < cLine) (ho : PE X o td) (hi : PE X i ty) (hv : PE X value tv) (hs : swapsWith value (some (.Subscript o i pos')) pos.line X.env = pure false) :
    PS X (.Assign [.Subscript o i pos'] value pos) (sKPut X.prog X.w td ty tv) := by
  refine ⟨fun pins s σ H D I h => ?_⟩
  refine wpAny_Assign_Subscript (thn (hv.run pins s σ H _ I h) fun r s1 ⟨v, H1, I1, rv, q1⟩ => thn (ho.run pins s1 σ H1 _ I1 q1) fun u s2 ⟨x, H2, I2, rx, q2⟩ => thn (hi.run pins s2 σ H2 _ I2 q2) fun iv s3 ⟨y, H3, I3, ry, a, b, k, xs, n, ex, ey, ev, hk, hd, hz, q3⟩ => ?_) hs
  subst ex ey ev
  obtain rfl : u = Value.ref a := rx
  obtain rfl : iv = Value.ref b := ry
  obtain ⟨t, rfl⟩ := rv
  refine wpAny_setItem_heap (hsz := hz) (nk_room hu) ⟨hk.2 _ I3.hok, hk.1⟩ (hd.at I3.hok) fun h' dd' hsb => ?_
  obtain ⟨q, es, ep, hq, h2, h3, h4, _, h5⟩ := dd'
  have hnc : ∀ q, DicO X.w a xs ≠ LamX.CodeO a q := by
    obtain ⟨o, es, ep, k1, k2, k3, k4, _⟩ := hd.at I3.hok
    exact nc_of k1 k2 k3 k4
  exact ⟨σ, _, I3.write (x := a) (e := a) (by rw [hd.2.1]; exact True.intro) (.inl rfl) (fun b' q' hb z => (hsb.2 b' hb).trans z) ⟨q, hq⟩ (dic_ok hq h2 h3 h4), q3 t hnc h5⟩
theorem pe_knew : PE X (.Dict [] [] pos) (tKNew X.w) := ⟨fun pins s σ H Q I h => by
  have hb : (s.heap.objs.size == sysModules) = false := beq_eq_false_iff_ne.mpr (Ne.symm (Nat.ne_of_lt I.big))
  exact wpAny_Dict_empty ⟨.ref s.heap.objs.size, _, I.laid (a := s.heap.objs.size) (o := DicO X.w s.heap.objs.size []) (t' := s.toks) (fun _ _ q => Heap.get?_push_of_some _ q) (Nat.le_refl _)
    (dic_ok (Heap.get?_push_size _ rfl) ⟨rfl, rfl, rfl⟩ rfl rfl), rfl, h _ (I.hok.fresh (Nat.le_refl _)) hb (nc_of (h := s.heap.push { cls := .type "dict", data := .dict #[] }) (Heap.get?_push_size _ rfl) ⟨rfl, rfl, rfl⟩ rfl rfl)⟩⟩
end

/-! ### data's dicts -/
theorem paired_of {α β : Type} {R : α → β → Prop} : ∀ {l1 : List α} {l2 : List β}, l1.length = l2.length → (∀ p ∈ l1.zip l2, R p.1 p.2) → Paired R l1 l2
  | [], [], _, _ => .nil
  | x :: l1, y :: l2, h, q => .cons (q (x, y) (by simp)) (paired_of (by simpa using h) fun p hp => q p (by simp [hp]))
theorem paired_to {α β : Type} {R : α → β → Prop} : ∀ {l1 : List α} {l2 : List β}, Paired R l1 l2 → l1.length = l2.length ∧ ∀ p ∈ l1.zip l2, R p.1 p.2
  | _, _, .nil => ⟨rfl, fun p h => by simp at h⟩
  | _, _, .cons r rs => by
    obtain ⟨h1, h2⟩ := paired_to rs
    refine ⟨by simp [h1], fun p hp => ?_⟩
    simp at hp
    rcases hp with rfl | hp
    · exact r
    · exact h2 p hp
def gDic : D → Store → Option (List (NestedKey × Int))
  | .ref l, S => match S[l]? with
    | some (.dic kvs) => some kvs
    | _ => none
  | _, _ => none
def nkD (d : D) : Option NestedKey := match toNk d with
  | some k => if k.depth ≤ 8 then (match d with | .tup _ => some k | _ => none) else none
  | none => none
theorem nkD_of {d : D} {k : NestedKey} (h : nkD d = some k) : toNk d = some k ∧ k.depth ≤ 8 ∧ ∃ ds, d = .tup ds := by
  unfold nkD at h
  cases hk : toNk d with
  | none => rw [hk] at h; cases h
  | some k' =>
    rw [hk] at h
    simp only at h
    split at h
    · rename_i hd
      split at h
      · cases h
        exact ⟨rfl, hd, _, rfl⟩
      · cases h
    · cases h
section
variable {F : Fm} {W : Wd} {H : Hp} {l : Nat} {kvs : List (NestedKey × Int)}
theorem key_is {P : Program} {w : World} {d : D} {k : NestedKey} {v : V} (h : nkD d = some k) (r : F.rep W H d v) : ∃ b, v = .ref b ∧ KIs P w H k b ∧ Rep F.K F.mg W.μ (hid W.M H) (ofNk k) (.ref b) := by
  obtain ⟨h1, h2, ds, rfl⟩ := nkD_of h
  have e := ofNk_to _ _ h1
  rw [← e] at r
  have r0 := r
  rw [e] at r
  cases r with
  | tup q1 q2 => exact ⟨_, rfl, ⟨h2, fun h hok => nk_is hok hid_le k _ _ r0 rfl⟩, r0⟩
theorem dic_at {P : Program} {w : World} {d : D} {v : V} (hx : TxOk F) (hT : W.T = F.T) (hw : F.T.w = w) (ok : WOk W H) (r : F.rep W H d v) (h : gDic d W.S = some kvs) :
    ∃ l a xs, d = .ref l ∧ v = .ref a ∧ W.S[l]? = some (.dic kvs) ∧ W.μ l = some a ∧ W.M a = some (l + 2) ∧ DKs P w H a xs ∧ Paired KvR xs kvs ∧ ∀ x ∈ xs, x.1.depth ≤ 8 ∧ Rep F.K F.mg W.μ (hid W.M H) (ofNk x.1) (.ref x.2.1) := by
  cases d with
  | ref l =>
    have h : (match W.S[l]? with
      | some (.dic kvs) => some kvs
      | _ => none) = some kvs := h
    split at h
    · rename_i kv hl
      cases h
      obtain ⟨a, rfl, hμ, h1, h0, xs, h2, h3, h4, h5, h6⟩ := ref_at ok r hl
      rw [hT, hw] at h2
      rw [hT, hx.1, hx.2] at h3
      exact ⟨l, a, xs, rfl, rfl, hl, hμ, h1, ⟨h0, h2, fun x hx => ⟨(h3 x hx).1, fun h hok => nk_is hok hid_le x.1 _ _ (h3 x hx).2 rfl⟩, h4⟩, paired_of h5 h6, h3⟩
    · cases h
  | _ => cases h
end
/-- d[k] -/
def gKGet (d k : D) (S : Store) : R D := match gDic d S, nkD k with
  | some kvs, some nk => (match getNk kvs nk with
    | some i => .ok (.int i) S
    | none => .no)
  | _, _ => .no
/-- k in d; n: not in -/
def gKIn (n : Bool) (k d : D) (S : Store) : R D := match gDic d S, nkD k with
  | some kvs, some nk => .ok (.bl (xor n (getNk kvs nk).isSome)) S
  | _, _ => .no
/-- {} -/
@[simp] def fKNew : Fn D := fun _ S => .ok (.ref S.length) (S ++ [.dic []])
/-- d[k] = e -/
@[simp] def sKSet (fd fk fe : Fn D) : Stm := liftE fe fun y ρ S => liftE fd (fun d ρ S => liftE fk (fun k ρ S => match d, gDic d S, nkD k, y with
  | .ref l, some kvs, some nk, .int i => if kvs.length < LIM then .mk (.nx ρ) (S.set l (.dic (setNk kvs nk i))) else .no
  | _, _, _, _ => .no) ρ S) ρ S
section
variable {X : Cx} {F : Fm} {a b e o i : Expr} {f f1 f2 f3 : Fn D} {pos pos' : Pos}
theorem de_dnew (hx : TxOk F) (hw : F.T.w = X.w) : PE X (.Dict [] [] pos) (denE F fKNew) := pe_knew.imp fun σ H Q ⟨ρ, W, I, q⟩ p hp hs hc => by
  obtain ⟨ok1, g1⟩ := mask_new (o := DicO X.w p []) I.ok hp
  refine q (.ref p) _ (putW (mask p W) p (.dic [])) rfl (put_gr ok1 hp g1) (st_put ok1 mask_self (by rw [upd_same]; simp) (fun q z => by
    rw [upd_same] at z
    exact hc q (Option.some.inj z)) ⟨if_pos rfl, hs, [], ?_, fun x hx => (by cases hx), List.nodup_nil, rfl, fun p hp => (by cases hp)⟩) put_ref
  show upd H p (DicO X.w p []) p = some (DicO W.T.w p [])
  rw [upd_same, I.env.tk, hw]
theorem de_kget (hx : TxOk F) (hw : F.T.w = X.w) (hu : X.A.units + 64 < cLine) (ho : PE X o (denE F f1)) (hi : PE X i (denE F f2)) (hs : NoSl i := by exact fun _ _ => rfl) : PE X (.Subscript o i pos) (denE F (fBin gKGet f1 f2)) :=
  (pe_kget hu ho hi hs).imp fun σ H Q ⟨ρ, W, I, q⟩ => ⟨ρ, W, I, q.bind fun d v H1 W1 g1 ok1 r1 q1 => ⟨ρ, W1, I.go g1 ok1, q1.bind fun k v2 H2 W2 g2 ok2 r2 q2 => by
    unfold gKGet at q2
    split at q2
    · rename_i kvs nk hd hk
      split at q2
      · rename_i n hn
        obtain ⟨l, a, xs, rfl, rfl, hl, hμ, hM, hD, hP, hR⟩ := dic_at (P := X.prog) hx (((I.go g1 ok1).go g2 ok2).env.tk) hw ok2 (rep_gr g2.s r1) hd
        obtain ⟨b, rfl, hK, _⟩ := key_is (P := X.prog) (w := X.w) hk r2
        obtain ⟨p, t, e1, e2⟩ := (kv_get (k := nk) hP).1 _ hn
        exact ⟨a, b, nk, xs, n, p, t, rfl, rfl, hK, hD, e1, e2, q2.val ok2 (.int n)⟩
      · exact q2.elim
    · exact q2.elim⟩⟩
theorem den_kin {n : Bool} (hx : TxOk F) (hw : F.T.w = X.w) {σ : L2.St} {H : Hp} {Q : VK} (h : denE F (fBin (gKIn n) f2 f1) σ H Q) : tKIn X.prog X.w (xor n) (denE F f2) (denE F f1) σ H Q := by
  obtain ⟨ρ, W, I, q⟩ := h
  exact ⟨ρ, W, I, q.bind fun k v H1 W1 g1 ok1 r1 q1 => ⟨ρ, W1, I.go g1 ok1, q1.bind fun d v2 H2 W2 g2 ok2 r2 q2 => by
    unfold gKIn at q2
    split at q2
    · rename_i kvs nk hd hk
      obtain ⟨l, a, xs, rfl, rfl, hl, hμ, hM, hD, hP, hR⟩ := dic_at (P := X.prog) hx (((I.go g1 ok1).go g2 ok2).env.tk) hw ok2 r2 hd
      obtain ⟨b, rfl, hK, _⟩ := key_is (P := X.prog) (w := X.w) hk (rep_gr g2.s r1)
      refine ⟨a, b, nk, xs, rfl, rfl, hK, hD, ?_⟩
      rw [(kv_get (k := nk) hP).2]
      exact q2.val ok2 (.bl _)
    · exact q2.elim⟩⟩
theorem de_kin (hx : TxOk F) (hw : F.T.w = X.w) (hu : X.A.units + 64 < cLine) (hi : PE X i (denE F f1)) (ho : PE X o (denE F f2)) (hm : behindInMarks .In o = false := by rfl) : PE X (.Compare i [.In] [o] pos) (denE F (fBin (gKIn false) f1 f2)) :=
  (pe_cmp (pc_kin hu hi ho) hm).imp fun σ H Q h => by
    have := den_kin hx hw h
    have e : xor false = id := by funext b; cases b <;> rfl
    rwa [e] at this
theorem de_knotin (hx : TxOk F) (hw : F.T.w = X.w) (hu : X.A.units + 64 < cLine) (hi : PE X i (denE F f1)) (ho : PE X o (denE F f2)) (hm : behindInMarks .NotIn o = false := by rfl) : PE X (.Compare i [.NotIn] [o] pos) (denE F (fBin (gKIn true) f1 f2)) :=
  (pe_cmp (pc_knotin hu hi ho) hm).imp fun σ H Q h => by
    have := den_kin hx hw h
    have e : xor true = not := by funext b; cases b <;> rfl
    rwa [e] at this
theorem dt_kin (hx : TxOk F) (hw : F.T.w = X.w) (hu : X.A.units + 64 < cLine) (hi : PE X i (denE F f1)) (ho : PE X o (denE F f2)) (hm : behindInMarks .In o = false := by rfl) : PT X (.Compare i [.In] [o] pos) (denT F (fUn gBl (fBin (gKIn false) f1 f2))) :=
  dt_of (pt_cmp (pc_kin hu hi ho) hm) fun σ H Q h => by
    have := den_kin hx hw h
    have e : xor false = id := by funext b; cases b <;> rfl
    rwa [e] at this
theorem dt_knotin (hx : TxOk F) (hw : F.T.w = X.w) (hu : X.A.units + 64 < cLine) (hi : PE X i (denE F f1)) (ho : PE X o (denE F f2)) (hm : behindInMarks .NotIn o = false := by rfl) : PT X (.Compare i [.NotIn] [o] pos) (denT F (fUn gBl (fBin (gKIn true) f1 f2))) :=
  dt_of (pt_cmp (pc_knotin hu hi ho) hm) fun σ H Q h => by
    have := den_kin hx hw h
    have e : xor true = not := by funext b; cases b <;> rfl
    rwa [e] at this
theorem ds_kset (hx : TxOk F) (hw : F.T.w = X.w) (hu : X.A.units + 64 < cLine) (ho : PE X o (denE F f1)) (hi : PE X i (denE F f2)) (hv : PE X e (denE F f3)) (hs : swapsWith e (some (.Subscript o i pos')) pos.line X.env = pure false := by rfl) :
    PS X (.Assign [.Subscript o i pos'] e pos) (denS F (sKSet f1 f2 f3)) :=
  (ps_kput hu ho hi hv hs).imp fun En σ H ⟨ρ, W, I, q⟩ => ⟨ρ, W, I, by
    unfold sKSet at q
    refine q.bind I fun y v H1 W1 g1 ok1 r1 q1 => ?_
    have I1 := I.go g1 ok1
    refine ⟨ρ, W1, I1, q1.bind I1 fun d v2 H2 W2 g2 ok2 r2 q2 => ?_⟩
    have I2 := I1.go g2 ok2
    refine ⟨ρ, W2, I2, q2.bind I2 fun k v3 H3 W3 g3 ok3 r3 q3 => ?_⟩
    have I3 := I2.go g3 ok3
    split at q3
    · rename_i l kvs nk n hk hd
      split at q3
      · rename_i hz
        obtain ⟨l', a, xs, el, rfl, hl, hμ, hM, hD, hP, hR⟩ := dic_at (P := X.prog) hx I3.env.tk hw ok3 (rep_gr g3.s r2) hd
        cases el
        obtain ⟨b, rfl, hK, hRb⟩ := key_is (P := X.prog) (w := X.w) hk r3
        cases r1
        refine ⟨a, b, nk, xs, n, rfl, rfl, rfl, hK, hD, by rw [(paired_to hP).1]; exact lim_le (Nat.le_of_lt hz), fun t hnc hnd => ?_⟩
        have hP' := kv_set hP nk b n t
        obtain ⟨p1, p2⟩ := paired_to hP'
        obtain ⟨ok4, g4⟩ := st_set (o' := .dic (setNk kvs nk n)) (ho := DicO X.w a (storedH xs nk b (.int n t))) ok3 hl hμ hM (fun q z => by rw [hD.2.1] at z; exact hnc q (Option.some.inj z)) (fun H4 e => by
          subst e
          refine ⟨hM, hD.1, storedH xs nk b (.int n t), ?_, fun z hz => ?_, hnd, p1, p2⟩
          · show upd H3 a _ a = some (DicO W3.T.w a _)
            rw [upd_same, I3.env.tk, hw]
          · show _ ∧ Rep W3.T.K W3.T.mg _ (hid W3.M (upd H3 a _)) _ _
            rw [hid_own (by rw [hM]; simp), I3.env.tk, hx.1, hx.2]
            rcases stored_mem hz with ⟨y, hy, e1, e2⟩ | ⟨e1, e2⟩
            · rw [← e1, ← e2]; exact hR y hy
            · rw [e1, e2]; exact ⟨hK.1, hRb⟩)
        exact PostS.nil (W := { W3 with S := W3.S.set l (.dic (setNk kvs nk n)) }) (I3.go g4 ok4) (q3.weaken g4.s)
      · exact q3.elim
    · exact q3.elim⟩
end
/-- a def whose semantics tells nothing -/
theorem DefAt.cal0 {P : Program} {w : World} {K : PySem.W.Frag} {mg : Str → Option Value} {base : Heap} {T : Tx} {x : Str} {st : Stmt} {ps : List Str} {k np : Nat} (d : DefAt K mg x st ps) : Callee P w K mg base T k x np (fun _ _ => .no) := by
  obtain ⟨fa, fd, h1, h2, h3⟩ := d
  refine ⟨fa, fd, ps, h1, ⟨fun vs H Q E h => ?_, fun A outer s H args us vs Q E hr e hb hv h => ?_⟩, h2.kp, h3⟩
  · obtain ⟨_, _, _, _, _, h⟩ := h
    exact h.elim
  · obtain ⟨_, _, _, _, _, h⟩ := h
    exact h.elim
end Bx

namespace Bx
open PySem PyProof.Rows L2
/-! ### sorted(set(xs)), xs a list of tuples of ints -/
def tups? : List D → Option (List (List Int))
  | [] => some []
  | .tup xs :: ds => (match ints? xs, tups? ds with
    | some ns, some L => some (ns :: L)
    | _, _ => none)
  | _ :: _ => none
abbrev cod (l : List Int) : Int := TS.code 1000 l
def insT (x : List Int) : List (List Int) → List (List Int)
  | [] => [x]
  | y :: L => if cod x ≤ cod y then x :: y :: L else y :: insT x L
def uniqT : List (List Int) → List (List Int)
  | [] => []
  | x :: L => if x ∈ uniqT L then uniqT L else insT x (uniqT L)
theorem insT_perm (x : List Int) : ∀ L, (insT x L).Perm (x :: L)
  | [] => .refl _
  | y :: L => by
    unfold insT
    split
    · exact .refl _
    · exact ((insT_perm x L).cons y).trans (.swap ..)
theorem uniqT_mem : ∀ (L : List (List Int)) (k : List Int), k ∈ uniqT L ↔ k ∈ L
  | [], k => Iff.rfl
  | x :: xs, k => by
    have ih := uniqT_mem xs
    unfold uniqT
    split
    · rename_i h
      rw [ih, List.mem_cons]
      refine ⟨.inr, fun z => ?_⟩
      rcases z with rfl | z
      · exact (ih _).mp h
      · exact z
    · rw [(insT_perm x _).mem_iff, List.mem_cons, List.mem_cons, ih]
theorem uniqT_nodup : ∀ L : List (List Int), (uniqT L).Nodup
  | [] => List.nodup_nil
  | x :: xs => by
    unfold uniqT
    split
    · exact uniqT_nodup xs
    · rename_i h
      exact (insT_perm x _).nodup_iff.mpr (List.nodup_cons.mpr ⟨h, uniqT_nodup xs⟩)
theorem insT_sorted (x : List Int) : ∀ L : List (List Int), L.Pairwise (fun a b => cod a ≤ cod b) → (insT x L).Pairwise (fun a b => cod a ≤ cod b)
  | [], _ => List.pairwise_singleton ..
  | y :: L, h => by
    obtain ⟨h1, h2⟩ := List.pairwise_cons.mp h
    unfold insT
    split
    · rename_i c
      refine List.pairwise_cons.mpr ⟨fun z hz => ?_, h⟩
      rcases List.mem_cons.mp hz with rfl | hz
      · exact c
      · have := h1 z hz
        omega
    · rename_i c
      refine List.pairwise_cons.mpr ⟨fun z hz => ?_, insT_sorted x L h2⟩
      rcases List.mem_cons.mp ((insT_perm x L).mem_iff.mp hz) with rfl | hz
      · omega
      · exact h1 z hz
theorem uniqT_sorted : ∀ L : List (List Int), (uniqT L).Pairwise (fun a b => cod a ≤ cod b)
  | [] => .nil
  | x :: xs => by
    unfold uniqT
    split
    · exact uniqT_sorted xs
    · exact insT_sorted x _ (uniqT_sorted xs)
theorem cod_inj : ∀ {a b : List Int}, a.length = b.length → TS.Bd 1000 a → TS.Bd 1000 b → cod a = cod b → a = b
  | [], [], _, _, _, _ => rfl
  | x :: a, y :: b, hl, ha, hb, h => by
    have hl2 : a.length = b.length := by simpa using hl
    have h : TS.code 1000 (x :: a) = TS.code 1000 (y :: b) := h
    rcases Int.lt_trichotomy x y with c | c | c
    · have := TS.code_lt hl2 ha.tail hb.tail c
      omega
    · subst c
      have e1 := (TS.code_same (B := 1000) (d := x) hl2)
      have e2 := (TS.code_same (B := 1000) (d := x) hl2.symm)
      have : TS.code 1000 a = TS.code 1000 b := by
        rcases Int.lt_trichotomy (TS.code 1000 a) (TS.code 1000 b) with z | z | z
        · have := e1.mpr z
          omega
        · exact z
        · have := e2.mpr z
          omega
      rw [cod_inj hl2 ha.tail hb.tail this]
    · have := TS.code_lt hl2.symm hb.tail ha.tail c
      omega
theorem map_inj_on {α β : Type} {f : α → β} : ∀ {a b : List α}, (∀ x ∈ a, ∀ y ∈ b, f x = f y → x = y) → a.map f = b.map f → a = b
  | [], [], _, _ => rfl
  | [], _ :: _, _, h => by simp at h
  | _ :: _, [], _, h => by simp at h
  | x :: a, y :: b, hi, h => by
    rw [List.map_cons, List.map_cons] at h
    injection h with h1 h2
    rw [hi x (List.mem_cons_self ..) y (List.mem_cons_self ..) h1, map_inj_on (fun u hu v hv => hi u (List.mem_cons_of_mem _ hu) v (List.mem_cons_of_mem _ hv)) h2]
def okT (L : List (List Int)) : Bool := L.all fun l => decide (1 ≤ l.length) && decide (l.length = (L.headD []).length) && l.all fun n => decide (0 ≤ n) && decide (n < 1000)
theorem okT_at {L : List (List Int)} (h : okT L = true) : ∃ d, 1 ≤ d ∧ ∀ l ∈ L, l.length = d ∧ TS.Bd 1000 l := by
  unfold okT at h
  have h := List.all_eq_true.mp h
  cases L with
  | nil => exact ⟨1, Nat.le_refl _, fun l hl => by cases hl⟩
  | cons a L =>
    have h0 := h a (List.mem_cons_self ..)
    simp at h0
    refine ⟨a.length, by omega, fun l hl => ?_⟩
    have h1 := h l hl
    simp at h1
    exact ⟨h1.1.2, fun m hm => h1.2 m hm⟩
/-- what is sorted and holds these is just this -/
theorem uniqT_is {L A : List (List Int)} (h : okT L = true) (hm : ∀ x, x ∈ A ↔ x ∈ L) (hn : A.Nodup) (hs : A.Pairwise (fun a b => cod a ≤ cod b)) : A = uniqT L := by
  obtain ⟨d, _, hd⟩ := okT_at h
  have hp : A.Perm (uniqT L) := (List.perm_ext_iff_of_nodup hn (uniqT_nodup L)).mpr fun x => by rw [hm, uniqT_mem]
  have e : A.map cod = (uniqT L).map cod := sort_same (hp.map cod) (by rw [List.pairwise_map]; exact hs) (by rw [List.pairwise_map]; exact uniqT_sorted L)
  refine map_inj_on (fun x hx y hy hxy => ?_) e
  have h1 := hd x ((hm x).mp hx)
  have h2 := hd y ((uniqT_mem L y).mp hy)
  exact cod_inj (by omega) h1.2 h2.2 hxy
def gSortSetT : List D → Store → R (List D)
  | [.lst xs], S => match tups? xs with
    | some L => if L.length < 64 ∧ okT L = true then .ok ((uniqT L).map fun ns => .tup (ns.map .int)) S else .no
    | _ => .no
  | _, _ => .no
theorem tups_eq : ∀ {xs : List D} {L : List (List Int)}, tups? xs = some L → xs = L.map fun ns => .tup (ns.map .int)
  | [], L, h => by cases h; rfl
  | .tup ys :: ds, L, h => by
    unfold tups? at h
    split at h
    · rename_i ns L' h1 h2
      cases h
      rw [ints_eq h1, tups_eq h2]; rfl
    · cases h
  | .non :: _, _, h => by cases h
  | .bl _ :: _, _, h => by cases h
  | .int _ :: _, _, h => by cases h
  | .str _ :: _, _, h => by cases h
  | .lst _ :: _, _, h => by cases h
  | .ins _ _ _ :: _, _, h => by cases h
  | .ref _ :: _, _, h => by cases h
  | .fn _ :: _, _, h => by cases h
  | .scr _ :: _, _, h => by cases h
  | .dct _ _ :: _, _, h => by cases h
theorem tups_map (L : List (List Int)) : tups? (L.map fun ns => D.tup (ns.map .int)) = some L := by
  induction L with
  | nil => rfl
  | cons a L ih =>
    rw [List.map_cons, tups?, ints_map, ih]
theorem reps_tups {K : PySem.W.Frag} {mg : Str → Option Value} {μ : Nat → Option Addr} {H : Hp} : ∀ {L : List (List Int)} {vs : List V}, Reps K mg μ H (L.map fun ns => D.tup (ns.map .int)) vs →
    ∃ ks : List (Addr × List Int), vs = ks.map (fun p => V.ref p.1) ∧ ks.map (·.2) = L ∧ ∀ p ∈ ks, H p.1 = some (.tup (p.2.map V.int))
  | [], _, h => by
    cases h
    exact ⟨[], rfl, rfl, fun p hp => by cases hp⟩
  | ns :: L, _, h => by
    rw [List.map_cons] at h
    cases h with
    | cons h1 h2 =>
      obtain ⟨ks, rfl, e, hk⟩ := reps_tups h2
      cases h1 with
      | tup a b =>
        obtain rfl := b.ints
        rename_i ad
        refine ⟨(ad, ns) :: ks, rfl, by rw [List.map_cons, e], fun p hp => ?_⟩
        rcases List.mem_cons.mp hp with rfl | hp
        · exact a
        · exact hk p hp
theorem reps_of_tups {K : PySem.W.Frag} {mg : Str → Option Value} {μ : Nat → Option Addr} {H : Hp} : ∀ {ks : List (Addr × List Int)}, (∀ p ∈ ks, H p.1 = some (.tup (p.2.map V.int))) → Reps K mg μ H ((ks.map (·.2)).map fun ns => D.tup (ns.map .int)) (ks.map fun p => V.ref p.1)
  | [], _ => .nil
  | p :: ks, h => .cons (.tup (h p (List.mem_cons_self ..)) (Reps.ofInts _)) (reps_of_tups fun q hq => h q (List.mem_cons_of_mem _ hq))
theorem dx_sortSetT {X : Cx} {F : Fm} {e : Expr} {fs : Fn (List D)} {pos p pos2 p2 : Pos} (hu : X.A.units + 64 < cLine) (hc : X.calm = true) (hg : Gl X "sorted") (hm : X.mg "sorted" = none) (hg2 : Gl X "set") (hm2 : X.mg "set" = none) (ha : PA X [e] (denA F fs)) (he : starEach [e] X.env = (false, eval e X.env) :: starEach [] X.env := by rfl)
    (he2 : starEach [.Call (.Name "set" p2) [e] [] pos2] X.env = (false, eval (.Call (.Name "set" p2) [e] [] pos2) X.env) :: starEach [] X.env := by rfl) (hK : F.K = X.K := by rfl) :
    PE X (.Call (.Name "sorted" p) [.Call (.Name "set" p2) [e] [] pos2] [] pos) (denX F (fCx gSortSetT fs)) := by
  refine (pe_callB (cr_sortedT hc) hg hm (by decide +kernel) (pa_cons (pe_callTy (cr_setOfT hc hu) hg2 hm2 (by decide +kernel) ha (he := he)) pa_nil he2) (he := he2)).imp fun σ H Q ⟨ρ, W, I, q⟩ => ⟨ρ, W, I, ?_⟩
  refine Post.bind q fun ds vs H1 W1 g ok r q1 => ?_
  split at q1
  · rename_i es S' he
    unfold gSortSetT at he
    split at he
    · split at he
      · rename_i L hi
        split at he
        · rename_i hl
          cases he
          cases r with
          | cons r1 r2 =>
            cases r2
            cases r1 with
            | lst a b =>
              rw [tups_eq hi] at b
              obtain ⟨ks, rfl, rfl, hk⟩ := reps_tups b
              have hk1 : ∀ p ∈ ks, H1 p.1 = some (.tup (p.2.map V.int)) := fun p hp => hid_le _ _ (hk p hp)
              obtain ⟨d, hd1, hd2⟩ := okT_at hl.2
              refine ⟨_, ks, rfl, SqL.of (hid_le _ _ a), fun p hp => SqT.of (hk1 p hp), by simpa using hl.1, fun sa L hsa hsub hall => ?_⟩
              have sm : Same H1 (upd H1 sa (SetTO X.prog X.w sa L)) := same_new hsa
              have hkL : ∀ p ∈ L, hid W1.M H1 p.1 = some (.tup (p.2.map V.int)) := fun p hp => hk p (hsub p hp)
              refine ⟨sa, L, d, 1000, rfl, upd_same, fun p hp => SqT.of (sm _ _ (hid_le _ _ (hkL p hp))), hd1, fun p hp => hd2 p.2 (List.mem_map.mpr ⟨p, hsub p hp, rfl⟩), fun L' q h1 h2 h3 h4 hq => ?_⟩
              have e1 : L'.map (·.2) = uniqT (ks.map (·.2)) := by
                refine uniqT_is hl.2 (fun x => ?_) h2 (by rw [List.pairwise_map]; exact h4)
                constructor
                · intro hx
                  obtain ⟨p, hp, rfl⟩ := List.mem_map.mp hx
                  exact List.mem_map.mpr ⟨p, hsub p (h1.mem_iff.mp hp), rfl⟩
                · intro hx
                  obtain ⟨p, hp, rfl⟩ := List.mem_map.mp hx
                  obtain ⟨r, hr, e⟩ := List.mem_map.mp (hall p hp)
                  exact List.mem_map.mpr ⟨r, h1.mem_iff.mpr hr, e⟩
              rw [← e1] at q1
              exact Post.newX (g.trans (Gr.same sm)) (ok.same sm) hq (q1.weaken (Gr.same sm)) (reps_of_tups fun p hp => by
                obtain ⟨m1, m2⟩ := hid_some.mp (hkL p (h1.mem_iff.mp hp))
                exact hid_some.mpr ⟨m1, sm _ _ m2⟩)
        · cases he
      · cases he
    · cases he
  · exact q1.elim
end Bx

namespace Bx
open PySem L2
/-! ### a frame's own list becomes the store's -/
@[simp] def sStow (i : Nat) (g : Stm) : Stm := fun ρ S => match ρ[i]? with
  | some (.ow ds) => if noLs ds = true then g (ρ.set i (.fz (.ref S.length))) (S ++ [.lst ds]) else .no
  | _ => .no
section
variable {X : Cx} {F : Fm} {st : Stmt} {g : Stm} {W : Wd} {H : Hp} {σ : L2.St} {ρ : Rho}
theorem put_same {p : Addr} {o : O} (hp : W.M p = some 0) : Same (hid W.M H) (hid (putW W p o).M H) := fun q u hq => by
  obtain ⟨p1, p2⟩ := hid_some.mp hq
  exact hid_some.mpr ⟨(if_neg fun z => by rw [z, hp] at p1; cases p1).trans p1, p2⟩
theorem put_grS {p : Addr} {o : O} (ok : WOk W H) (hp : W.M p = some 0) : GrS W H (putW W p o) H :=
  ⟨fun q u hq hu => ⟨(if_neg fun z => by rw [z, hp] at hq; cases hq).trans hq, hu⟩, fun m a h => put_mu ok m a h, rfl⟩
theorem IF.stow {i : Nat} {ds : List D} {p : Addr} (hx : TxOk F) (I : IF F W H σ ρ) (hρ : ρ[i]? = some (.ow ds)) (hσ : σ[i]? = some (some (.ref p))) (hm : W.M p = some 0) (hn : noLs ds = true) : IF F (putW W p (.lst ds)) H σ (ρ.set i (.fz (.ref W.S.length))) := by
  have hi : i < ρ.length := (List.getElem?_eq_some_iff.mp hρ).1
  obtain ⟨p', vs, a, b, c, d, r⟩ := I.env.ow i ds hρ
  rw [hσ] at a
  cases a
  have gs := put_grS (o := .lst ds) I.ok hm
  have ne : ∀ {q : Addr}, q ≠ p → (putW W p (.lst ds)).M q = W.M q := fun h => if_neg h
  refine ⟨put_lst hx I.env.tk I.ok hm d hn r, put_gr I.ok c I.gr, ?_⟩
  refine ⟨by rw [List.length_set]; exact I.env.len, fun j d' h => ?_, fun j d' h => ?_, fun j k ds' es q h1 h2 h3 h4 => ?_, fun j c ns xs h => ?_, fun j x h => ?_, I.env.tk⟩
  · by_cases z : i = j
    · subst z
      rw [List.getElem?_set_self hi] at h
      cases h
      exact ⟨.ref p, hσ, put_ref⟩
    · rw [List.getElem?_set_ne z] at h
      obtain ⟨v, h1, h2⟩ := I.env.fz j d' h
      exact ⟨v, h1, rep_gr gs h2⟩
  · by_cases z : i = j
    · subst z
      rw [List.getElem?_set_self hi] at h
      cases h
    · rw [List.getElem?_set_ne z] at h
      obtain ⟨q, ws, h1, h2, h3, h4, h5⟩ := I.env.ow j d' h
      have hne : q ≠ p := fun e => z (I.env.dj i j ds d' p hρ h hσ (e ▸ h1))
      exact ⟨q, ws, h1, (ne hne).trans h2, h3, h4, reps_gr gs h5⟩
  · by_cases z : i = j
    · subst z
      rw [List.getElem?_set_self hi] at h1
      cases h1
    · by_cases z2 : i = k
      · subst z2
        rw [List.getElem?_set_self hi] at h2
        cases h2
      · rw [List.getElem?_set_ne z] at h1
        rw [List.getElem?_set_ne z2] at h2
        exact I.env.dj j k ds' es q h1 h2 h3 h4
  · by_cases z : i = j
    · subst z
      rw [List.getElem?_set_self hi] at h
      cases h
    · rw [List.getElem?_set_ne z] at h
      obtain ⟨q, C, dx, ws, h1, h2, h3, h4, h5, h6, h7⟩ := I.env.nw j c ns xs h
      have hne : q ≠ p := ne_of h5 d (by intro z; cases z)
      exact ⟨q, C, dx, ws, h1, h2, (ne hne).trans h3, h4, h5, h6, reps_gr gs h7.1, h7.2⟩
  · by_cases z : i = j
    · subst z
      rw [List.getElem?_set_self hi] at h
      cases h
    · rw [List.getElem?_set_ne z] at h
      obtain ⟨q, cls, dd, a, b, c⟩ := I.env.ex j x h
      exact ⟨q, cls, dd, a, b, erep_gr gs c⟩
theorem stow_in {i : Nat} {t : TS} (hx : TxOk F) (ht : ∀ En σ H, denS F g En σ H → t En σ H) : ∀ En σ H, denS F (sStow i g) En σ H → t En σ H := fun En σ H ⟨ρ, W, I, q⟩ => by
  unfold sStow at q
  split at q
  · rename_i ds hρ
    split at q
    · rename_i hn
      obtain ⟨p, vs, a, b, c, d, r⟩ := I.env.ow i ds hρ
      exact ht En σ H ⟨_, putW W p (.lst ds), I.stow hx hρ a b hn, q.weaken (put_grS I.ok b)⟩
    · exact q.elim
  · exact q.elim
theorem dss_stow (hx : TxOk F) (i : Nat) {sts : List Stmt} (h : PSs X sts (denS F g)) : PSs X sts (denS F (sStow i g)) := h.imp (stow_in hx fun _ _ _ h => h)
end
section
variable {X : Cx} {F : Fm} {a b e o nm : Expr} {f f1 f2 : Fn D} {pos p apos : Pos}
/-- isinstance(.., list) of a store's list too -/
def gIsiO (T : Ty6) : D → Store → R D := fun d S => match gOLst d S with
  | some _ => .ok (.bl (Ty6.l.is T)) S
  | none => gIsi T d S
theorem de_isiO (hx : TxOk F) (T : Ty6) (hg : Gl X "isinstance") (hm : X.mg "isinstance" = none) (he : PE X e (denE F f)) (hN : PE X nm (tC (.ty T.nm))) (h1 : starEach [e, nm] X.env = (false, eval e X.env) :: starEach [nm] X.env := by rfl) (h2 : starEach [nm] X.env = (false, eval nm X.env) :: starEach [] X.env := by rfl)
    (hpl : (backTo pos (starEach [nm] X.env)).any (·.1) = false := by rfl) (hK : F.K = X.K := by rfl) : PE X (.Call (.Name "isinstance" p) [e, nm] [] pos) (denE F (fUn (gIsiO T) f)) :=
  (pe_callB call_isi hg hm (by decide +kernel) (pa_cons he (pa_cons hN pa_nil h2) h1) (he := h1) (hpl := hpl)).imp fun σ H Q ⟨ρ, W, I, q⟩ => ⟨ρ, W, I, q.bind fun d v H1 W1 g ok r q1 => by
    unfold gIsiO at q1
    split at q1
    · rename_i ds hd
      obtain ⟨a, vs, rfl, h2, h3⟩ := olst_at hx ((I.go g ok).env.tk) ok r hd
      exact ⟨.ref a, _, _, _, _, rfl, .ty _, .base (.lst h2), kit_ty (kit6 .l T), q1.val ok (.bl _)⟩
    · unfold gIsi at q1
      split at q1
      · rename_i a ha
        exact ⟨v, _, _, _, _, rfl, .ty _, by rw [← hK]; exact ty6_rep r ha, kit_ty (kit6 a T), q1.val ok (.bl _)⟩
      · exact q1.elim⟩
/-- o.reverse() -/
@[simp] def sORev (f1 : Fn D) : Stm := liftE f1 fun d ρ S => match d with
  | .ref l => (match S[l]? with
    | some (.lst ds) => .mk (.nx ρ) (S.set l (.lst ds.reverse))
    | _ => .no)
  | _ => .no
theorem noLs_all : ∀ xs : List D, noLs xs = true ↔ ∀ x ∈ xs, noL x = true
  | [] => ⟨fun _ x h => (by cases h), fun _ => rfl⟩
  | x :: xs => by
    show (noL x && noLs xs) = true ↔ _
    rw [Bool.and_eq_true, noLs_all xs]
    simp
theorem ds_orev (hx : TxOk F) (ho : PE X o (denE F f1))
    (hbase : attributeBase o "reverse" X.env (eval o X.env) = eval o X.env := by rfl) (hline : (apos.endLine == p.line) = true := by rfl)
    (hs : swapsWith (.Call (.Attribute o "reverse" apos) [] [] p) none pos.line X.env = pure false := by rfl) (hK : F.K = X.K := by rfl) : PS X (.Expr (.Call (.Attribute o "reverse" apos) [] [] p) pos) (denS F (sORev f1)) :=
  (ps_expr (pe_bm0 PySem.F.plainAttrs_list PySem.F.slot_list_reverse PySem.F.type_list_reverse mt_reverse ho hbase hline) hs).imp fun En σ H ⟨ρ, W, I, q⟩ => ⟨ρ, W, I, by
    unfold sORev at q
    refine q.bind I fun d v H1 W1 g1 ok1 r1 q1 => ?_
    have I1 := I.go g1 ok1
    split at q1
    · rename_i l
      split at q1
      · rename_i ds hl
        obtain ⟨a, rfl, hμ, ho'⟩ := ref_at ok1 r1 hl
        obtain ⟨hM, hn, ws, hH, hr⟩ := lst_at_ref hx I1.env.tk ho'
        obtain ⟨ok3, g3⟩ := st_set (o' := .lst ds.reverse) (ho := .lst ws.reverse) ok1 hl hμ hM (fun q z => by rw [hH] at z; cases z) (fun H2' e => by
          subst e
          refine ⟨hM, (noLs_all _).mpr fun x hx => (noLs_all _).mp hn x (List.mem_reverse.mp hx), _, upd_same, ?_⟩
          show Reps W1.T.K W1.T.mg _ (hid W1.M (upd H1 a _)) _ _
          rw [hid_own (by rw [hM]; simp), I1.env.tk, hx.1, hx.2]
          exact hr.reverse)
        refine ⟨.inl ⟨rfl, ws, SqL.of hH⟩, a, ws, rfl, rfl, hH, ?_⟩
        exact PostS.nil (W := { W1 with S := W1.S.set l (.lst ds.reverse) }) (I1.go g3 ok3) (q1.weaken g3.s)
      · exact q1.elim
    · exact q1.elim⟩
/-- x != y, x a list in which the store's lists stand -/
def resL (S : Store) : D → D
  | .ref l => match S[l]? with
    | some (.lst ds) => .lst ds
    | _ => .ref l
  | d => d
def resT (S : Store) : D → D
  | .lst xs => .lst (xs.map (resL S))
  | d => d
def gNeS (d e : D) (S : Store) : R D := gNe (resT S d) e S
theorem resL_dp (hx : TxOk F) {W : Wd} {H : Hp} (ok : WOk W H) (hT : W.T = F.T) {d : D} {v : V} {x : PyData} (r : F.rep W H d v) (h : toPy (resL W.S d) = some x) : Dp F.K H v x := by
  unfold resL at h
  split at h
  · split at h
    · rename_i l ds hl
      obtain ⟨a, rfl, hμ, ho⟩ := ref_at ok r hl
      obtain ⟨_, _, vs, h2, h3⟩ := lst_at_ref hx hT ho
      obtain ⟨y, e1, e2⟩ := Option.map_eq_some_iff.mp (show (toPys ds).map PyData.list = some x from h)
      subst e2
      exact .lst (SqL.of h2) (reps_dp _ _ _ e1 h3)
    · cases h
  · exact rep_dp _ _ _ h r
theorem resLs_dp (hx : TxOk F) {W : Wd} {H : Hp} (ok : WOk W H) (hT : W.T = F.T) : ∀ {ds : List D} {vs : List V} {x : List PyData}, F.reps W H ds vs → toPys (ds.map (resL W.S)) = some x → DpAll F.K H vs x
  | [], _, x, r, h => by
    cases r
    obtain rfl := Option.some.inj h
    exact .nil
  | d :: ds, _, x, r, h => by
    cases r with
    | cons r1 r2 =>
      rw [List.map_cons] at h
      unfold toPys at h
      split at h
      · rename_i a b ea eb
        obtain rfl := Option.some.inj h
        exact .cons (resL_dp hx ok hT r1 ea) (resLs_dp hx ok hT r2 eb)
      · cases h
theorem opd_neS (hx : TxOk F) : OpD F (rNeD F.K) gNeS := by
  intro W H σ d e x y Q ok hT rx ry h
  unfold gNeS gNe at h
  split at h
  · rename_i a b ea eb
    split at h
    · rename_i hs
      rw [Bool.and_eq_true] at hs
      refine ⟨a, b, ?_, rep_dp _ _ _ eb ry, hs.1, hs.2, h.val ok (.bl _)⟩
      unfold resT at ea
      split at ea
      · cases rx with
        | lst h1 h2 =>
          obtain ⟨z, e1, e2⟩ := Option.map_eq_some_iff.mp (show (toPys _).map PyData.list = some a from ea)
          subst e2
          exact .lst (SqL.of (hid_le _ _ h1)) (resLs_dp hx ok hT h2 e1)
      · exact rep_dp _ _ _ ea rx
    · exact h.elim
  · exact h.elim
theorem de_neS (hx : TxOk F) (hu : X.A.units + 64 < cLine) (ha : PE X a (denE F f1)) (hb : PE X b (denE F f2)) (hK : F.K = X.K := by rfl) : PE X (.Compare a [.NotEq] [b] pos) (denE F (fBin gNeS f1 f2)) := de_cmp (op_neD hu) (by rw [← hK]; exact opd_neS hx) ha hb (nomark _)
theorem dt_neS (hx : TxOk F) (hu : X.A.units + 64 < cLine) (ha : PE X a (denE F f1)) (hb : PE X b (denE F f2)) (hK : F.K = X.K := by rfl) : PT X (.Compare a [.NotEq] [b] pos) (denT F (fUn gBl (fBin gNeS f1 f2))) := dt_cmp (op_neD hu) (by rw [← hK]; exact opd_neS hx) ha hb (nomark _)
end
end Bx

namespace Bx
open PySem L2
/-! ### a text that is handed an error and raises none -/
abbrev SemX := Exc → Store → R D
def fnSemX (n : Nat) (g : Stm) : SemX := fun x S => match g (.ex x :: List.replicate n .un) S with
  | .mk (.nx _) S' => .ok .non S'
  | .mk (.rt d) S' => .ok d S'
  | _ => .no
/-- its call, the error in slot i -/
@[simp] def fHot (i : Nat) (g : SemX) : Fn D := fun ρ S => match ρ[i]? with
  | some (.ex x) => (match g x S with
    | .ok d S' => .ok d S'
    | _ => .no)
  | _ => .no
end Bx

namespace Bx
open PySem PyProof.Rows L2
/-! ### a list comprehension while an error is handled -/
/-- the block's context: what was pinned stays pinned -/
abbrev hblk (X : Cx) (z : Shared) (Hz : Hp) (sc : Scope) (ce : Env) (fp : List Addr) : Cx := { X.blk z Hz sc ce fp with pn := X.pn }
section
variable {X : Cx} {pins : List (Addr × Obj)} {σ : L2.St} {H : Hp} {z : Shared} {sc : Scope} {own : List (Str × Nat)} {fp : List Addr}
/-- the block's cells -/
abbrev hcells (X : Cx) (z : Shared) (sc : Scope) : List (Str × Addr) := cellsFrom (z.heap.objs.size + 1) sc.names (cloFrom X.env.cells sc.names [])
abbrev henv (X : Cx) (z : Shared) (sc : Scope) : Env := compEnvC sc (hcells X z sc) z.heap.objs.size X.env
abbrev hlaid (z : Shared) (sc : Scope) : Shared := { z with heap := pushCells (z.heap.push { cls := .type "dict", data := .dict #[] }) sc.names }
theorem hblk_in (J : Inv X pins σ H z) (bo : BlkOk X.N X.env.scope sc own) (nd : X.N.Nodup) (hb : ∀ b ∈ fp, FpOk X pins H b ∧ b < z.heap.objs.size) :
    Inv (hblk X z H sc (henv X z sc) fp) [] (wipe σ (own.map (·.2))) H (hlaid z sc) := by
  have B := block_start J bo nd hb
  have o := B.ok
  refine ⟨⟨o.mod, o.kind, o.glob, o.blt, o.above, o.inj, o.has, o.cab, o.hd, o.frames, o.stk, o.exf, o.bs, o.bsz, o.noex, o.exfs, o.funs, o.frf⟩, B.os, B.bare, B.base, B.loc, B.cell, B.free, B.freeC, fun p hp => ?_, B.hok, B.len⟩
  have hp : p ∈ X.pn := by
    have : p ∈ X.pn ++ [] := hp
    rwa [List.append_nil] at this
  obtain ⟨q1, q2, q3, q4, q5⟩ := J.pin p (List.mem_append_left _ hp)
  refine ⟨pushCells_keeps _ _ _ _ (Heap.get?_push_of_some _ q1), q2, Nat.ne_of_lt (Heap.lt_size q1), fun hm => ?_, q5⟩
  rcases List.mem_cons.mp (J.stkSub p.1 hm) with e | e
  · exact q3 e
  · exact q4 e
/-- what a turn of the block's loop finds -/
def Mid (X : Cx) (z : Shared) (Hz : Hp) (sc : Scope) (fp : List Addr) (tn : Nat → Heap → Prop) (σ0 : L2.St) (W : Nat → Nat → Hp → Prop) (m : Nat) (y : Shared) : Prop :=
  ∃ i Hy, W i m Hy ∧ tn i y.heap ∧ (∀ b ∈ fp, Hy b = none) ∧ Inv (hblk X z Hz sc (henv X z sc) fp) [] σ0 Hy y
theorem fp_mid {Hy : Hp} {y : Shared} {σ0 : L2.St} (hb : ∀ b ∈ fp, FpOk X pins H b) (J : Inv (hblk X z H sc (henv X z sc) fp) [] σ0 Hy y) (hn : ∀ b ∈ fp, Hy b = none) : ∀ b ∈ fp, FpOk (hblk X z H sc (henv X z sc) fp) [] Hy b := fun b m => by
  refine ⟨hn b m, (J.ok.exf b m).1, J.ok.exfs b m, .inl m, (J.ok.exf b m).2, fun p hp => ?_⟩
  have hp : p ∈ X.pn ++ [] := hp
  rw [List.append_nil] at hp
  exact (hb b m).2.2.2.2.2 p (List.mem_append_left _ hp)
end
section
variable {X : Cx} {elt tg iter : Expr} {ifs : List Expr} {sc : Scope} {own : List (Str × Nat)} {pos : Pos} {wi : TI} {g : TG} {tt : TT} {te : TE}
theorem hot_lc (hc : L2H.HotC X) (nd : X.N.Nodup) (src : L2H.PIH X tg iter wi) (bo : BlkOk X.N X.env.scope sc own)
    (rg : ∀ (z : Shared) (Hz : Hp) (C : Addr) (cl : List (Str × Addr)) (fp : List Addr), PG (hblk X z Hz sc (compEnvC sc cl C X.env) fp) tg g)
    (rt : ∀ (z : Shared) (Hz : Hp) (C : Addr) (cl : List (Str × Addr)) (fp : List Addr), PTs (hblk X z Hz sc (compEnvC sc cl C X.env) fp) ifs tt)
    (re : ∀ (z : Shared) (Hz : Hp) (C : Addr) (cl : List (Str × Addr)) (fp : List Addr), PE (hblk X z Hz sc (compEnvC sc cl C X.env) fp) elt te) (nof : ∀ v, foldedSetIterable iter X.env v = pure v) :
    PE X (.ListComp elt [⟨tg, iter, ifs, 0⟩] sc pos) (tLc wi g tt te (own.map (·.2))) := by
  refine ⟨fun pins s σ H Q J0 start => ?_⟩
  rw [eval_ListComp]
  have caught : ∀ y ∈ sc.names, y.2 = .free → ∃ c, X.env.cells.lookup y.1 = some c := fun y my fr => X.env.kindOf y.1 |> fun _ => J0.ok.has _ (bo.free y my fr)
  have begun := src.run pins s σ H _ J0 start
  refine wpAny_comprehension_free (use := none) rfl nof (closure_ok caught) bo.kind (fun y my lo => (bo.uniq y my).trans (by rw [lo])) (thn begun fun _ _ it1 => thn it1 fun _ s2 it2 => ?_)
  obtain ⟨it, fp, tn, J, H2, rfl, J2, T, at0, fok, made⟩ := it2
  refine wpAny_newObj_type (newEnv_comp ?_) (by show 0 ≤ sizeLine; decide)
  -- the list that is filled
  have fresh : H2 s2.heap.objs.size = none := J2.hok.fresh (Nat.le_refl _)
  obtain ⟨W, ⟨m0, w0⟩, turn⟩ := made _ fresh
  obtain ⟨z, hz⟩ : ∃ z : Shared, z = { s2 with heap := s2.heap.push { cls := .type "list", data := .seq ([] : List Value).toArray } } := ⟨_, rfl⟩
  obtain ⟨Hz, hHz⟩ : ∃ Hz : Hp, Hz = upd H2 s2.heap.objs.size (.lst []) := ⟨_, rfl⟩
  have grown : ∀ b o, s2.heap.get? b = some o → z.heap.get? b = some o := fun b o e => by
    rw [hz]
    exact Heap.get?_push_of_some _ e
  have Jz : Inv X pins σ Hz z := by
    rw [hz, hHz]
    exact J2.laid (t' := s2.toks) (fun b o e => Heap.get?_push_of_some _ e) (Nat.le_refl _) ⟨Nat.zero_le _, [], 0, .nil, Heap.get?_push_size _ rfl⟩
  have fz : ∀ b ∈ fp, FpOk X pins Hz b ∧ b < z.heap.objs.size := fun b mb => by
    obtain ⟨o, eo, _⟩ := T.obj _ _ at0 b mb
    have lt := Heap.lt_size eo
    refine ⟨⟨?_, (fok b mb).2⟩, Heap.lt_size (grown b o eo)⟩
    rw [hHz, upd_ne (Nat.ne_of_lt lt)]
    exact (fok b mb).1
  rw [← hHz] at w0
  obtain ⟨D, hD⟩ : ∃ D, D = s2.heap.objs.size := ⟨_, rfl⟩
  rw [← hD] at turn hHz
  have Jb := hblk_in Jz bo nd fz
  have pg := rg z Hz z.heap.objs.size (hcells X z sc) fp
  have pt := rt z Hz z.heap.objs.size (hcells X z sc) fp
  have pe := re z Hz z.heap.objs.size (hcells X z sc) fp
  have atz : tn 0 (hlaid z sc).heap := T.keep _ _ _ at0 fun b _ o e => pushCells_keeps _ _ _ _ (Heap.get?_push_of_some _ (grown b o e))
  have again : codeAny (model X.prog X.w) X.A (.compLoop (.ListComp elt [⟨tg, iter, ifs, 0⟩] sc pos) 0 (.ref it) (.ref D) (henv X z sc)) (compPost (model X.prog X.w) X.A X.xe none (EP X pins σ Q) (.ref D) z.heap.objs.size) (hlaid z sc) := by
    refine compLoop_any (Mid X z Hz sc fp tn (wipe σ (own.map (·.2))) W) ?_ m0 ⟨0, Hz, w0, atz, fun b mb => (fz b mb).1.1, Jb⟩
    rintro m y ⟨i, Hy, wy, aty, ny, Jy⟩
    have fy := fp_mid (fun b mb => (fz b mb).1) Jy ny
    rcases turn i m Hy wy with ⟨stop, won⟩ | ⟨go, Nx, less, step⟩
    · -- no item is left
      refine thnF (T.done (hblk X z Hz sc (henv X z sc) fp) rfl rfl rfl hc i [] y _ Hy (fun _ _ => False) Jy fy aty stop) fun r y1 ⟨er, J1⟩ => ?_
      subst er
      obtain ⟨mm, hmm, _⟩ := J1.loc
      have hmm : y1.heap.Ns z.heap.objs.size mm := hmm
      have out : Inv X pins σ Hy y1 := Jz.call' (ch := fp) J1.os J1.base J1.hok J1.bare fun b mb => ⟨(fz b mb).1.2.2.2.1, (fz b mb).1.2.1, (fz b mb).1.2.2.2.2.1, (fz b mb).1.2.2.2.2.2⟩
      have lone : FpOk X pins Hy z.heap.objs.size := Jz.fpOk (Nat.le_refl _) J1.free
      obtain ⟨l0, l1, l2, l3, l4, l5⟩ := lone
      exact ⟨mm, hmm, fun h9 sb => ⟨.ref D, Hy, out.turned (t' := y1.toks) (fun b o nb e => (sb.2 b nb).trans e) l0 l1 l3 l4 l5, rfl, won⟩⟩
    · -- an item
      refine thnF (T.item (hblk X z Hz sc (henv X z sc) fp) rfl rfl rfl hc i [] y _ Hy (fun _ _ => False) Jy fy aty go) fun r y1 ⟨u, er, y1q⟩ => ?_
      subst er
      refine thnF y1q fun _ y2 ⟨x, H2', J2', rx, yl, at2, n2⟩ => ?_
      have P2 := J2'.pinned (fp_mid (fun b mb => (fz b mb).1) J2' n2) (T.obj _ _ at2)
      -- the turn's end
      have close : ∀ {σ9 : L2.St} {y9 : Shared} {H9 : Hp}, wipe σ9 (own.map (·.2)) = wipe σ (own.map (·.2)) → Inv (hblk X z Hz sc (henv X z sc) fp) ([] ++ pinsAt fp y2.heap) σ9 H9 y9 → Nx H9 → ∃ m', m' < m ∧ Mid X z Hz sc fp tn (wipe σ (own.map (·.2))) W m' y9 := by
        intro σ9 y9 H9 ew J9 nx
        obtain ⟨m', lt, w9⟩ := less H9 nx
        have stays : ∀ b ∈ fp, ∀ o, y2.heap.get? b = some o → y9.heap.get? b = some o ∧ H9 b = none := fun b mb o eo => by
          have k := J9.pin (b, o) (List.mem_append_right _ (List.mem_append_right _ (mem_pinsAt mb eo)))
          exact ⟨k.1, k.2.1⟩
        refine ⟨m', lt, i + 1, H9, w9, T.keep _ _ _ at2 fun b mb o eo => (stays b mb o eo).1, fun b mb => ?_, Inv.weak (Inv.unpinned (pins := []) J9) (by rw [← ew, wipe_length]) fun j v e => ?_⟩
        · obtain ⟨o, eo, _⟩ := T.obj _ _ at2 b mb
          exact (stays b mb o eo).2
        · rw [← ew] at e
          exact (wipe_some e).1
      refine thnF (pg.run _ y2 _ H2' x u _ P2 rx (step x H2' yl)) fun _ y3 ⟨σ3, H3, J3, ew, q3⟩ => ?_
      refine thnF (pt.run _ y3 σ3 H3 _ J3 q3) fun b y4 ⟨H4, J4, q4⟩ => ?_
      cases b with
      | true =>
        rw [if_pos rfl] at q4 ⊢
        refine thnF (pe.run _ y4 σ3 H4 _ J4 q4) fun v y5 ⟨yv, H5, J5, rv, acc, atD, short, nx⟩ => ?_
        exact app_ok (X := hblk X z Hz sc (henv X z sc) fp) J5 atD short rv fun y6 J6 => close ew J6 nx
      | false =>
        rw [if_neg Bool.false_ne_true] at q4 ⊢
        exact close ew J4 q4
  subst hD hz
  exact codeAny_compStart_list again (T.self X.A 0 _ _ _ atz again)
end
section
variable {X : Cx} {F : Fm} {elt tg iter c e : Expr} {ifs : List Expr} {scope : Scope} {own : List (Str × Nat)} {pos p : Pos} {fi : Fn (List D)} {fs : Fn (List D)} {g : Tgt D} {is : List Nat} {t : Fn Bool} {el : Fn D}
theorem pih_imp {wi wi' : TI} (h : L2H.PIH X tg iter wi) (k : ∀ σ H R, wi' σ H R → wi σ H R) : L2H.PIH X tg iter wi' := ⟨fun pins s σ H R I q => h.run pins s σ H R I (k _ _ _ q)⟩
theorem di_range1H (hg : Gl X "range") (hm : X.mg "range" = none) (ha : PA X [e] (denA F fs)) (hs : starEach [e] X.env = [(false, eval e X.env)] := by rfl) : L2H.PIH X tg (.Call (.Name "range" p) [e] [] pos) (denI F (fUn gRange1 fs)) :=
  pih_imp (L2H.pi_range1H hg hm ha hs) fun σ H T ⟨ρ, W, I, q⟩ => ⟨ρ, W, I, q.bind fun ds v H1 W1 g ok r q1 => by
    unfold gRange1 at q1
    split at q1
    · split at q1
      · rename_i hz
        cases r with
        | cons r1 r2 =>
          cases r2; cases r1
          refine ⟨_, rfl, by omega, by omega, ?_⟩
          exact q1 _ _ _ H1 W1 rfl (Gr.refl _ _) ok (by rw [rangeD_len]; exact walk_range) (fun _ _ _ => trivial) fun i d W2 H2 x H3 g2 _ hd y => yrange hd y
      · exact q1.elim
    · exact q1.elim⟩
theorem dx_lcH (hc : L2H.HotC X) (hN : X.N.Nodup) (hi : L2H.PIH X tg iter (denI F fi)) (ok : BlkOk X.N X.env.scope scope own)
    (hg : ∀ (s : Shared) (H : Hp) (C : Addr) (cl : List (Str × Addr)) (fp : List Addr), PG (hblk X s H scope (compEnvC scope cl C X.env) fp) tg (denG F F.rep g is))
    (ht : ∀ (s : Shared) (H : Hp) (C : Addr) (cl : List (Str × Addr)) (fp : List Addr), PTs (hblk X s H scope (compEnvC scope cl C X.env) fp) ifs (denT F.nw t))
    (he : ∀ (s : Shared) (H : Hp) (C : Addr) (cl : List (Str × Addr)) (fp : List Addr), PE (hblk X s H scope (compEnvC scope cl C X.env) fp) elt (denE F.nw el)) (hv : ∀ i ∈ is, i ∈ own.map (·.2) := by decide) (hs : ∀ x, foldedSetIterable iter X.env x = pure x := by intro _; rfl) :
    PE X (.ListComp elt [⟨tg, iter, ifs, 0⟩] scope pos) (denX F (fLc fi g t el (own.map (·.2)))) := (hot_lc hc hN hi ok hg ht he hs).imp fun _ _ _ h => den_lc hv h
end

/-! ### isinstance of the error that is handled -/
section
variable {Y : Cx} {F : Fm} {a B : Addr} {oe : Obj} {cls : Value} {d : Option Addr} {e nm : Expr} {p pos : Pos} {c : Str} {i : Nat} {tab : List (Str × Bool)}
def rIsH (K : PySem.W.Frag) (a : Addr) (cls : Value) (d : Option Addr) (tv : V) (tu : Value) : List V → Hp → VK → Prop := fun xs H Q => ∃ (D : Addr) (b : Bool), xs = [.ref a, tv] ∧ cls = .ref D ∧ ExcC K D ∧ PySem.W.kitOne K (.ref D) tu = some b ∧ (d = none ∨ ∃ (dx : Addr) (fs : List (Str × V)), d = some dx ∧ H dx = some (.xd fs)) ∧ Q (.bl b) H
theorem cr_isH {tv : V} {tu : Value} (hrel : ∀ u, RelV tv u → u = tu) (hp : (a, oe) ∈ Y.pn) (hz : Zc cls d oe) (hf : ∃ vs, oe.data = .fields vs) : CallR Y (.builtin "isinstance") (rIsH Y.K a cls d tv tu) := by
  intro pins s σ H xs us Q I r h
  obtain ⟨D, b, rfl, rfl, C, e, hd, q⟩ := h
  cases r with
  | cons rx rr =>
    cases rr with
    | cons rt rr =>
      cases rr
      cases rx
      obtain rfl := hrel _ rt
      obtain ⟨hget, _⟩ := I.pin (a, oe) (List.mem_append.mpr (.inl hp))
      obtain ⟨vs, hv⟩ := hf
      obtain ⟨od, J⟩ : ∃ od, PySem.W.InstAt s.heap a oe D od := by
        rcases hd with hd | ⟨dx, fs, hd, hx⟩
        · obtain ⟨oc, od, oda, osl⟩ := oe
          obtain ⟨h1, h2⟩ := hz
          dsimp only at h1 h2 hv
          subst h1 h2 hv hd
          exact ⟨none, hget, rfl, rfl, trivial⟩
        · have hok : ObjOk Y.prog Y.w H s.heap dx (.xd fs) := I.hok dx _ hx
          obtain ⟨mA, hns, hr⟩ := hok
          obtain ⟨od, ho, hl⟩ := lookIn_ns hns
          exact ⟨some od, hget, hz.1, by unfold PySem.W.notCls; rw [hv] <;> rfl, by rw [hz.2, hd]; exact ho⟩
      have hcl : (PySem.W.clsIn Y.K D).isSome = true := by
        have := C.hd
        unfold PySem.W.hasDictIn at this
        cases hc : PySem.W.clsIn Y.K D with
        | none => rw [hc] at this; simp at this
        | some c => rfl
      exact PySem.W.kia_one (PySem.W.kitx_exc hcl C.hg C.hk C.hs C.ha C.hn C.ht C.hm) I.kIn J e (fun z => nomatch z) fun tk => ⟨.bl b, H, I.kept (t' := tk) fun _ _ z => z, rfl, q⟩
theorem de_isE0 {tv : V} {tu : Value} (hrel : ∀ u, RelV tv u → u = tu) (hp : (a, oe) ∈ Y.pn) (hz : Zc cls d oe) (hf : ∃ vs, oe.data = .fields vs) (hg : Gl Y "isinstance") (hm : Y.mg "isinstance" = none)
    (ht : ∀ y b, tab.lookup y = some b → ∃ A, F.mg y = some (.ref A) ∧ ExcC Y.K A ∧ PySem.W.kitOne Y.K (.ref A) tu = some b) (he : PE Y e (tVar i)) (hN : PE Y nm (tC tv))
    (h1 : starEach [e, nm] Y.env = (false, eval e Y.env) :: starEach [nm] Y.env := by rfl) (h2 : starEach [nm] Y.env = (false, eval nm Y.env) :: starEach [] Y.env := by rfl) (h3 : (backTo pos (starEach [nm] Y.env)).any (·.1) = false := by rfl) :
    PE Y (.Call (.Name "isinstance" p) [e, nm] [] pos) (denE (F.we a cls d) (fIsE i tab)) := by
  refine (pe_callB (cr_isH hrel hp hz hf) hg hm (by decide +kernel) (pa_cons he (pa_cons hN pa_nil h2) h1) (he := h1) (hpl := h3)).imp fun σ H Q ⟨ρ, W, I, q⟩ => ?_
  unfold fIsE at q
  split at q
  · rename_i x hρ
    split at q
    · rename_i b hl
      obtain ⟨a', cls', d', e1, e2, e3⟩ := I.env.ex _ _ hρ
      cases e1
      obtain ⟨C', k1, k2, k3⟩ := e3
      obtain ⟨A, i1, i3, i4⟩ := ht _ _ hl
      have k1 : F.mg x.cls = some (.ref C') := k1
      rw [i1] at k1
      cases k1
      refine ⟨_, e2, _, b, rfl, k2, i3, i4, ?_, q.val I.ok (.bl b)⟩
      cases hfl : x.fld with
      | none => rw [hfl] at k3; exact .inl k3
      | some fs =>
        rw [hfl] at k3
        obtain ⟨dx, vs, m1, m2, _⟩ := k3
        exact .inr ⟨dx, _, m1, hid_le _ _ m2⟩
    · exact q.elim
  · exact q.elim
theorem de_isEH (hp : (a, oe) ∈ Y.pn) (hz : L2N.Zn cls d oe) (hf : ∃ vs, oe.data = .fields vs) (hg : Gl Y "isinstance") (hm : Y.mg "isinstance" = none) (hB : F.mg c = some (.ref B)) (ht : ∀ y b, tab.lookup y = some b → IsAt Y.K F.mg y c b) (he : PE Y e (tVar i)) (hN : PE Y nm (tC (.ref B)))
    (h1 : starEach [e, nm] Y.env = (false, eval e Y.env) :: starEach [nm] Y.env := by rfl) (h2 : starEach [nm] Y.env = (false, eval nm Y.env) :: starEach [] Y.env := by rfl) (h3 : (backTo pos (starEach [nm] Y.env)).any (·.1) = false := by rfl) :
    PE Y (.Call (.Name "isinstance" p) [e, nm] [] pos) (denE (F.we a cls d) (fIsE i tab)) :=
  de_isE0 (tv := .ref B) (tu := .ref B) (fun u r => by cases r; rfl) hp hz.zc hf hg hm (fun y b h => by
    obtain ⟨A, B', q1, q2, q3, q4⟩ := ht y b h
    rw [hB] at q2
    cases q2
    exact ⟨A, q1, q3, q4⟩) he hN h1 h2 h3
/-- what the written part says of isinstance(an error of class x, ValueError) -/
def IsVe (K : PySem.W.Frag) (mg : Str → Option Value) (x : Str) (b : Bool) : Prop := ∃ A, mg x = some (.ref A) ∧ ExcC K A ∧ PySem.W.kitOne K (.ref A) (.type "ValueError") = some b
theorem de_isVH (hp : (a, oe) ∈ Y.pn) (hz : L2N.Zn cls d oe) (hf : ∃ vs, oe.data = .fields vs) (hg : Gl Y "isinstance") (hm : Y.mg "isinstance" = none) (ht : ∀ y b, tab.lookup y = some b → IsVe Y.K F.mg y b) (he : PE Y e (tVar i)) (hN : PE Y nm (tC (.ty "ValueError")))
    (h1 : starEach [e, nm] Y.env = (false, eval e Y.env) :: starEach [nm] Y.env := by rfl) (h2 : starEach [nm] Y.env = (false, eval nm Y.env) :: starEach [] Y.env := by rfl) (h3 : (backTo pos (starEach [nm] Y.env)).any (·.1) = false := by rfl) :
    PE Y (.Call (.Name "isinstance" p) [e, nm] [] pos) (denE (F.we a cls d) (fIsE i tab)) :=
  de_isE0 (tv := .ty "ValueError") (tu := .type "ValueError") (fun u r => by cases r; rfl) hp hz.zc hf hg hm ht he hN h1 h2 h3
end
theorem ve_nil {K : PySem.W.Frag} {mg : Str → Option Value} : ∀ (y : Str) (b : Bool), ([] : List (Str × Bool)).lookup y = some b → IsVe K mg y b := fun y b h => by cases h
theorem ve_cons {K : PySem.W.Frag} {mg : Str → Option Value} {x : Str} {b : Bool} {tab : List (Str × Bool)} (h : IsVe K mg x b) (r : ∀ (y : Str) (b : Bool), tab.lookup y = some b → IsVe K mg y b) : ∀ (y : Str) (b' : Bool), ((x, b) :: tab).lookup y = some b' → IsVe K mg y b' := fun y b' e => by
  rw [List.lookup_cons] at e
  split at e
  · rename_i hy
    cases e
    have : y = x := by simpa using hy
    rw [this]
    exact h
  · exact r y b' e
/-- the facts of classes apart, joined -/
def ExcAt (K : PySem.W.Frag) (mg : Str → Option Value) (x : Str) : Prop := ∃ A, mg x = some (.ref A) ∧ ExcC K A
def PairAt (K : PySem.W.Frag) (mg : Str → Option Value) (x c : Str) (b : Bool) : Prop := ∃ A B, mg x = some (.ref A) ∧ mg c = some (.ref B) ∧ PySem.W.kitOne K (.ref A) (.ref B) = some b
def PairVe (K : PySem.W.Frag) (mg : Str → Option Value) (x : Str) (b : Bool) : Prop := ∃ A, mg x = some (.ref A) ∧ PySem.W.kitOne K (.ref A) (.type "ValueError") = some b
section
variable {K : PySem.W.Frag} {mg : Str → Option Value} {x c : Str} {b : Bool} {h : Heap} {A B : Addr}
theorem is_of (e : ExcAt K mg x) (q : PairAt K mg x c b) : IsAt K mg x c b := by
  obtain ⟨A, e1, e2⟩ := e
  obtain ⟨A', B, q1, q2, q3⟩ := q
  rw [e1] at q1
  cases q1
  exact ⟨A, B, e1, q2, e2, q3⟩
theorem ve_of (e : ExcAt K mg x) (q : PairVe K mg x b) : IsVe K mg x b := by
  obtain ⟨A, e1, e2⟩ := e
  obtain ⟨A', q1, q3⟩ := q
  rw [e1] at q1
  cases q1
  exact ⟨A, e1, e2, q3⟩
theorem excAt_mk (X : K.In h) (G : h.Ns mainGlobals mg) (a : PySem.W.nsIn K mainGlobals x = some (some (.ref A))) (e : ExcC K A) : ExcAt K mg x := ⟨A, PySem.W.mg_of X G a, e⟩
theorem pair_mk (X : K.In h) (G : h.Ns mainGlobals mg) (a : PySem.W.nsIn K mainGlobals x = some (some (.ref A))) (q : PySem.W.nsIn K mainGlobals c = some (some (.ref B)))
    (ic : PySem.W.isClsIn K B = true) (t : PySem.W.typeIn K (.ref B) = some (.type "type")) (s : PySem.W.subIn K (.ref A) (.ref B) = some b) (hv : A = B → b = true) : PairAt K mg x c b := by
  refine ⟨A, B, PySem.W.mg_of X G a, PySem.W.mg_of X G q, ?_⟩
  have ic : (PySem.W.clsIn K B).isSome = true := ic
  unfold PySem.W.kitOne
  by_cases z : A = B
  · rw [if_pos (by subst z; simp), hv z]
  · rw [if_neg (by simpa using z)]
    show (if ((PySem.W.clsIn K B).isSome && PySem.W.typeIn K (.ref B) == some (.type "type")) = true then PySem.W.subIn K (.ref A) (.ref B) else none) = some b
    rw [if_pos (by rw [ic, t]; rfl)]
    exact s
end
theorem pve_mk {K : PySem.W.Frag} {mg : Str → Option Value} {x : Str} {b : Bool} {h : Heap} {A : Addr} (X : K.In h) (G : h.Ns mainGlobals mg) (a : PySem.W.nsIn K mainGlobals x = some (some (.ref A))) (s : PySem.W.subIn K (.ref A) (.type "ValueError") = some b) : PairVe K mg x b := by
  refine ⟨A, PySem.W.mg_of X G a, ?_⟩
  unfold PySem.W.kitOne
  rw [if_neg (by simp)]
  show (if PySem.W.kitMeta "ValueError" = true then PySem.W.subIn K (.ref A) (.type "ValueError") else none) = some b
  rw [if_pos (by decide +kernel)]
  exact s

/-! ### a def that is called within an except suite, with the error -/
/-- its promise, the error's object q being handled -/
structure HotOk (P : Program) (w : World) (K : PySem.W.Frag) (mg : Str → Option Value) (base : Heap) (q : Addr × Obj) (k : Nat) (f : Addr) (fd : FuncData) (ps : List Str) (spc : Sp) : Prop where
  len : ∀ vs H Q E, spc vs H Q E → vs.length = ps.length
  runs : ∀ {A : Around} {outer : List Env} {s : Shared} {H : Hp} {args : Args} {us : List Value} {vs : List V} {Q : VK} {E : XK}, L2H.RoomH k A → L2H.Hot1 A q → L2H.PinOk outer H s q → Env0 P w K mg base A outer s H → BindsTo s fd args (ps.zip us) → Vals vs us → spc vs H Q E →
    codeAny (model P w) A (.call (.ref f) args) (CR (L2N.CX P w) outer P w H s Q E) s
theorem hot_of {P : Program} {w : World} {K : PySem.W.Frag} {mg : Str → Option Value} {base : Heap} {q : Addr × Obj} {nm ql : Str} {df : Stmt} {fa : Addr} {fd : FuncData} {N ps : List Str} {n : Nat} {spc : Sp} (G : Fun K nm ql df fa fd) (S : FnScope N ps (defScope df))
    (ln : ∀ vs H Q E, spc vs H Q E → vs.length = ps.length)
    (bd : ∀ (cv : Value) (A : Around) (outer : List Env) (s : Shared) (H : Hp) (vs : List V) (Q : VK) (E : XK), L2H.Hot1 A q → spc vs H Q E →
      ∃ t, PSs (L2H.cxH (L2N.CX P w) P w K mg base N ql (defScope df) fa cv A outer s H E q) (defBody df) t ∧ t { nx := fun _ H' => Q .non H', rt := Q } (L2.start N vs) H) : HotOk P w K mg base q (n + 1) fa fd ps spc := by
  rcases G.ex with ⟨z1, z2, z3, z4, z5, z6, cv, z7, z8, rfl, z9, z10⟩
  refine ⟨ln, fun {A outer s H args us vs Q E} room hot pin env binds rel told => ?_⟩
  have inS : K.In s.heap := env.mod.kin.keeps fun b o e => (env.bs b o e).1
  have free : s.heap.NoLimit := env.mod.nolimit.keeps fun b o e => (env.bs b o e).1
  refine codeAny_call_function room.depth (inS _ _ z9) rfl S.co S.gen rfl (PySem.W.codeRec_of inS z10) (binds _ _ _ _ ?_)
  have places : ∀ y ∈ ps.zip us, (defScope df).names.lookup y.1 = some .local ∨ ((defScope df).names.lookup y.1 = some .cell ∧ ((cellsFrom (s.heap.objs.size + 1) (defScope df).names []).lookup y.1).isSome = true) := by
    rintro ⟨y, v⟩ hy
    have := S.par y (List.of_mem_zip hy).1
    rcases this with e | e
    · exact Or.inl e
    · exact Or.inr ⟨e, PySem.W.cellsFrom_some _ _ _ (Or.inl e)⟩
  refine wpAny_newFunctionEnv_cells S.kind places fun en he s1 inner => ?_
  subst he
  refine ⟨free.keeps inner.toInCall.keep, codeAny_func ?_⟩
  rcases bd cv A outer s H vs Q E hot told with ⟨t, hb, ht⟩
  have J := L2H.inv_startH (CX := L2N.CX P w) (mg := mg) (base := base) (E := E) S pin env (ln _ _ _ _ told) rel inner
  refine wpAny_mono (hb.run [] s1 _ H _ J ht) (fun fl y got => ?_) fun _ _ bad => bad
  match fl, got with
  | .ret u, ⟨v, σ9, H9, J9, r9, q9⟩ => exact ⟨v, H9, J9.os, J9.bare, J9.base, J9.hok, r9, q9⟩
  | .next, ⟨σ9, H9, J9, q9⟩ => exact ⟨V.non, H9, J9.os, J9.bare, J9.base, J9.hok, rfl, q9⟩
  | .brk, ⟨_, _, _, bad⟩ => exact bad.elim
  | .cont, ⟨_, _, _, bad⟩ => exact bad.elim
def ErrN : XK := fun _ _ _ => False
def spX (K : PySem.W.Frag) (mg : Str → Option Value) (T : Tx) (a : Addr) (cls : Value) (d : Option Addr) (g : SemX) : Sp := fun vs H Q _ => ∃ (x : Exc) (W : Wd), vs = [.ref a] ∧ (WOk W H ∧ W.T = T) ∧ ERep (fmOf K mg T W H ErrN) W H x cls d ∧ Post (fmOf K mg T W H ErrN) (fmOf K mg T W H ErrN).rep W H [] (g x W.S) Q
theorem startX_env {K : PySem.W.Frag} {mg : Str → Option Value} {T : Tx} {W : Wd} {H : Hp} {E : XK} {N : List Str} {n : Nat} {a : Addr} {cls : Value} {d : Option Addr} {x : Exc} (hn : N.length = n + 1) (hT : W.T = T) (r : ERep (fmOf K mg T W H E) W H x cls d) :
    EnvOk ((fmOf K mg T W H E).we a cls d) W H (L2.start N [.ref a]) (.ex x :: List.replicate n .un) := by
  have none' : ∀ (i : Nat) (s : Sl), (Sl.ex x :: List.replicate n Sl.un)[i]? = some s → s = .un ∨ (i = 0 ∧ s = .ex x) := fun i s e => by
    cases i with
    | zero => cases e; exact .inr ⟨rfl, rfl⟩
    | succ i =>
      rw [List.getElem?_cons_succ, List.getElem?_replicate] at e
      split at e
      · cases e; exact .inl rfl
      · cases e
  refine ⟨by simp [L2.start, hn], fun i d e => ?_, fun i d e => ?_, fun i j d es p e => ?_, fun i c ns xs e => ?_, fun i y e => ?_, hT⟩
  · rcases none' i _ e with z | ⟨_, z⟩ <;> cases z
  · rcases none' i _ e with z | ⟨_, z⟩ <;> cases z
  · rcases none' i _ e with z | ⟨_, z⟩ <;> cases z
  · rcases none' i _ e with z | ⟨_, z⟩ <;> cases z
  · rcases none' i _ e with z | ⟨rfl, z⟩
    · cases z
    · cases z
      exact ⟨a, cls, d, rfl, rfl, r⟩
/-- such a def as a callee -/
def CalleeH (P : Program) (w : World) (K : PySem.W.Frag) (mg : Str → Option Value) (base : Heap) (T : Tx) (k : Nat) (x : Str) (g : SemX) : Prop :=
  ∀ (a : Addr) (oe : Obj) (cls : Value) (d : Option Addr), L2N.Zn cls d oe → (∃ vs, oe.data = .fields vs) → ∃ fa fd ps, mg x = some (.ref fa) ∧ HotOk P w K mg base (a, oe) k fa fd ps (spX K mg T a cls d g) ∧ PySem.W.keepIn K (.ref fa) = true ∧ Binds K fd ps []
theorem DefAt.calH {P : Program} {w : World} {K : PySem.W.Frag} {mg : Str → Option Value} {base : Heap} {T : Tx} {x : Str} {st : Stmt} {N ps : List Str} {n : Nat} {g : Stm} (dd : DefAt K mg x st ps) (S : FnScope N ps (defScope st)) (hp : ps.length = 1) (hn : N.length = n + 1)
    (hbody : ∀ (a : Addr) (oe : Obj) (cls : Value) (d : Option Addr), L2N.Zn cls d oe → (∃ vs, oe.data = .fields vs) → ∀ (f : Addr) (cdv : Value) (A : Around) (outer : List Env) (s : Shared) (H : Hp) (E : XK) (W : Wd), L2H.Hot1 A (a, oe) →
      PSs (L2H.cxH (L2N.CX P w) P w K mg base N x (defScope st) f cdv A outer s H E (a, oe)) (defBody st) (denS ((fmOf K mg T W H ErrN).we a cls d) g)) : CalleeH P w K mg base T 1 x (fnSemX n g) := by
  intro a oe cls d hz hf
  obtain ⟨fa, fd, h1, h2, h3⟩ := dd
  refine ⟨fa, fd, ps, h1, hot_of h2 S (fun vs H Q E h => ?_) (fun cv A outer s H vs Q E hot h => ?_), h2.kp, h3⟩
  · obtain ⟨x, W, e, _⟩ := h
    rw [e, hp]; rfl
  · obtain ⟨x, W, e, ⟨ok, hT⟩, hr, q⟩ := h
    subst e
    refine ⟨_, hbody a oe cls d hz hf fa cv A outer s H E W hot, .ex x :: List.replicate n .un, W, ⟨ok, Gr.refl _ _, startX_env hn hT hr⟩, ?_⟩
    unfold fnSemX at q
    revert q
    match g (.ex x :: List.replicate n .un) W.S with
    | .mk (.nx ρ) S => exact fun q σ' H' W' e I g => q .non H' W' e I.gr I.ok .non
    | .mk (.rt d) S => exact fun q v H' W' e ok g r => q v H' W' e g ok r
    | .mk (.xr x ρ) S => exact fun q => q.elim
    | .mk (.bk ρ) S => exact fun q => q.elim
    | .mk (.ct ρ) S => exact fun q => q.elim
    | .no => exact fun q => q.elim
/-! the call, in a suite -/
section
variable {X : Cx} {F : Fm} {a : Addr} {oe : Obj} {cls : Value} {d : Option Addr} {pn : List (Addr × Obj)} {e : Expr} {q pos : Pos} {i k : Nat} {x : Str} {g : SemX}
theorem de_hot (c : CalleeH X.prog X.w X.K X.mg X.base F.T k x g) (hr : Room k X.A) (hz : L2N.Zn cls d oe) (hf : ∃ vs, oe.data = .fields vs) (hg : Gl X x) (he : PE (X.suite a ((a, oe) :: pn)) e (tVar i)) (hK : F.K = X.K := by rfl) (hmg : F.mg = X.mg := by rfl)
    (hdb : (x == ("__debug__" : Str)) = false := by decide) (h1 : starEach [e] X.env = (false, eval e X.env) :: starEach [] X.env := by rfl) (h2 : (backTo pos (starEach [] X.env)).any (·.1) = false := by rfl) :
    PE (X.suite a ((a, oe) :: pn)) (.Call (.Name x q) [e] [] pos) (denE (F.we a cls d) (fHot i g)) := by
  obtain ⟨fa, fd, ps, hm, G, hk, hb⟩ := c a oe cls d hz hf
  refine ⟨fun pins s σ H Q I h => ?_⟩
  obtain ⟨ρ, W, J, h⟩ := h
  unfold fHot at h
  split at h
  · rename_i y hρ
    obtain ⟨a', cls', d', e1, e2, e3⟩ := J.env.ex _ _ hρ
    cases e1
    refine wpAny_Call_Name_kw (ld_glob (X := X.suite a ((a, oe) :: pn)) I hg hm ?_ hdb)
    have ha : PA (X.suite a ((a, oe) :: pn)) [e] (tCons (tVar i) tNil) := pa_cons he pa_nil h1
    refine PySem.W.callWith_K (h₀ := X.base) I.ok.mod.kin hk (thn (ha.run pos pins s σ H (fun vs H1 => vs = [V.ref a] ∧ H1 = H) I ⟨_, e2, rfl, rfl⟩) fun us s1 ⟨vs, H1, I1, r1, ev, eH⟩ => ⟨I1.kIn, ?_⟩) h1 h2
    subst ev eH
    cases hres : g y W.S with
    | no => rw [hres] at h; exact h.elim
    | er x S => rw [hres] at h; exact h.elim
    | ok dd S' =>
      rw [hres] at h
      have sp1 : spX X.K X.mg F.T a cls d g [.ref a] H1 Q ErrN := by
        refine ⟨y, W, rfl, ⟨J.ok, J.env.tk⟩, ?_, ?_⟩
        · obtain ⟨C, k1, k2, k3⟩ := e3
          refine ⟨C, by rw [← hmg]; exact k1, k2, ?_⟩
          cases hx : y.fld with
          | none => rw [hx] at k3; exact k3
          | some fs =>
            rw [hx] at k3
            obtain ⟨d2, vs, m1, m2, m3⟩ := k3
            refine ⟨d2, vs, m1, m2, ?_⟩
            show Reps X.K X.mg _ _ _ _
            rw [← hK, ← hmg]
            exact m3
        · rw [hres]
          intro b H' W' e g' ok r
          refine h b H' W' e g' ok ?_
          show Rep F.K F.mg _ _ _ _
          rw [hK, hmg]
          exact r
      have P1 := I1.pin (a, oe) (List.mem_append_left _ List.mem_cons_self)
      have pin : L2H.PinOk X.stack H1 s1 (a, oe) := ⟨P1.1, P1.2.1, fun hm => (List.mem_cons.mp (I1.stkSub a hm)).elim P1.2.2.1 P1.2.2.2.1, P1.2.2.2.2⟩
      have hot : L2H.Hot1 (X.suite a ((a, oe) :: pn)).A (a, oe) := by
        obtain ⟨vs, hv⟩ := hf
        exact ⟨rfl, vs, hv, hz.2.2 vs hv⟩
      have room : L2H.RoomH k (X.suite a ((a, oe) :: pn)).A := ⟨hr.dp, hr.un⟩
      have hl : us.length = ps.length := by rw [← r1.length]; exact G.len _ _ _ _ sp1
      have b := hb s1 us I1.kIn (by rw [List.append_nil]; exact hl)
      rw [List.append_nil] at b
      show wpAny _ _ (call (.ref fa) us) _ _ _
      refine wpAny_call (codeAny_mono (G.runs room hot pin I1.env0 b r1 sp1) fun r s' hq => ?_)
      match r, hq with
      | .error er, hq => exact (passLN (X := X.suite a ((a, oe) :: pn)) pins σ H1 s1 er s' I1 hq).elim
      | .ok (.ret u), hq => exact I1.after hq
      | .ok .next, hq => exact hq.elim
      | .ok .brk, hq => exact hq.elim
      | .ok .cont, hq => exact hq.elim
  · exact h.elim
end
end Bx

namespace Bx
open PySem L2
/-! ### plain data, compared -/
structure Py (k : Nat) (d : D) (p : PyData) : Prop where
  e : toPy d = some p
  c : p.canLay0 = true
  w : p.depth ≤ k
structure Pys (k : Nat) (d : List D) (p : List PyData) : Prop where
  e : toPys d = some p
  c : PyData.canLayAll0 p = true
  w : PyData.depthAll p ≤ k
theorem py_non {k : Nat} : Py k .non .none := ⟨rfl, rfl, by simp [PyData.depth]⟩
theorem py_int {k : Nat} {n : Int} : Py k (.int n) (.int n) := ⟨rfl, rfl, by simp [PyData.depth]⟩
theorem py_bl {k : Nat} {n : Bool} : Py k (.bl n) (.bool n) := ⟨rfl, rfl, by simp [PyData.depth]⟩
theorem py_str {k : Nat} {n : Str} (h : PyData.strOk n = true) : Py k (.str n) (.str n) := ⟨rfl, h, by simp [PyData.depth]⟩
theorem pys_nil {k : Nat} : Pys k [] [] := ⟨rfl, rfl, by simp [PyData.depthAll]⟩
theorem pys_cons {k : Nat} {d : D} {p : PyData} {ds : List D} {ps : List PyData} (a : Py k d p) (b : Pys k ds ps) : Pys k (d :: ds) (p :: ps) :=
  ⟨by simp [toPys, a.e, b.e], by simp [PyData.canLayAll0, a.c, b.c], by simp only [PyData.depthAll]; exact Nat.max_le.mpr ⟨a.w, b.w⟩⟩
theorem py_tup {k : Nat} {ds : List D} {ps : List PyData} (a : Pys k ds ps) : Py (k + 1) (.tup ds) (.tuple ps) := ⟨by simp [toPy, a.e], by simp [PyData.canLay0, a.c], by simp [PyData.depth]; exact a.w⟩
theorem py_lst {k : Nat} {ds : List D} {ps : List PyData} (a : Pys k ds ps) : Py (k + 1) (.lst ds) (.list ps) := ⟨by simp [toPy, a.e], by simp [PyData.canLay0, a.c], by simp [PyData.depth]; exact a.w⟩
theorem pys_ints {k : Nat} : ∀ l : List Int, Pys k (l.map .int) (l.map .int)
  | [] => pys_nil
  | _ :: l => pys_cons py_int (pys_ints l)
theorem shaped_py {k : Nat} {d : D} {p : PyData} (a : Py k d p) (h : k ≤ 64) : SeqAt.shaped p = true := by
  unfold SeqAt.shaped
  rw [a.c]
  simpa using Nat.le_trans a.w h
theorem gEq_py {k j : Nat} {d e : D} {p q : PyData} (a : Py k d p) (b : Py j e q) (hk : k ≤ 64 := by decide) (hj : j ≤ 64 := by decide) (S : Store) : gEq d e S = .ok (.bl (PyData.eqv p q)) S := by
  unfold gEq
  rw [a.e, b.e]
  simp [shaped_py a hk, shaped_py b hj]
theorem gNe_py {k j : Nat} {d e : D} {p q : PyData} (a : Py k d p) (b : Py j e q) (hk : k ≤ 64 := by decide) (hj : j ≤ 64 := by decide) (S : Store) : gNe d e S = .ok (.bl (!PyData.eqv p q)) S := by
  unfold gNe
  rw [a.e, b.e]
  simp [shaped_py a hk, shaped_py b hj]
mutual
theorem eqv_refl : ∀ p : PyData, p.canLay0 = true → PyData.eqv p p = true
  | .none, _ => rfl
  | .bool b, _ => by simp [PyData.eqv]
  | .int b, _ => by simp [PyData.eqv]
  | .str b, _ => by simp [PyData.eqv]
  | .list xs, h => by simp only [PyData.eqv]; exact eqvAll_refl xs h
  | .tuple xs, h => by simp only [PyData.eqv]; exact eqvAll_refl xs h
  | .dict xs, h => by simp [PyData.canLay0] at h
theorem eqvAll_refl : ∀ p : List PyData, PyData.canLayAll0 p = true → PyData.eqvAll p p = true
  | [], _ => rfl
  | x :: xs, h => by
    simp only [PyData.canLayAll0, Bool.and_eq_true] at h
    simp [PyData.eqvAll, eqv_refl x h.1, eqvAll_refl xs h.2]
end
/-- plain data no deeper than k -/
def Pl (k : Nat) (d : D) : Prop := ∃ p, Py k d p
theorem pl_non {k : Nat} : Pl k .non := ⟨_, py_non⟩
theorem pl_int {k : Nat} {n : Int} : Pl k (.int n) := ⟨_, py_int⟩
theorem pl_bl {k : Nat} {n : Bool} : Pl k (.bl n) := ⟨_, py_bl⟩
theorem pl_str {k : Nat} {n : Str} (h : PyData.strOk n = true) : Pl k (.str n) := ⟨_, py_str h⟩
theorem pls {k : Nat} : ∀ {ds : List D}, (∀ d ∈ ds, Pl k d) → ∃ ps, Pys k ds ps
  | [], _ => ⟨_, pys_nil⟩
  | d :: ds, h => by
    obtain ⟨p, a⟩ := h d (List.mem_cons_self ..)
    obtain ⟨ps, b⟩ := pls (ds := ds) fun x hx => h x (List.mem_cons_of_mem _ hx)
    exact ⟨_, pys_cons a b⟩
theorem pl_tup {k : Nat} {ds : List D} (h : ∀ d ∈ ds, Pl k d) : Pl (k + 1) (.tup ds) := by
  obtain ⟨ps, a⟩ := pls h
  exact ⟨_, py_tup a⟩
theorem pl_lst {k : Nat} {ds : List D} (h : ∀ d ∈ ds, Pl k d) : Pl (k + 1) (.lst ds) := by
  obtain ⟨ps, a⟩ := pls h
  exact ⟨_, py_lst a⟩
theorem pl_mono {k j : Nat} {d : D} (h : Pl k d) (hk : k ≤ j) : Pl j d := by
  obtain ⟨p, a⟩ := h
  exact ⟨p, a.e, a.c, Nat.le_trans a.w hk⟩
theorem pl_ints {k : Nat} {l : List Int} : ∀ d ∈ l.map D.int, Pl k d := fun d h => by
  obtain ⟨n, _, rfl⟩ := List.mem_map.mp h
  exact pl_int
theorem pl_all {k : Nat} {l : List D} : (∀ d ∈ l, Pl k d) ↔ ∀ d ∈ l, Pl k d := Iff.rfl
theorem gEq_same {k : Nat} {d : D} (h : Pl k d) (hk : k ≤ 64 := by decide) (S : Store) : gEq d d S = .ok (.bl true) S := by
  obtain ⟨p, a⟩ := h
  rw [gEq_py a a hk hk, eqv_refl _ a.c]
theorem gNe_same {k : Nat} {d : D} (h : Pl k d) (hk : k ≤ 64 := by decide) (S : Store) : gNe d d S = .ok (.bl false) S := by
  obtain ⟨p, a⟩ := h
  rw [gNe_py a a hk hk, eqv_refl _ a.c]
  rfl
@[simp] theorem gEq_int (a b : Int) (S : Store) : gEq (.int a) (.int b) S = .ok (.bl (decide (a = b))) S := by
  rw [gEq_py (k := 0) (j := 0) py_int py_int]
  rfl
@[simp] theorem gNe_int (a b : Int) (S : Store) : gNe (.int a) (.int b) S = .ok (.bl (!decide (a = b))) S := by
  rw [gNe_py (k := 0) (j := 0) py_int py_int]
  rfl
@[simp] theorem gEq_bl (a b : Bool) (S : Store) : gEq (.bl a) (.bl b) S = .ok (.bl (a == b)) S := by
  rw [gEq_py (k := 0) (j := 0) py_bl py_bl]
  simp [PyData.eqv]
@[simp] theorem gNe_bl (a b : Bool) (S : Store) : gNe (.bl a) (.bl b) S = .ok (.bl (!(a == b))) S := by
  rw [gNe_py (k := 0) (j := 0) py_bl py_bl]
  simp [PyData.eqv]
theorem gEq_str {a b : Str} (ha : PyData.strOk a = true) (hb : PyData.strOk b = true) (S : Store) : gEq (.str a) (.str b) S = .ok (.bl (a == b)) S := by
  rw [gEq_py (k := 0) (j := 0) (py_str ha) (py_str hb)]
  simp [PyData.eqv]
theorem gNe_str {a b : Str} (ha : PyData.strOk a = true) (hb : PyData.strOk b = true) (S : Store) : gNe (.str a) (.str b) S = .ok (.bl (!(a == b))) S := by
  rw [gNe_py (k := 0) (j := 0) (py_str ha) (py_str hb)]
  simp [PyData.eqv]
theorem eqvAll_ints : ∀ a b : List Int, PyData.eqvAll (a.map .int) (b.map .int) = decide (a = b)
  | [], [] => by simp [PyData.eqvAll]
  | [], _ :: _ => by simp [PyData.eqvAll]
  | _ :: _, [] => by simp [PyData.eqvAll]
  | x :: a, y :: b => by
    simp only [List.map_cons, PyData.eqvAll, PyData.eqv, eqvAll_ints a b]
    by_cases h : x = y <;> simp [h]
theorem gEq_tups (a b : List Int) (S : Store) : gEq (.tup (a.map .int)) (.tup (b.map .int)) S = .ok (.bl (decide (a = b))) S := by
  rw [gEq_py (k := 1) (j := 1) (py_tup (pys_ints a)) (py_tup (pys_ints b))]
  simp only [PyData.eqv, eqvAll_ints]
theorem gEq_lsts (a b : List Int) (S : Store) : gEq (.lst (a.map .int)) (.lst (b.map .int)) S = .ok (.bl (decide (a = b))) S := by
  rw [gEq_py (k := 1) (j := 1) (py_lst (pys_ints a)) (py_lst (pys_ints b))]
  simp only [PyData.eqv, eqvAll_ints]

/-! ### the source of draws -/
def SrcT (T S : Store) : Prop := ∃ (s i : Int) (cs : List Int), S = .src s cs i :: T ∧ cs.length ≤ 1000
abbrev Src (S : Store) : Prop := SrcT [] S
theorem e_next {T S : Store} (h : SrcT T S) {b : Int} (h1 : 0 < b) (h2 : b < 2 ^ 256) : ∃ (v : Int) (S' : Store), F_next [.ref 0, .int b] S = .ok (.int v) S' ∧ 0 ≤ v ∧ v < b ∧ SrcT T S' := by
  obtain ⟨s, i, cs, rfl, hl⟩ := h
  refine ⟨(nextV s cs i b).v, _, by simp only [F_next, List.getElem?_cons_zero]; rw [if_pos ⟨h1, h2, hl⟩], ?_, ?_, ?_⟩
  · unfold nextV
    split
    · exact Int.emod_nonneg _ (by omega)
    · exact Int.emod_nonneg _ (by omega)
  · unfold nextV
    split
    · exact Int.emod_lt_of_pos _ h1
    · exact Int.emod_lt_of_pos _ h1
  · refine ⟨(nextV s cs i b).s, (nextV s cs i b).i, (nextV s cs i b).cs, rfl, ?_⟩
    unfold nextV
    split
    · simpa using hl
    · exact hl
/-- a loop that always goes on -/
theorem go_on {g : Tgt D} {body : Stm} (Inv : List D → Rho → Store → Prop)
    (step : ∀ d ds ρ S, Inv (d :: ds) ρ S → ∃ ρ1, g d ρ = some ρ1 ∧ ∃ ρ2 S2, body ρ1 S = .mk (.nx ρ2) S2 ∧ Inv ds ρ2 S2) : ∀ ds ρ S, Inv ds ρ S → ∃ ρ' S', sFor.go g body ds ρ S = .mk (.nx ρ') S' ∧ Inv [] ρ' S'
  | [], ρ, S, h => ⟨ρ, S, rfl, h⟩
  | d :: ds, ρ, S, h => by
    obtain ⟨ρ1, h1, ρ2, S2, h2, h3⟩ := step d ds ρ S h
    obtain ⟨ρ', S', h4, h5⟩ := go_on Inv step ds ρ2 S2 h3
    refine ⟨ρ', S', ?_, h5⟩
    unfold sFor.go
    rw [h1]
    simp only [h2]
    exact h4
/-- [e for ..], each draw-free -/
theorem lc_map {g : Tgt D} {e : Fn D} {ρ : Rho} {S : Store} (f : D → D) : ∀ (ds acc : List D), (∀ d ∈ ds, ∃ ρ1, g d ρ = some ρ1 ∧ e ρ1 S = .ok (f d) S) → lcL g fYes e ρ ds acc S = .ok (acc ++ ds.map f) S
  | [], acc, _ => by simp [lcL]
  | d :: ds, acc, h => by
    obtain ⟨ρ1, h1, h2⟩ := h d (List.mem_cons_self ..)
    unfold lcL
    rw [h1]
    simp only [fYes, R.bind, if_true, h2]
    rw [lc_map f ds _ fun x hx => h x (List.mem_cons_of_mem _ hx)]
    simp
theorem lc_fil {g : Tgt D} {t : Fn Bool} {e : Fn D} {ρ : Rho} {S : Store} (p : D → Bool) (f : D → D) : ∀ (ds acc : List D), (∀ d ∈ ds, ∃ ρ1, g d ρ = some ρ1 ∧ t ρ1 S = .ok (p d) S ∧ e ρ1 S = .ok (f d) S) → lcL g t e ρ ds acc S = .ok (acc ++ (ds.filter p).map f) S
  | [], acc, _ => by simp [lcL]
  | d :: ds, acc, h => by
    obtain ⟨ρ1, h1, h2, h3⟩ := h d (List.mem_cons_self ..)
    have ih := fun acc => lc_fil (g := g) (t := t) (e := e) (ρ := ρ) (S := S) p f ds acc
    unfold lcL
    rw [h1]
    simp only [h2, R.bind]
    cases hp : p d with
    | true =>
      simp only [if_true, h3, R.bind]
      rw [ih _ fun x hx => h x (List.mem_cons_of_mem _ hx)]
      simp [hp]
    | false =>
      simp only [Bool.false_eq_true, if_false]
      rw [ih _ fun x hx => h x (List.mem_cons_of_mem _ hx)]
      simp [hp]
/-! ### lists of integers -/
def dI (l : List Int) : List D := l.map .int
def dT (l : List (List Int)) : List D := l.map fun b => .tup (dI b)
@[simp] theorem dI_nil : dI [] = [] := rfl
theorem dI_cons (a : Int) (l : List Int) : dI (a :: l) = .int a :: dI l := rfl
@[simp] theorem dI_length (l : List Int) : (dI l).length = l.length := by simp [dI]
@[simp] theorem dI_append (a b : List Int) : dI a ++ dI b = dI (a ++ b) := by simp [dI]
@[simp] theorem dI_snoc (a : List Int) (b : Int) : dI a ++ [D.int b] = dI (a ++ [b]) := by simp [dI]
@[simp] theorem dI_rev (a : List Int) : (dI a).reverse = dI a.reverse := by simp [dI]
@[simp] theorem ints_dI (l : List Int) : ints? (dI l) = some l := ints_map l
@[simp] theorem dT_length (l : List (List Int)) : (dT l).length = l.length := by simp [dT]
@[simp] theorem dT_snoc (a : List (List Int)) (b : List Int) : dT a ++ [D.tup (dI b)] = dT (a ++ [b]) := by simp [dT]
theorem pys_dI {k : Nat} (l : List Int) : Pys k (dI l) (l.map .int) := pys_ints l
theorem pl_dI {k : Nat} {l : List Int} : ∀ d ∈ dI l, Pl k d := pl_ints
theorem map_int (l : List Int) : l.map D.int = dI l := rfl
theorem sIx_pos {n d : Nat} {i : Int} (h : 0 ≤ i) : HT.sIx n d (some i) = min i.toNat n := by
  obtain ⟨k, rfl⟩ := Int.eq_ofNat_of_zero_le h
  exact HT.sIx_nat n d k
theorem cut_take {l : List Int} {i : Int} (h : 0 ≤ i) : cutD (dI l) none (some i) = dI (l.take i.toNat) := by
  unfold cutD
  rw [sIx_pos h, HT.sIx_none]
  simp [dI, ← List.map_take]
  congr 1
  by_cases h2 : i.toNat ≤ l.length
  · rw [Nat.min_eq_left h2]
  · rw [Nat.min_eq_right (by omega), List.take_of_length_le (by omega), List.take_of_length_le (by omega)]
theorem cut_drop {l : List Int} {i : Int} (h : 0 ≤ i) : cutD (dI l) (some i) none = dI (l.drop i.toNat) := by
  unfold cutD
  rw [sIx_pos h, HT.sIx_none]
  simp [dI, ← List.map_drop]
  congr 1
  by_cases h2 : i.toNat ≤ l.length
  · rw [Nat.min_eq_left h2, List.take_of_length_le (by simp)]
  · rw [Nat.min_eq_right (by omega)]
    simp
    omega
theorem gSl_takeL {l : List Int} {i : Int} {S : Store} (h : 0 ≤ i) : gSl (.lst (dI l)) none (some i) S = .ok (.lst (dI (l.take i.toNat))) S := by
  show R.ok (D.lst (cutD (dI l) none (some i))) S = _
  rw [cut_take h]
theorem gSl_dropL {l : List Int} {i : Int} {S : Store} (h : 0 ≤ i) : gSl (.lst (dI l)) (some i) none S = .ok (.lst (dI (l.drop i.toNat))) S := by
  show R.ok (D.lst (cutD (dI l) (some i) none)) S = _
  rw [cut_drop h]
theorem gSl_takeT {l : List Int} {i : Int} {S : Store} (h : 0 ≤ i) : gSl (.tup (dI l)) none (some i) S = .ok (.tup (dI (l.take i.toNat))) S := by
  show R.ok (D.tup (cutD (dI l) none (some i))) S = _
  rw [cut_take h]
theorem gSl_dropT {l : List Int} {i : Int} {S : Store} (h : 0 ≤ i) : gSl (.tup (dI l)) (some i) none S = .ok (.tup (dI (l.drop i.toNat))) S := by
  show R.ok (D.tup (cutD (dI l) (some i) none)) S = _
  rw [cut_drop h]
theorem dI_inj {a b : List Int} : dI a = dI b ↔ a = b := ⟨fun h => by
  have := congrArg ints? h
  simpa using this, fun h => h ▸ rfl⟩
theorem rangeD_dI (lo : Int) (n : Nat) : rangeD lo n = dI ((List.range n).map fun (k : Nat) => lo + (k : Int)) := by simp [rangeD, dI]
theorem rangeD0 (n : Nat) : rangeD 0 n = dI ((List.range n).map fun (k : Nat) => (k : Int)) := by simp [rangeD, dI]
theorem atI_dI {l : List Int} {i : Int} (h0 : 0 ≤ i) (h : i < l.length) : atI (dI l) i = some (.int (l.getD i.toNat 0)) := by
  unfold atI ixN
  rw [if_pos h0, if_pos (by simpa using h)]
  have : i.toNat < l.length := by omega
  simp [dI, List.getElem?_eq_getElem this]
theorem cutD_dI (l : List Int) (lo hi : Option Int) : cutD (dI l) lo hi = dI ((l.drop (HT.sIx l.length 0 lo)).take (HT.sIx l.length l.length hi - HT.sIx l.length 0 lo)) := by
  simp [cutD, dI, List.map_drop, List.map_take]
/-- [e for x in ..], draw-free, integers -/
theorem lc_int {g : Tgt D} {e : Fn D} {ρ : Rho} {S : Store} (f : Int → Int) (l : List Int) (h : ∀ k ∈ l, ∃ ρ1, g (.int k) ρ = some ρ1 ∧ e ρ1 S = .ok (.int (f k)) S) : lcL g fYes e ρ (dI l) [] S = .ok (dI (l.map f)) S := by
  rw [lc_map (fun d => match d with | .int k => D.int (f k) | d => d) _ _ fun d hd => ?_]
  · simp [dI]
  · obtain ⟨k, hk, rfl⟩ := List.mem_map.mp hd
    exact h k hk
/-- [e for x in .. if t] -/
theorem lc_intF {g : Tgt D} {t : Fn Bool} {e : Fn D} {ρ : Rho} {S : Store} (p : Int → Bool) (f : Int → Int) (l : List Int) (h : ∀ k ∈ l, ∃ ρ1, g (.int k) ρ = some ρ1 ∧ t ρ1 S = .ok (p k) S ∧ e ρ1 S = .ok (.int (f k)) S) : lcL g t e ρ (dI l) [] S = .ok (dI ((l.filter p).map f)) S := by
  rw [lc_fil (fun d => match d with | .int k => p k | _ => true) (fun d => match d with | .int k => D.int (f k) | d => d) _ _ fun d hd => ?_]
  · simp only [dI, List.nil_append, List.filter_map, List.map_map]
    rfl
  · obtain ⟨k, hk, rfl⟩ := List.mem_map.mp hd
    exact h k hk
/-! ### conditional readings: side conditions for omega -/
theorem gFdiv_ok {i j : Int} {S : Store} (h1 : 0 < j) (h2 : j < 115792089237316195423570985008687907853269984665640564039457584007913129639936) : gFdiv (.int i) (.int j) S = .ok (.int (i / j)) S := if_pos ⟨h1, h2⟩
theorem gMod_ok {i j : Int} {S : Store} (h1 : 0 < j) : gMod (.int i) (.int j) S = .ok (.int (i % j)) S := if_pos h1
theorem gMulR_ok {i j : Int} {S : Store} (h1 : -18446744073709551616 < j) (h2 : j < 18446744073709551616) : gMul (.int i) (.int j) S = .ok (.int (i * j)) S := by
  show (if mulOk i j then _ else _) = _
  rw [if_pos]
  unfold mulOk
  rw [Bool.or_eq_true]
  exact .inr (by simp; omega)
theorem gMulL_ok {i j : Int} {S : Store} (h1 : -18446744073709551616 < i) (h2 : i < 18446744073709551616) : gMul (.int i) (.int j) S = .ok (.int (i * j)) S := by
  show (if mulOk i j then _ else _) = _
  rw [if_pos]
  unfold mulOk
  rw [Bool.or_eq_true]
  exact .inl (by simp; omega)
theorem gRange1_ok {j : Int} {S : Store} (h1 : 0 ≤ j) (h2 : j ≤ 1000000) : gRange1 [.int j] S = .ok (rangeD 0 j.toNat) S := if_pos ⟨by omega, h2⟩
theorem gRange2_ok {i j : Int} {S : Store} (h1 : 0 ≤ i) (h2 : i ≤ 1000000) (h3 : 0 ≤ j) (h4 : j ≤ 1000000) : gRange2 [.int i, .int j] S = .ok (rangeD i (j - i).toNat) S := if_pos ⟨by omega, by omega, by omega, by omega⟩
theorem gPow_ok {i j : Int} {S : Store} (h1 : 0 ≤ j) (h2 : j ≤ 1000000) (h3 : i.natAbs < 18446744073709551616) : gPow (.int i) (.int j) S = .ok (.int (i ^ j.toNat)) S := if_pos ⟨h1, h2, h3⟩
theorem gAddL_ok {a b : List D} {S : Store} (h : a.length + b.length ≤ 1000000) : gAdd (.lst a) (.lst b) S = .ok (.lst (a ++ b)) S := if_pos h
theorem gAddT_ok {a b : List D} {S : Store} (h : a.length + b.length ≤ 1000000) : gAdd (.tup a) (.tup b) S = .ok (.tup (a ++ b)) S := if_pos h
theorem gAdd_int {a b : Int} {S : Store} : gAdd (.int a) (.int b) S = .ok (.int (a + b)) S := rfl
theorem fLc_ok {fi : Fn (List D)} {g : Tgt D} {t : Fn Bool} {e : Fn D} {vs : List Nat} {ρ : Rho} {S S1 S2 : Store} {xs ys : List D} (h1 : fi ρ S = .ok xs S1) (h2 : xs.length ≤ 1000000) (h3 : lcL g t e (wipeR ρ vs) xs [] S1 = .ok ys S2) : fLc fi g t e vs ρ S = .ok (.ow ys) S2 := by
  unfold fLc
  rw [h1]
  show (if xs.length ≤ LIM then _ else _) = _
  rw [if_pos h2, h3]
  rfl
theorem atI_nat {α : Type} {l : List α} {i : Int} (h0 : 0 ≤ i) (h : i < l.length) : atI l i = l[i.toNat]? := by
  unfold atI ixN
  rw [if_pos h0, if_pos h]
  rfl
theorem ix0 {α : Type} (a : α) (l : List α) : atI (a :: l) 0 = some a := by
  unfold atI ixN
  rw [if_pos (by decide), if_pos (by simp)]
  rfl
theorem ix1 {α : Type} (a b : α) (l : List α) : atI (a :: b :: l) 1 = some b := by
  unfold atI ixN
  rw [if_pos (by decide), if_pos (by simp; omega)]
  rfl
theorem ix2 {α : Type} (a b c : α) (l : List α) : atI (a :: b :: c :: l) 2 = some c := by
  unfold atI ixN
  rw [if_pos (by decide), if_pos (by simp; omega)]
  rfl
theorem inv1 : inV (V.str "taker") [V.str "taker", V.str "striker"] = true := by decide
theorem inv2 : inV (V.str "striker") [V.str "taker", V.str "striker"] = true := by decide
theorem ite_le {α : Type} {n m : Nat} {a b : α} (h : n ≤ m) : (if n ≤ m then a else b) = a := if_pos h
theorem ite_lt {α : Type} {n m : Nat} {a b : α} (h : n < m) : (if n < m then a else b) = a := if_pos h
theorem ite_iv {α : Type} {a b c d : Int} {x y : α} (h1 : a ≤ b) (h2 : c ≤ d) : (if a ≤ b ∧ c ≤ d then x else y) = x := if_pos ⟨h1, h2⟩
theorem atI_ints {l : List Int} {i : Int} (h0 : 0 ≤ i) (h : i < l.length) : atI (l.map D.int) i = some (.int (l.getD i.toNat 0)) := by
  rw [atI_nat h0 (by simpa using h), List.getElem?_map, List.getD_eq_getElem?_getD]
  have : i.toNat < l.length := by omega
  rw [List.getElem?_eq_getElem this]
  rfl
@[simp] theorem rangeD_length (lo : Int) (n : Nat) : (rangeD lo n).length = n := rangeD_len
/-! ### one statement after another -/
theorem seq_go {g1 g2 : Stm} {ρ ρ1 : Rho} {S S1 : Store} {r : SR} (h1 : g1 ρ S = .mk (.nx ρ1) S1) (h2 : g2 ρ1 S1 = r) : sSeq g1 g2 ρ S = r := by
  show (match g1 ρ S with | .mk (.nx ρ1) S1 => g2 ρ1 S1 | r => r) = _
  rw [h1]
  exact h2
theorem seq_rt {g1 g2 : Stm} {ρ : Rho} {d : D} {S S1 : Store} (h : g1 ρ S = .mk (.rt d) S1) : sSeq g1 g2 ρ S = .mk (.rt d) S1 := by
  show (match g1 ρ S with | .mk (.nx ρ1) S1 => g2 ρ1 S1 | r => r) = _
  rw [h]
theorem seq_xr {g1 g2 : Stm} {ρ ρ1 : Rho} {x : Exc} {S S1 : Store} (h : g1 ρ S = .mk (.xr x ρ1) S1) : sSeq g1 g2 ρ S = .mk (.xr x ρ1) S1 := by
  show (match g1 ρ S with | .mk (.nx ρ1) S1 => g2 ρ1 S1 | r => r) = _
  rw [h]
theorem if_y {t : Fn Bool} {g1 g2 : Stm} {ρ : Rho} {S S1 : Store} {r : SR} (h1 : t ρ S = .ok true S1) (h2 : g1 ρ S1 = r) : sIf t g1 g2 ρ S = r := by
  show liftE _ _ _ _ = _
  unfold liftE
  rw [h1]
  exact h2
theorem if_n {t : Fn Bool} {g1 g2 : Stm} {ρ : Rho} {S S1 : Store} {r : SR} (h1 : t ρ S = .ok false S1) (h2 : g2 ρ S1 = r) : sIf t g1 g2 ρ S = r := by
  show liftE _ _ _ _ = _
  unfold liftE
  rw [h1]
  exact h2
theorem fn_rt {n : Nat} {g : Stm} {ds : List D} {d : D} {S S' : Store} (h : g (startR n ds) S = .mk (.rt d) S') : fnSem n g ds S = .ok d S' := by
  unfold fnSem
  rw [h]
theorem fn_nx {n : Nat} {g : Stm} {ds : List D} {ρ : Rho} {S S' : Store} (h : g (startR n ds) S = .mk (.nx ρ) S') : fnSem n g ds S = .ok .non S' := by
  unfold fnSem
  rw [h]
theorem fn_xr {n : Nat} {g : Stm} {ds : List D} {ρ : Rho} {x : Exc} {S S' : Store} (h : g (startR n ds) S = .mk (.xr x ρ) S') : fnSem n g ds S = .er x S' := by
  unfold fnSem
  rw [h]
/-- a comprehension over coded things -/
theorem lc_enc {α β : Type} {g : Tgt D} {t : Fn Bool} {e : Fn D} {ρ : Rho} {S : Store} (enc : α → D) (dec : β → D) (p : α → Bool) (f : α → β) : ∀ (l : List α) (acc : List D),
    (∀ a ∈ l, ∃ ρ1, g (enc a) ρ = some ρ1 ∧ t ρ1 S = .ok (p a) S ∧ (p a = true → e ρ1 S = .ok (dec (f a)) S)) → lcL g t e ρ (l.map enc) acc S = .ok (acc ++ ((l.filter p).map f).map dec) S
  | [], acc, _ => by simp [lcL]
  | a :: l, acc, h => by
    obtain ⟨ρ1, h1, h2, h3⟩ := h a (List.mem_cons_self ..)
    have ih := fun acc => lc_enc (g := g) (t := t) (e := e) (ρ := ρ) (S := S) enc dec p f l acc
    rw [List.map_cons]
    unfold lcL
    rw [h1]
    simp only [h2, R.bind]
    cases hp : p a with
    | true =>
      simp only [if_true, h3 hp, R.bind]
      rw [ih _ fun x hx => h x (List.mem_cons_of_mem _ hx)]
      simp [hp]
    | false =>
      simp only [Bool.false_eq_true, if_false]
      rw [ih _ fun x hx => h x (List.mem_cons_of_mem _ hx)]
      simp [hp]
/-- .. without a test -/
theorem lc_encM {α β : Type} {g : Tgt D} {e : Fn D} {ρ : Rho} {S : Store} (enc : α → D) (dec : β → D) (f : α → β) (l : List α) (acc : List D)
    (h : ∀ a ∈ l, ∃ ρ1, g (enc a) ρ = some ρ1 ∧ e ρ1 S = .ok (dec (f a)) S) : lcL g fYes e ρ (l.map enc) acc S = .ok (acc ++ (l.map f).map dec) S := by
  rw [lc_enc enc dec (fun _ => true) f l acc fun a ha => ?_]
  · rw [List.filter_eq_self.mpr fun _ _ => rfl]
  · obtain ⟨ρ1, h1, h2⟩ := h a ha
    exact ⟨ρ1, h1, rfl, fun _ => h2⟩
/-- a loop that folds -/
theorem for_fold {α τ : Type} {g : Tgt D} {body : Stm} {S : Store} (enc : α → D) (P : τ → Rho → Prop) (step : τ → α → τ) : ∀ (l : List α),
    (∀ a ∈ l, ∀ x ρ, P x ρ → ∃ ρ1, g (enc a) ρ = some ρ1 ∧ ∃ ρ2, body ρ1 S = .mk (.nx ρ2) S ∧ P (step x a) ρ2) → ∀ x ρ, P x ρ → ∃ ρ', sFor.go g body (l.map enc) ρ S = .mk (.nx ρ') S ∧ P (l.foldl step x) ρ'
  | [], _, x, ρ, h => ⟨ρ, rfl, h⟩
  | a :: l, hs, x, ρ, h => by
    obtain ⟨ρ1, h1, ρ2, h2, h3⟩ := hs a (List.mem_cons_self ..) x ρ h
    obtain ⟨ρ', h4, h5⟩ := for_fold enc P step l (fun b hb => hs b (List.mem_cons_of_mem _ hb)) (step x a) ρ2 h3
    refine ⟨ρ', ?_, h5⟩
    rw [List.map_cons]
    unfold sFor.go
    rw [h1]
    simp only [h2]
    exact h4
theorem sFor_ok {fi : Fn (List D)} {g : Tgt D} {body : Stm} {ρ : Rho} {S S1 : Store} {ds : List D} {r : SR} (h1 : fi ρ S = .ok ds S1) (h2 : sFor.go g body ds ρ S1 = r) : sFor fi g body ρ S = r := by
  unfold sFor liftE
  rw [h1]
  exact h2
theorem foldl_app {α β : Type} (f : α → List β) : ∀ (l : List α) (acc : List β), l.foldl (fun acc a => acc ++ f a) acc = acc ++ l.flatMap f
  | [], acc => by simp
  | a :: l, acc => by
    rw [List.foldl_cons, foldl_app f l, List.flatMap_cons, List.append_assoc]
/-! readings put together by hand -/
theorem fUn_ok {α β : Type} {g : α → Store → R β} {f : Fn α} {ρ : Rho} {S S1 : Store} {a : α} {r : R β} (h : f ρ S = .ok a S1) (h2 : g a S1 = r) : fUn g f ρ S = r := by
  show (f ρ S).bind g = _
  rw [h]
  exact h2
theorem fCons_ok {f : Fn D} {fs : Fn (List D)} {ρ : Rho} {S S1 S2 : Store} {d : D} {ds : List D} (h : f ρ S = .ok d S1) (h2 : fs ρ S1 = .ok ds S2) : fCons f fs ρ S = .ok (d :: ds) S2 := by
  show (f ρ S).bind _ = _
  rw [h]
  show (fs ρ S1).bind _ = _
  rw [h2]
  rfl
theorem fBin_ok {g : D → D → Store → R D} {f1 f2 : Fn D} {ρ : Rho} {S S1 S2 : Store} {a b : D} {r : R D} (h1 : f1 ρ S = .ok a S1) (h2 : f2 ρ S1 = .ok b S2) (h3 : g a b S2 = r) : fBin g f1 f2 ρ S = r := by
  show (f1 ρ S).bind _ = _
  rw [h1]
  show (f2 ρ S1).bind _ = _
  rw [h2]
  exact h3
theorem frz_go {i : Nat} {g : Stm} {ρ : Rho} {S : Store} {ds : List D} {r : SR} (h : ρ[i]? = some (.ow ds)) (k : g (ρ.set i (.fz (.lst ds))) S = r) : sFrz i g ρ S = r := by
  show (match ρ[i]? with
    | some (.ow ds) => g (ρ.set i (.fz (.lst ds))) S
    | _ => g ρ S) = r
  rw [h]
  exact k
theorem set_go {i : Nat} {f : Fn D} {g : Stm} {ρ : Rho} {S S1 : Store} {d : D} {r : SR} (h : f ρ S = .ok d S1) (hi : i < ρ.length) (k : g (ρ.set i (.fz d)) S1 = r) : sSeq (sSet i (fMk f)) g ρ S = r := by
  refine seq_go (ρ1 := ρ.set i (.fz d)) (S1 := S1) ?_ k
  simp [h, hi]
theorem ret_go {f : Fn D} {ρ : Rho} {S S1 : Store} {d : D} (h : f ρ S = .ok d S1) : sRet f ρ S = .mk (.rt d) S1 := by
  simp [h]
end Bx

namespace Bx
open PySem L2
def T_wall_1 : Fn Bool := (fUn gTru (fC (.bl true)))
def B_wall_1 : Stm := sNil
def S_wall : Stm := (sWhile 1000 T_wall_1 B_wall_1)
def F_wall : Sem := fnSem 1 S_wall
def S_is_integer : Stm := (sRet (fAndV (fUn (gIsi .i) (fVar 0)) (fUn gNot (fUn (gIsi .b) (fVar 0)))))
def F_is_integer : Sem := fnSem 1 S_is_integer
def S_is_from : Stm := (sRet (fAndV (fUn F_is_integer (fCons (fVar 0) fNil)) (fChain gLe gLe (fVar 1) (fVar 0) (fVar 2))))
def F_is_from : Sem := fnSem 3 S_is_from
def B_check_boxes_1 : Stm := (sIf (fNotT (fUn gTru (fUn F_is_from (fCons (fVar 1) (fCons (fC (.int 1)) (fCons (fC (.int 1000000000000000000000000000000)) fNil)))))) (sRaise "BadBoxes") sNil)
def S_check_boxes : Stm := (sSeq (sIf (fOrT (fNotT (fUn gTru (fUn (gIsi .t) (fVar 0)))) (fNotT (fUn gBl (fChain gLe gLe (fC (.int 1)) (fUn gLen (fCons (fVar 0) fNil)) (fC (.int 8)))))) (sRaise "BadBoxes") sNil)
    (sFor (fUn gItems (fVar 0)) (gtName 1) B_check_boxes_1))
def F_check_boxes : Sem := fnSem 2 S_check_boxes
def S_check_take : Stm := (sIf (fNotT (fUn gTru (fUn F_is_from (fCons (fVar 0) (fCons (fC (.int 1)) (fCons (fC (.int 1000000000000000000000000000000)) fNil)))))) (sRaise "BadTake") sNil)
def F_check_take : Sem := fnSem 1 S_check_take
def S_check_strike : Stm := (sIf (fNotT (fUn gTru (fUn F_is_from (fCons (fVar 0) (fCons (fC (.int 1)) (fCons (fC (.int 3)) fNil)))))) (sRaise "BadStrike") sNil)
def F_check_strike : Sem := fnSem 1 S_check_strike
def S_Game_boxes : Stm := (sRet (fBin gIx (fUn (gFld "Game" "held") (fVar 0)) (fC (.int 0))))
def F_Game_boxes : Sem := fnSem 1 S_Game_boxes
def S_Game_take : Stm := (sRet (fBin gIx (fUn (gFld "Game" "held") (fVar 0)) (fC (.int 1))))
def F_Game_take : Sem := fnSem 1 S_Game_take
def S_Game_strike : Stm := (sRet (fBin gIx (fUn (gFld "Game" "held") (fVar 0)) (fC (.int 2))))
def F_Game_strike : Sem := fnSem 1 S_Game_strike
def S_Game_init : Stm := (sSeq (sExp (fUn F_check_boxes (fCons (fVar 1) fNil)))
    (sSeq (sExp (fUn F_check_take (fCons (fVar 2) fNil)))
    (sSeq (sExp (fUn F_check_strike (fCons (fVar 3) fNil)))
    (sFld "Game" 0 "held" (fTup (fCons (fVar 1) (fCons (fVar 2) (fCons (fVar 3) fNil))))))))
def F_Game_init : SemI := fnI "Game" 4 S_Game_init
def S_Game_eq : Stm := (sRet (fAndV (fUn (gIsC "Game") (fVar 1)) (fBin gEq (fUn (gFld "Game" "held") (fVar 0)) (fUn (gFld "Game" "held") (fVar 1)))))
def F_Game_eq : Sem := fnSem 2 S_Game_eq
def S_check_game : Stm := (sIf (fNotT (fUn gTru (fUn (gIsC "Game") (fVar 0)))) (sRaise "BadGame") sNil)
def F_check_game : Sem := fnSem 1 S_check_game
def S_check_first : Stm := (sIf (fOrT (fNotT (fUn gTru (fUn (gIsi .s) (fVar 0)))) (fUn gBl (fBin (gIn true) (fVar 0) (fTup (fCons (fC (.str "taker")) (fCons (fC (.str "striker")) fNil)))))) (sRaise "BadFirst") sNil)
def F_check_first : Sem := fnSem 1 S_check_first
def E_bounds_of_1 : Fn D := (fBin gAdd (fVar 5) (fBin gMul (fVar 6) (fBin gAdd (fVar 8) (fC (.int 1)))))
def E_bounds_of_2 : Fn D := (fBin gAdd (fVar 9) (fVar 1))
def T_bounds_of_1 : Fn Bool := (fUn gBl (fBin gLe (fUn gLen (fCons (fVar 4) fNil)) (fVar 0)))
def B_bounds_of_1 : Stm := (sSeq (sApp 3 (fVar 4))
    (sSeq (sTgt (fTup (fCons (fBin gIx (fVar 4) (fUn gNeg (fC (.int 1)))) (fCons (fBin gFdiv (fBin gIx (fVar 4) (fUn gNeg (fC (.int 1)))) (fUn gLen (fCons (fVar 4) fNil))) fNil))) (gtTup 2 (gtCons (gtName 5) (gtCons (gtName 6) gtNil))))
    (sSeq (sSet 7 (fMk (fBin gAdd (fFz (fCx gList (fCons (fVar 4) fNil))) (fFz (fLc (fUn gRange1 (fCons (fVar 2) fNil)) (gtName 8) fYes E_bounds_of_1 [8])))))
    (sSet 4 (fMk (fUn gTuple (fCons (fFz (fLc (fUn gItems (fVar 7)) (gtName 9) fYes E_bounds_of_2 [9])) fNil)))))))
def S_bounds_of : Stm := (sSeq (sSet 3 (fLst fNil))
    (sSeq (sSet 4 (fMk (fTup (fCons (fVar 1) fNil))))
    (sSeq (sWhile 1000 T_bounds_of_1 B_bounds_of_1)
    (sFrz 3 (sRet (fVar 3))))))
def F_bounds_of : Sem := fnSem 10 S_bounds_of
def B_tops_of_1 : Stm := (sSeq (sAug (fun a b => a + b) 2 (fVar 3))
    (sApp 1 (fVar 2)))
def S_tops_of : Stm := (sSeq (sSet 1 (fLst fNil))
    (sSeq (sSet 2 (fMk (fC (.int 0))))
    (sSeq (sFor (fUn gItems (fFz (fCx gSortedRev (fCons (fVar 0) fNil)))) (gtName 3) B_tops_of_1)
    (sFrz 1 (sRet (fUn gTuple (fCons (fVar 1) fNil)))))))
def F_tops_of : Sem := fnSem 4 S_tops_of
def B_sums_of_1 : Stm := (sApp 3 (fTup (fCons (fUn gLen (fCons (fVar 4) fNil)) (fCons (fUn F_tops_of (fCons (fSl (fVar 0) fPn (fUn gPart (fUn gLen (fCons (fVar 4) fNil)))) fNil)) (fCons (fVar 4) fNil)))))
def S_sums_of : Stm := (sSeq (sSet 3 (fLst fNil))
    (sSeq (sFor (fUn gItems (fUn F_bounds_of (fCons (fUn gLen (fCons (fVar 0) fNil)) (fCons (fVar 1) (fCons (fVar 2) fNil))))) (gtName 4) B_sums_of_1)
    (sFrz 3 (sRet (fVar 3)))))
def F_sums_of : Sem := fnSem 5 S_sums_of
def E_over_1 : Fn D := (fBin gSub (fVar 2) (fVar 3))
def S_over : Stm := (sRet (fUn gMax (fCons (fBin gAdd (fFz (fLst (fCons (fC (.int 0)) fNil))) (fFz (fLc (fUn gZip (fCons (fVar 0) (fCons (fVar 1) fNil))) (gtTup 2 (gtCons (gtName 2) (gtCons (gtName 3) gtNil))) fYes E_over_1 [2, 3]))) fNil)))
def F_over : Sem := fnSem 4 S_over
def B_turns_of_1 : Stm := (sIf (fUn gBl (fBin gEq (fUn F_over (fCons (fBin gIx (fVar 4) (fC (.int 1))) (fCons (fBin gIx (fVar 4) (fC (.int 2))) fNil))) (fC (.int 0)))) (sRet (fBin gAdd (fVar 3) (fC (.int 1)))) sNil)
def S_turns_of : Stm := (sSeq (sFor (fUn gEnumA (fCons (fUn F_sums_of (fCons (fFz (fCx gSorted (fCons (fFz (fCx gList (fCons (fVar 0) fNil))) fNil))) (fCons (fVar 1) (fCons (fVar 2) fNil)))) fNil)) (gtTup 2 (gtCons (gtName 3) (gtCons (gtName 4) gtNil))) B_turns_of_1)
    (sRet (fC .non)))
def F_turns_of : Sem := fnSem 5 S_turns_of
def S_left_for : Stm := (sSeq (sSet 3 (fMk (fFz (fCx gSorted (fCons (fFz (fCx gList (fCons (fVar 0) fNil))) fNil)))))
    (sSeq (sIf (fUn gBl (fBin gEq (fVar 2) (fC (.str "striker")))) (sRet (fSl (fVar 3) (fUn gPart (fVar 1)) fPn)) sNil)
    (sRet (fVar 3))))
def F_left_for : Sem := fnSem 4 S_left_for
def S_turns_by : Stm := (sRet (fUn F_turns_of (fCons (fUn F_left_for (fCons (fVar 0) (fCons (fVar 2) (fCons (fVar 3) fNil)))) (fCons (fVar 1) (fCons (fVar 2) fNil)))))
def F_turns_by : Sem := fnSem 4 S_turns_by
def S_winner_by : Stm := (sSeq (sIf (fUn gBl (fBin gIsN (fUn F_turns_by (fCons (fVar 0) (fCons (fVar 1) (fCons (fVar 2) (fCons (fVar 3) fNil))))) (fC .non))) (sRet (fC (.str "striker"))) sNil)
    (sRet (fC (.str "taker"))))
def F_winner_by : Sem := fnSem 4 S_winner_by
def S_check_asked : Stm := (sSeq (sExp (fUn F_check_game (fCons (fVar 0) fNil)))
    (sExp (fUn F_check_first (fCons (fVar 1) fNil))))
def F_check_asked : Sem := fnSem 2 S_check_asked
def S_winner : Stm := (sSeq (sExp (fUn F_check_asked (fCons (fVar 0) (fCons (fVar 1) fNil))))
    (sRet (fUn F_winner_by (fCons (fUn (gProp "Game" F_Game_boxes) (fVar 0)) (fCons (fUn (gProp "Game" F_Game_take) (fVar 0)) (fCons (fUn (gProp "Game" F_Game_strike) (fVar 0)) (fCons (fVar 1) fNil)))))))
def F_winner : Sem := fnSem 2 S_winner
def S_in_turns : Stm := (sSeq (sExp (fUn F_check_asked (fCons (fVar 0) (fCons (fVar 1) fNil))))
    (sSeq (sIf (fNotT (fUn gTru (fUn F_is_from (fCons (fVar 2) (fCons (fC (.int 1)) (fCons (fC (.int 100)) fNil)))))) (sRaise "BadTurns") sNil)
    (sSeq (sSet 3 (fMk (fUn F_turns_by (fCons (fUn (gProp "Game" F_Game_boxes) (fVar 0)) (fCons (fUn (gProp "Game" F_Game_take) (fVar 0)) (fCons (fUn (gProp "Game" F_Game_strike) (fVar 0)) (fCons (fVar 1) fNil)))))))
    (sRet (fAndV (fBin gNotN (fVar 3) (fC .non)) (fBin gLe (fVar 3) (fVar 2)))))))
def F_in_turns : Sem := fnSem 4 S_in_turns
def T_open_boxes_1 : Fn Bool := (fUn gBl (fBin gNotN (fVar 2) (fC .non)))
def E_open_boxes_1 : Fn D := (fVar 1)
def S_open_boxes : Stm := (sRet (fFz (fLc (fUn gEnumA (fCons (fVar 0) fNil)) (gtTup 2 (gtCons (gtName 1) (gtCons (gtName 2) gtNil))) T_open_boxes_1 E_open_boxes_1 [1, 2])))
def F_open_boxes : Sem := fnSem 3 S_open_boxes
def T_sizes_of_1 : Fn Bool := (fUn gBl (fBin gNotN (fVar 1) (fC .non)))
def E_sizes_of_1 : Fn D := (fVar 1)
def S_sizes_of : Stm := (sRet (fFz (fLc (fUn gItems (fVar 0)) (gtName 1) T_sizes_of_1 E_sizes_of_1 [1])))
def F_sizes_of : Sem := fnSem 2 S_sizes_of
def E_without_1 : Fn D := (fIfE (fUn gBl (fBin (gIn false) (fVar 2) (fVar 1))) (fC .non) (fVar 3))
def S_without : Stm := (sRet (fUn gTuple (fCons (fFz (fLc (fUn gEnumA (fCons (fVar 0) fNil)) (gtTup 2 (gtCons (gtName 2) (gtCons (gtName 3) gtNil))) fYes E_without_1 [2, 3])) fNil)))
def F_without : Sem := fnSem 4 S_without
def B_all_takings_1 : Stm := (sApp 4 (fTup (fCons (fBin gAdd (fVar 5) (fTup (fCons (fVar 7) fNil))) (fCons (fBin gSub (fVar 6) (fVar 7)) fNil))))
def B_all_takings_2 : Stm := (sSeq (sIf (fPeekT (fUn gBl (fBin gGt (fBin gAdd (fBin gAdd (fUn gLen (fCons (fVar 4) fNil)) (fUn gMin (fCons (fVar 3) (fCons (fVar 6) fNil)))) (fC (.int 1))) (fC (.int 3000))))) (sRaise "TooLarge") sNil)
    (sFor (fUn gRange1 (fCons (fBin gAdd (fUn gMin (fCons (fVar 3) (fCons (fVar 6) fNil))) (fC (.int 1))) fNil)) (gtName 7) B_all_takings_1))
def B_all_takings_3 : Stm := (sSeq (sSet 4 (fLst fNil))
    (sSeq (sFor (fUn gItems (fVar 2)) (gtTup 2 (gtCons (gtName 5) (gtCons (gtName 6) gtNil))) B_all_takings_2)
    (sFrz 4 (sSet 2 (fMk (fVar 4))))))
def E_all_takings_1 : Fn D := (fVar 5)
def S_all_takings : Stm := (sSeq (sSet 2 (fMk (fFz (fLst (fCons (fTup (fCons (fTup fNil) (fCons (fVar 1) fNil))) fNil)))))
    (sSeq (sFor (fUn gItems (fVar 0)) (gtName 3) B_all_takings_3)
    (sRet (fFz (fLc (fUn gItems (fVar 2)) (gtTup 2 (gtCons (gtName 5) (gtCons (gtName 6) gtNil))) fYes E_all_takings_1 [5, 6])))))
def F_all_takings : Sem := fnSem 8 S_all_takings
def E_is_winning_1 : Fn D := (fBin gSub (fVar 5) (fVar 6))
def S_is_winning : Stm := (sSeq (sSet 4 (fLc (fUn gZip (fCons (fVar 0) (fCons (fVar 1) fNil))) (gtTup 2 (gtCons (gtName 5) (gtCons (gtName 6) gtNil))) fYes E_is_winning_1 [5, 6]))
    (sFrz 4 (sRet (fOrV (fBin (gIn false) (fC (.int 0)) (fVar 4)) (fBin gNotN (fUn F_turns_by (fCons (fVar 4) (fCons (fVar 2) (fCons (fVar 3) (fCons (fC (.str "striker")) fNil))))) (fC .non))))))
def F_is_winning : Sem := fnSem 7 S_is_winning
def T_many_takings_1 : Fn Bool := (fUn gTru (fUn F_is_winning (fCons (fUn (gProp "Game" F_Game_boxes) (fVar 0)) (fCons (fVar 2) (fCons (fUn (gProp "Game" F_Game_take) (fVar 0)) (fCons (fUn (gProp "Game" F_Game_strike) (fVar 0)) fNil))))))
def E_many_takings_1 : Fn D := (fVar 2)
def S_many_takings : Stm := (sSeq (sExp (fUn F_check_game (fCons (fVar 0) fNil)))
    (sSeq (sSet 1 (fMk (fUn F_all_takings (fCons (fUn (gProp "Game" F_Game_boxes) (fVar 0)) (fCons (fUn (gProp "Game" F_Game_take) (fVar 0)) fNil)))))
    (sRet (fUn gLen (fCons (fFz (fLc (fUn gItems (fVar 1)) (gtName 2) T_many_takings_1 E_many_takings_1 [2])) fNil)))))
def F_many_takings : Sem := fnSem 3 S_many_takings
def B_is_taking_1 : Stm := (sSeq (sSet 5 (fMk (fVar 4)))
    (sSeq (sIf (fUn gBl (fBin gIsN (fVar 4) (fC .non))) (sSet 5 (fMk (fC (.int 0)))) sNil)
    (sIf (fNotT (fUn gTru (fUn F_is_from (fCons (fVar 3) (fCons (fC (.int 0)) (fCons (fVar 5) fNil)))))) (sRet (fC (.bl false))) sNil)))
def S_is_taking : Stm := (sSeq (sIf (fOrT (fNotT (fUn gTru (fUn (gIsi .t) (fVar 2)))) (fUn gBl (fBin gNe (fUn gLen (fCons (fVar 2) fNil)) (fUn gLen (fCons (fVar 0) fNil))))) (sRet (fC (.bl false))) sNil)
    (sSeq (sFor (fUn gZip (fCons (fVar 2) (fCons (fVar 0) fNil))) (gtTup 2 (gtCons (gtName 3) (gtCons (gtName 4) gtNil))) B_is_taking_1)
    (sRet (fBin gLe (fUn gSum (fCons (fVar 2) fNil)) (fVar 1)))))
def F_is_taking : Sem := fnSem 6 S_is_taking
def B_is_striking_1 : Stm := (sSeq (sIf (fOrT (fNotT (fUn gTru (fUn F_is_from (fCons (fVar 5) (fCons (fVar 4) (fCons (fBin gSub (fUn gLen (fCons (fVar 0) fNil)) (fC (.int 1))) fNil)))))) (fUn gBl (fBin (gIn true) (fVar 5) (fVar 3)))) (sRet (fC (.bl false))) sNil)
    (sSet 4 (fMk (fBin gAdd (fVar 5) (fC (.int 1))))))
def S_is_striking : Stm := (sSeq (sSet 3 (fMk (fUn F_open_boxes (fCons (fVar 0) fNil))))
    (sSeq (sIf (fOrT (fNotT (fUn gTru (fUn (gIsi .t) (fVar 2)))) (fUn gBl (fBin gNe (fUn gLen (fCons (fVar 2) fNil)) (fUn gMin (fCons (fVar 1) (fCons (fUn gLen (fCons (fVar 3) fNil)) fNil)))))) (sRet (fC (.bl false))) sNil)
    (sSeq (sSet 4 (fMk (fC (.int 0))))
    (sSeq (sFor (fUn gItems (fVar 2)) (gtName 5) B_is_striking_1)
    (sRet (fC (.bl true)))))))
def F_is_striking : Sem := fnSem 6 S_is_striking
def S_is_move : Stm := (sSeq (sIf (fOrT (fUn gBl (fBin gIsN (fVar 2) (fC .non))) (fOrT (fNotT (fUn gTru (fUn (gIsi .t) (fVar 3)))) (fOrT (fUn gBl (fBin gNe (fUn gLen (fCons (fVar 3) fNil)) (fC (.int 2)))) (fNotT (fUn gTru (fUn (gIsi .s) (fBin gIx (fVar 3) (fC (.int 0))))))))) (sRet (fC (.bl false))) sNil)
    (sSeq (sIf (fUn gBl (fBin gEq (fVar 2) (fC (.str "taker")))) (sRet (fAndV (fBin gEq (fBin gIx (fVar 3) (fC (.int 0))) (fC (.str "take"))) (fUn F_is_taking (fCons (fVar 0) (fCons (fUn (gProp "Game" F_Game_take) (fVar 1)) (fCons (fBin gIx (fVar 3) (fC (.int 1))) fNil)))))) sNil)
    (sRet (fAndV (fBin gEq (fBin gIx (fVar 3) (fC (.int 0))) (fC (.str "strike"))) (fUn F_is_striking (fCons (fVar 0) (fCons (fUn (gProp "Game" F_Game_strike) (fVar 1)) (fCons (fBin gIx (fVar 3) (fC (.int 1))) fNil))))))))
def F_is_move : Sem := fnSem 4 S_is_move
def B_behind_1 : Stm := (sIf (fUn gBl (fBin gIsN (fVar 3) (fC .non))) (sApp 2 (fC .non)) (sApp 2 (fBin gSub (fVar 3) (fVar 4))))
def S_behind : Stm := (sSeq (sIf (fUn gBl (fBin gEq (fBin gIx (fVar 1) (fC (.int 0))) (fC (.str "strike")))) (sRet (fUn F_without (fCons (fVar 0) (fCons (fBin gIx (fVar 1) (fC (.int 1))) fNil)))) sNil)
    (sSeq (sSet 2 (fLst fNil))
    (sSeq (sFor (fUn gZip (fCons (fVar 0) (fCons (fBin gIx (fVar 1) (fC (.int 1))) fNil))) (gtTup 2 (gtCons (gtName 3) (gtCons (gtName 4) gtNil))) B_behind_1)
    (sFrz 2 (sRet (fUn gTuple (fCons (fVar 2) fNil)))))))
def F_behind : Sem := fnSem 5 S_behind
def S_has_won : Stm := (sSeq (sIf (fUn gBl (fBin (gIn false) (fC (.int 0)) (fVar 0))) (sRet (fC (.str "taker"))) sNil)
    (sSeq (sIf (fNotT (fUn gTru (fUn F_sizes_of (fCons (fVar 0) fNil)))) (sRet (fC (.str "striker"))) sNil)
    (sRet (fC .non))))
def F_has_won : Sem := fnSem 1 S_has_won
def S_turn_behind : Stm := (sSeq (sIf (fUn gBl (fBin gNotN (fUn F_has_won (fCons (fVar 0) fNil)) (fC .non))) (sRet (fC .non)) sNil)
    (sRet (fUn (gDct [("taker", "striker"), ("striker", "taker")]) (fVar 1))))
def F_turn_behind : Sem := fnSem 2 S_turn_behind
def S_winner_now : Stm := (sSeq (sSet 3 (fMk (fUn F_has_won (fCons (fVar 0) fNil))))
    (sSeq (sIf (fUn gBl (fBin gNotN (fVar 3) (fC .non))) (sRet (fVar 3)) sNil)
    (sRet (fUn F_winner_by (fCons (fUn F_sizes_of (fCons (fVar 0) fNil)) (fCons (fUn (gProp "Game" F_Game_take) (fVar 1)) (fCons (fUn (gProp "Game" F_Game_strike) (fVar 1)) (fCons (fVar 2) fNil))))))))
def F_winner_now : Sem := fnSem 4 S_winner_now
def B_judge_1 : Stm := (sSeq (sIf (fNotT (fUn gTru (fUn F_is_move (fCons (fVar 3) (fCons (fVar 0) (fCons (fVar 4) (fCons (fVar 7) fNil))))))) (sRaiseA "BadMoves" ["index"] (fCons (fVar 6) fNil)) sNil)
    (sSeq (sSet 8 (fMk (fUn F_winner_now (fCons (fVar 3) (fCons (fVar 0) (fCons (fVar 4) fNil))))))
    (sSeq (sSet 3 (fMk (fUn F_behind (fCons (fVar 3) (fCons (fVar 7) fNil)))))
    (sSeq (sSet 4 (fMk (fUn F_turn_behind (fCons (fVar 3) (fCons (fVar 4) fNil)))))
    (sIf (fUn gBl (fBin gEq (fUn F_winner_now (fCons (fVar 3) (fCons (fVar 0) (fCons (fVar 4) fNil)))) (fVar 8))) (sApp 5 (fC (.str "keeps"))) (sApp 5 (fC (.str "gives"))))))))
def S_judge : Stm := (sSeq (sExp (fUn F_check_asked (fCons (fVar 0) (fCons (fVar 1) fNil))))
    (sSeq (sIf (fOrT (fNotT (fUn gTru (fUn (gIsi .t) (fVar 2)))) (fUn gBl (fBin gGt (fUn gLen (fCons (fVar 2) fNil)) (fC (.int 16))))) (sRaiseA "BadMoves" ["index"] (fCons (fC .non) fNil)) sNil)
    (sSeq (sPar 3 4 (fMk (fUn (gProp "Game" F_Game_boxes) (fVar 0))) (fMk (fVar 1)))
    (sSeq (sSet 5 (fLst fNil))
    (sSeq (sFor (fUn gEnumA (fCons (fVar 2) fNil)) (gtTup 2 (gtCons (gtName 6) (gtCons (gtName 7) gtNil))) B_judge_1)
    (sFrz 5 (sRet (fVar 5))))))))
def F_judge : Sem := fnSem 9 S_judge
def B_greatest_equal_1 : Stm := (sApp 5 (fBin gFdiv (fBin gIx (fVar 6) (fUn gNeg (fC (.int 1)))) (fUn gLen (fCons (fVar 6) fNil))))
def S_greatest_equal : Stm := (sSeq (sIf (fNotT (fUn gTru (fUn F_is_from (fCons (fVar 0) (fCons (fC (.int 1)) (fCons (fC (.int 100)) fNil)))))) (sRaise "BadMany") sNil)
    (sSeq (sExp (fUn F_check_take (fCons (fVar 1) fNil)))
    (sSeq (sExp (fUn F_check_strike (fCons (fVar 2) fNil)))
    (sSeq (sExp (fUn F_check_first (fCons (fVar 3) fNil)))
    (sSeq (sSet 4 (fMk (fVar 0)))
    (sSeq (sIf (fUn gBl (fBin gEq (fVar 3) (fC (.str "striker")))) (sAug (fun a b => a - b) 4 (fVar 2)) sNil)
    (sSeq (sSet 5 (fLst (fCons (fC (.int 0)) fNil)))
    (sSeq (sFor (fUn gItems (fUn F_bounds_of (fCons (fVar 4) (fCons (fVar 1) (fCons (fVar 2) fNil))))) (gtName 6) B_greatest_equal_1)
    (sFrz 5 (sRet (fUn gMax (fCons (fVar 5) fNil))))))))))))
def F_greatest_equal : Sem := fnSem 7 S_greatest_equal
def B_number_at_1 : Stm := (sIf (fUn gBl (fBin (gIn true) (fVar 6) (fC (.str "0123456789")))) (sSet 5 (fMk (fC (.bl false)))) sNil)
def S_number_at : Stm := (sSeq (sIf (fUn gBl (fBin gGe (fVar 2) (fUn gLen (fCons (fVar 0) fNil)))) (sRaiseA "InvalidText" ["line", "word"] (fCons (fVar 1) (fCons (fBin gAdd (fVar 2) (fC (.int 1))) fNil))) sNil)
    (sSeq (sSet 4 (fMk (fBin gIx (fVar 0) (fVar 2))))
    (sSeq (sSet 5 (fMk (fAndV (fChain gLe gLe (fC (.int 1)) (fUn gLen (fCons (fVar 4) fNil)) (fC (.int 31))) (fBin gNe (fBin gIx (fVar 4) (fC (.int 0))) (fC (.str "0"))))))
    (sSeq (sFor (fUn gChars (fVar 4)) (gtName 6) B_number_at_1)
    (sSeq (sIf (fOrT (fNotT (fUn gTru (fVar 5))) (fUn gBl (fBin gGt (fUn gIntS (fCons (fVar 4) fNil)) (fVar 3)))) (sRaiseA "InvalidText" ["line", "word"] (fCons (fVar 1) (fCons (fBin gAdd (fVar 2) (fC (.int 1))) fNil))) sNil)
    (sRet (fUn gIntS (fCons (fVar 4) fNil))))))))
def F_number_at : Sem := fnSem 7 S_number_at
def S_words_at : Stm := (sSeq (sIf (fUn gBl (fBin gGt (fVar 1) (fUn gLen (fCons (fVar 0) fNil)))) (sRaiseA "InvalidText" ["line", "word"] (fCons (fVar 1) (fCons (fC (.int 1)) fNil))) sNil)
    (sSeq (sSet 3 (fMk (fBin gIx (fVar 0) (fBin gSub (fVar 1) (fC (.int 1))))))
    (sSeq (sIf (fUn gBl (fBin gNe (fSl (fVar 3) fPn (fUn gPart (fC (.int 1)))) (fFz (fLst (fCons (fVar 2) fNil))))) (sRaiseA "InvalidText" ["line", "word"] (fCons (fVar 1) (fCons (fC (.int 1)) fNil))) sNil)
    (sRet (fVar 3)))))
def F_words_at : Sem := fnSem 4 S_words_at
def S_read_one : Stm := (sSeq (sSet 4 (fMk (fUn F_words_at (fCons (fVar 0) (fCons (fVar 1) (fCons (fVar 2) fNil))))))
    (sSeq (sSet 5 (fMk (fUn F_number_at (fCons (fVar 4) (fCons (fVar 1) (fCons (fC (.int 1)) (fCons (fVar 3) fNil)))))))
    (sSeq (sIf (fUn gBl (fBin gGt (fUn gLen (fCons (fVar 4) fNil)) (fC (.int 2)))) (sRaiseA "InvalidText" ["line", "word"] (fCons (fVar 1) (fCons (fC (.int 3)) fNil))) sNil)
    (sRet (fVar 5)))))
def F_read_one : Sem := fnSem 6 S_read_one
def T_read_game_1 : Fn Bool := (fUn gBl (fBin gNe (fVar 2) (fC (.str ""))))
def E_read_game_1 : Fn D := (fVar 2)
def E_read_game_2 : Fn D := (fFz (fLc (fUn gItems (fStrM gSplit (fVar 3) (fC (.str " ")))) (gtName 2) T_read_game_1 E_read_game_1 [2]))
def T_read_game_2 : Fn Bool := (fPeekT (fUn gBl (fBin gLt (fBin gAdd (fUn gLen (fCons (fVar 5) fNil)) (fC (.int 1))) (fUn gLen (fCons (fVar 4) fNil)))))
def B_read_game_1 : Stm := (sSeq (sIf (fPeekT (fUn gBl (fBin gEq (fUn gLen (fCons (fVar 5) fNil)) (fC (.int 8))))) (sRaiseA "InvalidText" ["line", "word"] (fCons (fC (.int 1)) (fCons (fPeek (fBin gAdd (fUn gLen (fCons (fVar 5) fNil)) (fC (.int 2)))) fNil))) sNil)
    (sApp 5 (fUn F_number_at (fCons (fVar 4) (fCons (fC (.int 1)) (fCons (fPeek (fBin gAdd (fUn gLen (fCons (fVar 5) fNil)) (fC (.int 1)))) (fCons (fC (.int 1000000000000000000000000000000)) fNil)))))))
def S_read_game : Stm := (sSeq (sSet 1 (fLc (fUn gItems (fStrM gSplit (fVar 0) (fC (.str "\n")))) (gtName 3) fYes E_read_game_2 [3]))
    (sFrz 1 (sSeq (sSet 4 (fMk (fUn F_words_at (fCons (fVar 1) (fCons (fC (.int 1)) (fCons (fC (.str "boxes")) fNil))))))
    (sSeq (sSet 5 (fLst (fCons (fUn F_number_at (fCons (fVar 4) (fCons (fC (.int 1)) (fCons (fC (.int 1)) (fCons (fC (.int 1000000000000000000000000000000)) fNil))))) fNil)))
    (sSeq (sWhile 1000 T_read_game_2 B_read_game_1)
    (sSeq (sSet 6 (fMk (fUn F_read_one (fCons (fVar 1) (fCons (fC (.int 2)) (fCons (fC (.str "take")) (fCons (fC (.int 1000000000000000000000000000000)) fNil)))))))
    (sSeq (sSet 7 (fMk (fUn F_read_one (fCons (fVar 1) (fCons (fC (.int 3)) (fCons (fC (.str "strike")) (fCons (fC (.int 3)) fNil)))))))
    (sSeq (sIf (fUn gBl (fBin gGt (fUn gLen (fCons (fVar 1) fNil)) (fC (.int 3)))) (sRaiseA "InvalidText" ["line", "word"] (fCons (fC (.int 4)) (fCons (fC (.int 1)) fNil))) sNil)
    (sFrz 5 (sRet (fMake "Game" F_Game_init (fCons (fUn gTuple (fCons (fVar 5) fNil)) (fCons (fVar 6) (fCons (fVar 7) fNil))))))))))))))
def F_read_game : Sem := fnSem 8 S_read_game
def B_law_mix_1 : Stm := (sSet 2 (fMk (fBin gMod (fUn gInt (fCons (fBin gAdd (fBin gAdd (fBin gMul (fVar 2) (fC (.int 48271))) (fBin gMod (fUn gInt (fCons (fVar 3) fNil)) (fC (.int 2147483629)))) (fC (.int 1))) fNil)) (fC (.int 2147483647)))))
def S_law_mix : Stm := (sSeq (sSet 2 (fMk (fVar 1)))
    (sSeq (sFor (fUn gItems (fVar 0)) (gtName 3) B_law_mix_1)
    (sRet (fSrc (fVar 2) (fCx gList (fCons (fVar 0) fNil)) (fC (.int 0))))))
def F_law_mix : Sem := fnSem 4 S_law_mix
def T_law_which_1 : Fn Bool := (fUn gTru (fBin gIx (fVar 1) (fVar 2)))
def E_law_which_1 : Fn D := (fVar 2)
def S_law_which : Stm := (sSeq (sSet 1 (fMk (fFz (fLst (fCons (fIsE 0 [("BadBoxes", true), ("BadTake", false), ("BadStrike", false), ("BadGame", false), ("BadFirst", false), ("BadTurns", false), ("TooLarge", false), ("BadMany", false), ("BadMoves", false), ("NotTurn", false), ("BadTaking", false), ("BadStriking", false), ("InvalidText", false)]) (fCons (fIsE 0 [("BadBoxes", false), ("BadTake", true), ("BadStrike", false), ("BadGame", false), ("BadFirst", false), ("BadTurns", false), ("TooLarge", false), ("BadMany", false), ("BadMoves", false), ("NotTurn", false), ("BadTaking", false), ("BadStriking", false), ("InvalidText", false)]) (fCons (fIsE 0 [("BadBoxes", false), ("BadTake", false), ("BadStrike", true), ("BadGame", false), ("BadFirst", false), ("BadTurns", false), ("TooLarge", false), ("BadMany", false), ("BadMoves", false), ("NotTurn", false), ("BadTaking", false), ("BadStriking", false), ("InvalidText", false)]) (fCons (fIsE 0 [("BadBoxes", false), ("BadTake", false), ("BadStrike", false), ("BadGame", true), ("BadFirst", false), ("BadTurns", false), ("TooLarge", false), ("BadMany", false), ("BadMoves", false), ("NotTurn", false), ("BadTaking", false), ("BadStriking", false), ("InvalidText", false)]) fNil))))))))
    (sSeq (sSet 1 (fMk (fBin gAdd (fVar 1) (fFz (fLst (fCons (fIsE 0 [("BadBoxes", false), ("BadTake", false), ("BadStrike", false), ("BadGame", false), ("BadFirst", true), ("BadTurns", false), ("TooLarge", false), ("BadMany", false), ("BadMoves", false), ("NotTurn", false), ("BadTaking", false), ("BadStriking", false), ("InvalidText", false)]) (fCons (fIsE 0 [("BadBoxes", false), ("BadTake", false), ("BadStrike", false), ("BadGame", false), ("BadFirst", false), ("BadTurns", true), ("TooLarge", false), ("BadMany", false), ("BadMoves", false), ("NotTurn", false), ("BadTaking", false), ("BadStriking", false), ("InvalidText", false)]) (fCons (fIsE 0 [("BadBoxes", false), ("BadTake", false), ("BadStrike", false), ("BadGame", false), ("BadFirst", false), ("BadTurns", false), ("TooLarge", true), ("BadMany", false), ("BadMoves", false), ("NotTurn", false), ("BadTaking", false), ("BadStriking", false), ("InvalidText", false)]) fNil))))))))
    (sSeq (sSet 1 (fMk (fBin gAdd (fVar 1) (fFz (fLst (fCons (fIsE 0 [("BadBoxes", false), ("BadTake", false), ("BadStrike", false), ("BadGame", false), ("BadFirst", false), ("BadTurns", false), ("TooLarge", false), ("BadMany", true), ("BadMoves", false), ("NotTurn", false), ("BadTaking", false), ("BadStriking", false), ("InvalidText", false)]) (fCons (fIsE 0 [("BadBoxes", false), ("BadTake", false), ("BadStrike", false), ("BadGame", false), ("BadFirst", false), ("BadTurns", false), ("TooLarge", false), ("BadMany", false), ("BadMoves", true), ("NotTurn", false), ("BadTaking", false), ("BadStriking", false), ("InvalidText", false)]) (fCons (fIsE 0 [("BadBoxes", false), ("BadTake", false), ("BadStrike", false), ("BadGame", false), ("BadFirst", false), ("BadTurns", false), ("TooLarge", false), ("BadMany", false), ("BadMoves", false), ("NotTurn", true), ("BadTaking", false), ("BadStriking", false), ("InvalidText", false)]) fNil))))))))
    (sSeq (sSet 1 (fMk (fBin gAdd (fVar 1) (fFz (fLst (fCons (fIsE 0 [("BadBoxes", false), ("BadTake", false), ("BadStrike", false), ("BadGame", false), ("BadFirst", false), ("BadTurns", false), ("TooLarge", false), ("BadMany", false), ("BadMoves", false), ("NotTurn", false), ("BadTaking", true), ("BadStriking", false), ("InvalidText", false)]) (fCons (fIsE 0 [("BadBoxes", false), ("BadTake", false), ("BadStrike", false), ("BadGame", false), ("BadFirst", false), ("BadTurns", false), ("TooLarge", false), ("BadMany", false), ("BadMoves", false), ("NotTurn", false), ("BadTaking", false), ("BadStriking", true), ("InvalidText", false)]) (fCons (fIsE 0 [("BadBoxes", false), ("BadTake", false), ("BadStrike", false), ("BadGame", false), ("BadFirst", false), ("BadTurns", false), ("TooLarge", false), ("BadMany", false), ("BadMoves", false), ("NotTurn", false), ("BadTaking", false), ("BadStriking", false), ("InvalidText", true)]) fNil))))))))
    (sSeq (sIf (fNotT (fUn gTru (fIsE 0 [("BadBoxes", true), ("BadTake", true), ("BadStrike", true), ("BadGame", true), ("BadFirst", true), ("BadTurns", true), ("TooLarge", true), ("BadMany", true), ("BadMoves", true), ("NotTurn", true), ("BadTaking", true), ("BadStriking", true), ("InvalidText", true)]))) (sRet (fFz (fLst fNil))) sNil)
    (sRet (fFz (fLc (fUn gRange1 (fCons (fC (.int 13)) fNil)) (gtName 2) T_law_which_1 E_law_which_1 [2]))))))))
def F_law_which : SemX := fnSemX 2 S_law_which
def S_law_early : Stm := (sSeq (sIf (fUn gBl (fBin gEq (fVar 0) (fC (.int 0)))) (sExp (fMake "Game" F_Game_init (fCons (fTup (fCons (fVar 1) (fCons (fC (.int 0)) fNil))) (fCons (fVar 1) (fCons (fC (.int 1)) fNil))))) sNil)
    (sSeq (sIf (fUn gBl (fBin gEq (fVar 0) (fC (.int 1)))) (sExp (fMake "Game" F_Game_init (fCons (fTup (fCons (fVar 1) fNil)) (fCons (fC (.int 0)) (fCons (fC (.int 1)) fNil))))) sNil)
    (sSeq (sIf (fUn gBl (fBin gEq (fVar 0) (fC (.int 2)))) (sExp (fMake "Game" F_Game_init (fCons (fTup (fCons (fVar 1) fNil)) (fCons (fVar 1) (fCons (fBin gAdd (fVar 1) (fC (.int 3))) fNil))))) sNil)
    (sSeq (sIf (fUn gBl (fBin gEq (fVar 0) (fC (.int 3)))) (sExp (fUn F_winner (fCons (fTup (fCons (fVar 1) fNil)) (fCons (fC (.str "taker")) fNil)))) sNil)
    (sSeq (sIf (fUn gBl (fBin gEq (fVar 0) (fC (.int 4)))) (sExp (fUn F_winner (fCons (fVar 2) (fCons (fVar 1) fNil)))) sNil)
    (sSeq (sIf (fUn gBl (fBin gEq (fVar 0) (fC (.int 5)))) (sExp (fUn F_in_turns (fCons (fVar 2) (fCons (fC (.str "taker")) (fCons (fBin gAdd (fC (.int 100)) (fVar 1)) fNil))))) sNil)
    (sIf (fUn gBl (fBin gEq (fVar 0) (fC (.int 6)))) (sExp (fUn F_many_takings (fCons (fMake "Game" F_Game_init (fCons (fTup (fCons (fBin gAdd (fC (.int 3000)) (fVar 1)) fNil)) (fCons (fBin gAdd (fC (.int 3000)) (fVar 1)) (fCons (fC (.int 1)) fNil)))) fNil))) sNil)))))))
def F_law_early : Sem := fnSem 3 S_law_early
def S_Match_init : Stm := (sSeq (sExp (fUn F_check_asked (fCons (fVar 1) (fCons (fVar 2) fNil))))
    (sSeq (sFld "Match" 0 "game" (fVar 1))
    (sSeq (sFld "Match" 0 "stands" (fRefL (fLst (fCons (fTup (fCons (fUn (gProp "Game" F_Game_boxes) (fVar 1)) (fCons (fVar 2) fNil))) fNil))))
    (sFld "Match" 0 "made" (fRefL (fLst fNil))))))
def F_Match_init : SemI := fnI "Match" 3 S_Match_init
def S_Match_check_turn : Stm := (sIf (fUn gBl (fBin gNe (fBin gIx (fBin gOIx (fUn (gOFld "Match" "stands") (fVar 0)) (fUn gNeg (fC (.int 1)))) (fC (.int 1))) (fVar 1))) (sRaise "NotTurn") sNil)
def F_Match_check_turn : Sem := fnSem 2 S_Match_check_turn
def S_Match_go : Stm := (sSeq (sTgt (fBin gOIx (fUn (gOFld "Match" "stands") (fVar 0)) (fUn gNeg (fC (.int 1)))) (gtTup 2 (gtCons (gtName 2) (gtCons (gtName 3) gtNil))))
    (sSeq (sSet 4 (fMk (fUn F_behind (fCons (fVar 2) (fCons (fVar 1) fNil)))))
    (sSeq (sSet 3 (fMk (fUn F_turn_behind (fCons (fVar 4) (fCons (fVar 3) fNil)))))
    (sSeq (sOApp (fUn (gOFld "Match" "stands") (fVar 0)) (fTup (fCons (fVar 4) (fCons (fVar 3) fNil))))
    (sSeq (sOApp (fUn (gOFld "Match" "made") (fVar 0)) (fVar 1))
    (sRet (fVar 3)))))))
def F_Match_go : Sem := fnSem 5 S_Match_go
def S_Match_takes : Stm := (sSeq (sExp (fMeth "Match" "check_turn" F_Match_check_turn (fVar 0) (fCons (fC (.str "taker")) fNil)))
    (sSeq (sIf (fNotT (fUn gTru (fUn F_is_taking (fCons (fBin gIx (fBin gOIx (fUn (gOFld "Match" "stands") (fVar 0)) (fUn gNeg (fC (.int 1)))) (fC (.int 0))) (fCons (fUn (gProp "Game" F_Game_take) (fUn (gOFld "Match" "game") (fVar 0))) (fCons (fVar 1) fNil)))))) (sRaise "BadTaking") sNil)
    (sRet (fMeth "Match" "go" F_Match_go (fVar 0) (fCons (fTup (fCons (fC (.str "take")) (fCons (fVar 1) fNil))) fNil)))))
def F_Match_takes : Sem := fnSem 2 S_Match_takes
def S_Match_strikes : Stm := (sSeq (sExp (fMeth "Match" "check_turn" F_Match_check_turn (fVar 0) (fCons (fC (.str "striker")) fNil)))
    (sSeq (sIf (fNotT (fUn gTru (fUn F_is_striking (fCons (fBin gIx (fBin gOIx (fUn (gOFld "Match" "stands") (fVar 0)) (fUn gNeg (fC (.int 1)))) (fC (.int 0))) (fCons (fUn (gProp "Game" F_Game_strike) (fUn (gOFld "Match" "game") (fVar 0))) (fCons (fVar 1) fNil)))))) (sRaise "BadStriking") sNil)
    (sRet (fMeth "Match" "go" F_Match_go (fVar 0) (fCons (fTup (fCons (fC (.str "strike")) (fCons (fVar 1) fNil))) fNil)))))
def F_Match_strikes : Sem := fnSem 2 S_Match_strikes
def S_law_do : Stm := (sSeq (sExp (fUn F_law_early (fCons (fVar 0) (fCons (fVar 1) (fCons (fVar 2) fNil)))))
    (sSeq (sIf (fUn gBl (fBin gEq (fVar 0) (fC (.int 7)))) (sExp (fUn F_greatest_equal (fCons (fC (.int 0)) (fCons (fVar 1) (fCons (fC (.int 1)) (fCons (fC (.str "taker")) fNil)))))) sNil)
    (sSeq (sIf (fUn gBl (fBin gEq (fVar 0) (fC (.int 8)))) (sExp (fUn F_judge (fCons (fVar 2) (fCons (fC (.str "taker")) (fCons (fTup (fCons (fTup (fCons (fC (.str "take")) (fCons (fTup (fCons (fC (.int 0)) (fCons (fVar 1) fNil))) fNil))) (fCons (fTup (fCons (fC (.str "take")) (fCons (fTup (fCons (fC (.int 0)) (fCons (fC (.int 0)) fNil))) fNil))) fNil))) fNil))))) sNil)
    (sSeq (sIf (fUn gBl (fBin gEq (fVar 0) (fC (.int 9)))) (sExp (fMeth "Match" "strikes" F_Match_strikes (fMakeO "Match" F_Match_init (fCons (fVar 2) (fCons (fC (.str "taker")) fNil))) (fCons (fTup (fCons (fC (.int 0)) fNil)) fNil))) sNil)
    (sSeq (sIf (fUn gBl (fBin gEq (fVar 0) (fC (.int 10)))) (sExp (fMeth "Match" "takes" F_Match_takes (fMakeO "Match" F_Match_init (fCons (fVar 2) (fCons (fC (.str "taker")) fNil))) (fCons (fTup (fCons (fBin gAdd (fVar 1) (fC (.int 1))) (fCons (fC (.int 0)) fNil))) fNil))) sNil)
    (sSeq (sIf (fUn gBl (fBin gEq (fVar 0) (fC (.int 11)))) (sExp (fMeth "Match" "strikes" F_Match_strikes (fMakeO "Match" F_Match_init (fCons (fVar 2) (fCons (fC (.str "striker")) fNil))) (fCons (fTup (fCons (fC (.int 2)) fNil)) fNil))) sNil)
    (sIf (fUn gBl (fBin gEq (fVar 0) (fC (.int 12)))) (sExp (fUn F_read_game (fCons (fBin gAdd (fBin gAdd (fC (.str "boxes ")) (fUn gStr (fCons (fVar 1) fNil))) (fC (.str "\ntake 0"))) fNil))) sNil)))))))
def F_law_do : Sem := fnSem 3 S_law_do
def S_law : Stm := (sSeq (sSet 1 (fMk (fUn F_law_mix (fCons (fVar 0) (fCons (fC (.int 13)) fNil)))))
    (sSeq (sSet 2 (fMk (fBin gAdd (fC (.int 1)) (fUn F_next (fCons (fVar 1) (fCons (fC (.int 9)) fNil))))))
    (sSeq (sSet 3 (fMk (fMake "Game" F_Game_init (fCons (fTup (fCons (fBin gAdd (fVar 2) (fC (.int 4))) (fCons (fBin gAdd (fVar 2) (fC (.int 4))) fNil))) (fCons (fVar 2) (fCons (fC (.int 1)) fNil))))))
    (sSeq (sSet 4 (fMk (fUn F_next (fCons (fVar 1) (fCons (fC (.int 13)) fNil)))))
    (sSeq (sSet 5 (fMk (fFz (fLst fNil))))
    (sSeq (sTryAs (sExp (fUn F_law_do (fCons (fVar 4) (fCons (fVar 2) (fCons (fVar 3) fNil))))) 6 [("BadBoxes", true), ("BadTake", true), ("BadStrike", true), ("BadGame", true), ("BadFirst", true), ("BadTurns", true), ("TooLarge", true), ("BadMany", true), ("BadMoves", true), ("NotTurn", true), ("BadTaking", true), ("BadStriking", true), ("InvalidText", true)] (sSet 5 (fMk (fHot 6 F_law_which))))
    (sSeq (sIf (fUn gBl (fBin gNe (fVar 5) (fFz (fLst (fCons (fVar 4) fNil))))) (sRet (fC (.bl false))) sNil)
    (sSeq (sTryAs (sExp (fUn F_law_do (fCons (fC (.int 8)) (fCons (fVar 2) (fCons (fVar 3) fNil))))) 6 [("BadMoves", true)] (sIf (fUn gBl (fBin gNe (fXf 6 "BadMoves" "index") (fC (.int 1)))) (sRet (fC (.bl false))) sNil))
    (sSeq (sTryAs (sExp (fUn F_law_do (fCons (fC (.int 12)) (fCons (fVar 2) (fCons (fVar 3) fNil))))) 6 [("InvalidText", true)] (sRet (fBin gEq (fTup (fCons (fXf 6 "InvalidText" "line") (fCons (fXf 6 "InvalidText" "word") fNil))) (fTup (fCons (fC (.int 2)) (fCons (fC (.int 2)) fNil))))))
    (sRet (fC (.bl false))))))))))))
def F_law : Sem := fnSem 7 S_law
end Bx

namespace Bx
open PySem L2
def top (i : Nat) : Stmt := PySem.Challenge.pw_boxtaker_k13_errors_apart.main.body.getD i (.Pass ⟨0, 0, 0, 0⟩)
abbrev s_wall : Stmt := top 0
abbrev s_is_integer : Stmt := top 20
abbrev s_is_from : Stmt := top 21
abbrev s_check_boxes : Stmt := top 22
abbrev s_check_take : Stmt := top 23
abbrev s_check_strike : Stmt := top 24
abbrev s_check_game : Stmt := top 26
abbrev s_check_first : Stmt := top 27
abbrev s_bounds_of : Stmt := top 30
abbrev s_tops_of : Stmt := top 31
abbrev s_sums_of : Stmt := top 32
abbrev s_over : Stmt := top 33
abbrev s_turns_of : Stmt := top 34
abbrev s_left_for : Stmt := top 35
abbrev s_turns_by : Stmt := top 36
abbrev s_winner_by : Stmt := top 37
abbrev s_check_asked : Stmt := top 38
abbrev s_winner : Stmt := top 39
abbrev s_in_turns : Stmt := top 40
abbrev s_open_boxes : Stmt := top 43
abbrev s_sizes_of : Stmt := top 44
abbrev s_without : Stmt := top 45
abbrev s_all_takings : Stmt := top 46
abbrev s_is_winning : Stmt := top 47
abbrev s_many_takings : Stmt := top 48
abbrev s_is_taking : Stmt := top 52
abbrev s_is_striking : Stmt := top 53
abbrev s_is_move : Stmt := top 54
abbrev s_behind : Stmt := top 55
abbrev s_has_won : Stmt := top 56
abbrev s_turn_behind : Stmt := top 57
abbrev s_winner_now : Stmt := top 58
abbrev s_judge : Stmt := top 59
abbrev s_greatest_equal : Stmt := top 64
abbrev s_number_at : Stmt := top 67
abbrev s_words_at : Stmt := top 68
abbrev s_read_one : Stmt := top 69
abbrev s_read_game : Stmt := top 70
abbrev s_law_mix : Stmt := top 72
abbrev s_law_next : Stmt := top 73
abbrev s_law_which : Stmt := top 74
abbrev s_law_early : Stmt := top 75
abbrev s_law_do : Stmt := top 76
abbrev s_law : Stmt := top 77
abbrev s_g_init : Stmt := inClass (top 25) 0
abbrev s_g_boxes : Stmt := inClass (top 25) 1
abbrev s_g_take : Stmt := inClass (top 25) 2
abbrev s_g_strike : Stmt := inClass (top 25) 3
abbrev s_g_eq : Stmt := inClass (top 25) 4
abbrev s_Match_init : Stmt := inClass (top 61) 0
abbrev s_Match_turn : Stmt := inClass (top 61) 1
abbrev s_Match_left : Stmt := inClass (top 61) 2
abbrev s_Match_winner : Stmt := inClass (top 61) 3
abbrev s_Match_moves : Stmt := inClass (top 61) 4
abbrev s_Match_check_turn : Stmt := inClass (top 61) 5
abbrev s_Match_go : Stmt := inClass (top 61) 6
abbrev s_Match_takes : Stmt := inClass (top 61) 7
abbrev s_Match_strikes : Stmt := inClass (top 61) 8
abbrev s_Match_advice : Stmt := inClass (top 61) 9
abbrev s_Match_undo : Stmt := inClass (top 61) 10
abbrev s_Match_copy : Stmt := inClass (top 61) 11
abbrev s_Match___len__ : Stmt := inClass (top 61) 12
abbrev s_e_BadMoves : Stmt := inClass (top 11) 0
abbrev s_e_InvalidText : Stmt := inClass (top 15) 0
structure Txt (w : World) (K : PySem.W.Frag) (mg : Str → Option Value) (base : Heap) (TT : Tx) (C CM : Addr) : Prop where
  tk : TT.K = K ∧ TT.mg = mg ∧ TT.w = w
  g_Game : mg "Game" = some (.ref C)
  cl : Cls K C
  na_held : NoAttr K C "held"
  nt : PySem.W.notFirst K C (.type "tuple") = true
  ins : InsTxt K C
  mks : PySem.W.makesIn K C = true
  kC : PySem.W.keepIn K (.ref C) = true
  p_boxes : PropAt K C "boxes" "Game.boxes" s_g_boxes
  p_take : PropAt K C "take" "Game.take" s_g_take
  p_strike : PropAt K C "strike" "Game.strike" s_g_strike
  m_init : MethAt K C "__init__" "Game.__init__" s_g_init ["self", "boxes", "take", "strike"]
  m_eq : MethAt K C "__eq__" "Game.__eq__" s_g_eq ["self", "other"]
  g_Match : mg "Match" = some (.ref CM)
  clM : Cls K CM
  nm_game : NoAttr K CM "game"
  nm_stands : NoAttr K CM "stands"
  nm_made : NoAttr K CM "made"
  mksM : PySem.W.makesIn K CM = true
  kM : PySem.W.keepIn K (.ref CM) = true
  mM_init : MethAt K CM "__init__" "Match.__init__" s_Match_init ["self", "game", "first"]
  mM_check_turn : MethAt K CM "check_turn" "Match.check_turn" s_Match_check_turn ["self", "player"]
  mM_go : MethAt K CM "go" "Match.go" s_Match_go ["self", "move"]
  mM_takes : MethAt K CM "takes" "Match.takes" s_Match_takes ["self", "amounts"]
  mM_strikes : MethAt K CM "strikes" "Match.strikes" s_Match_strikes ["self", "struck"]
  b_sorted : mg "sorted" = none
  b_tuple : mg "tuple" = none
  b_max : mg "max" = none
  b_enumerate : mg "enumerate" = none
  b_len : mg "len" = none
  b_zip : mg "zip" = none
  b_int : mg "int" = none
  b_isinstance : mg "isinstance" = none
  b_list : mg "list" = none
  b_sum : mg "sum" = none
  b_bool : mg "bool" = none
  b_str : mg "str" = none
  b_range : mg "range" = none
  b_min : mg "min" = none
  b_ValueError : mg "ValueError" = none
  c_MOST_BOXES : ∃ t, mg "MOST_BOXES" = some (.int 8 t)
  c_MOST_SIZE : ∃ t, mg "MOST_SIZE" = some (.int 1000000000000000000000000000000 t)
  c_MOST_STRIKE : ∃ t, mg "MOST_STRIKE" = some (.int 3 t)
  c_MOST_TURNS : ∃ t, mg "MOST_TURNS" = some (.int 100 t)
  c_MOST_TAKINGS : ∃ t, mg "MOST_TAKINGS" = some (.int 3000 t)
  c_MOST_MOVES : ∃ t, mg "MOST_MOVES" = some (.int 16 t)
  c_MOST_MANY : ∃ t, mg "MOST_MANY" = some (.int 100 t)
  c_MOST_FIGURES : ∃ t, mg "MOST_FIGURES" = some (.int 31 t)
  k_OTHER : DctAt K w mg "OTHER" [("taker", "striker"), ("striker", "taker")]
  e_BoxError : ∃ A, ExcTxt K mg "BoxError" A
  e_BadBoxes : ∃ A, ExcTxt K mg "BadBoxes" A
  e_BadTake : ∃ A, ExcTxt K mg "BadTake" A
  e_BadStrike : ∃ A, ExcTxt K mg "BadStrike" A
  e_BadGame : ∃ A, ExcTxt K mg "BadGame" A
  e_BadFirst : ∃ A, ExcTxt K mg "BadFirst" A
  e_BadTurns : ∃ A, ExcTxt K mg "BadTurns" A
  e_TooLarge : ∃ A, ExcTxt K mg "TooLarge" A
  e_BadMany : ∃ A, ExcTxt K mg "BadMany" A
  a_BadMoves : ExaTxt K mg "BadMoves" "BadMoves.__init__" s_e_BadMoves ["self", "index"] ["index"]
  e_NotTurn : ∃ A, ExcTxt K mg "NotTurn" A
  e_BadTaking : ∃ A, ExcTxt K mg "BadTaking" A
  e_BadStriking : ∃ A, ExcTxt K mg "BadStriking" A
  a_InvalidText : ExaTxt K mg "InvalidText" "InvalidText.__init__" s_e_InvalidText ["self", "line", "word"] ["line", "word"]
  h_BadBoxes : ∃ A, mg "BadBoxes" = some (.ref A)
  h_BadFirst : ∃ A, mg "BadFirst" = some (.ref A)
  h_BadGame : ∃ A, mg "BadGame" = some (.ref A)
  h_BadMany : ∃ A, mg "BadMany" = some (.ref A)
  h_BadMoves : ∃ A, mg "BadMoves" = some (.ref A)
  h_BadStrike : ∃ A, mg "BadStrike" = some (.ref A)
  h_BadStriking : ∃ A, mg "BadStriking" = some (.ref A)
  h_BadTake : ∃ A, mg "BadTake" = some (.ref A)
  h_BadTaking : ∃ A, mg "BadTaking" = some (.ref A)
  h_BadTurns : ∃ A, mg "BadTurns" = some (.ref A)
  h_BoxError : ∃ A, mg "BoxError" = some (.ref A)
  h_InvalidText : ∃ A, mg "InvalidText" = some (.ref A)
  h_NotTurn : ∃ A, mg "NotTurn" = some (.ref A)
  h_TooLarge : ∃ A, mg "TooLarge" = some (.ref A)
  x_BadBoxes_BoxError : SubAt K mg "BadBoxes" "BoxError" true
  x_BadFirst_BoxError : SubAt K mg "BadFirst" "BoxError" true
  x_BadGame_BoxError : SubAt K mg "BadGame" "BoxError" true
  x_BadMany_BoxError : SubAt K mg "BadMany" "BoxError" true
  x_BadMoves_BadMoves : SubAt K mg "BadMoves" "BadMoves" true
  x_BadMoves_BoxError : SubAt K mg "BadMoves" "BoxError" true
  x_BadStrike_BoxError : SubAt K mg "BadStrike" "BoxError" true
  x_BadStriking_BoxError : SubAt K mg "BadStriking" "BoxError" true
  x_BadTake_BoxError : SubAt K mg "BadTake" "BoxError" true
  x_BadTaking_BoxError : SubAt K mg "BadTaking" "BoxError" true
  x_BadTurns_BoxError : SubAt K mg "BadTurns" "BoxError" true
  x_InvalidText_BoxError : SubAt K mg "InvalidText" "BoxError" true
  x_InvalidText_InvalidText : SubAt K mg "InvalidText" "InvalidText" true
  x_NotTurn_BoxError : SubAt K mg "NotTurn" "BoxError" true
  x_TooLarge_BoxError : SubAt K mg "TooLarge" "BoxError" true
  xa_BadBoxes : ExcAt K mg "BadBoxes"
  xa_BadTake : ExcAt K mg "BadTake"
  xa_BadStrike : ExcAt K mg "BadStrike"
  xa_BadGame : ExcAt K mg "BadGame"
  xa_BadFirst : ExcAt K mg "BadFirst"
  xa_BadTurns : ExcAt K mg "BadTurns"
  xa_TooLarge : ExcAt K mg "TooLarge"
  xa_BadMany : ExcAt K mg "BadMany"
  xa_BadMoves : ExcAt K mg "BadMoves"
  xa_NotTurn : ExcAt K mg "NotTurn"
  xa_BadTaking : ExcAt K mg "BadTaking"
  xa_BadStriking : ExcAt K mg "BadStriking"
  xa_InvalidText : ExcAt K mg "InvalidText"
  pr_BadBoxes : PairAt K mg "BadBoxes" "BadBoxes" true ∧ PairAt K mg "BadTake" "BadBoxes" false ∧ PairAt K mg "BadStrike" "BadBoxes" false ∧ PairAt K mg "BadGame" "BadBoxes" false ∧ PairAt K mg "BadFirst" "BadBoxes" false ∧ PairAt K mg "BadTurns" "BadBoxes" false ∧ PairAt K mg "TooLarge" "BadBoxes" false ∧ PairAt K mg "BadMany" "BadBoxes" false ∧ PairAt K mg "BadMoves" "BadBoxes" false ∧ PairAt K mg "NotTurn" "BadBoxes" false ∧ PairAt K mg "BadTaking" "BadBoxes" false ∧ PairAt K mg "BadStriking" "BadBoxes" false ∧ PairAt K mg "InvalidText" "BadBoxes" false
  pr_BadFirst : PairAt K mg "BadBoxes" "BadFirst" false ∧ PairAt K mg "BadTake" "BadFirst" false ∧ PairAt K mg "BadStrike" "BadFirst" false ∧ PairAt K mg "BadGame" "BadFirst" false ∧ PairAt K mg "BadFirst" "BadFirst" true ∧ PairAt K mg "BadTurns" "BadFirst" false ∧ PairAt K mg "TooLarge" "BadFirst" false ∧ PairAt K mg "BadMany" "BadFirst" false ∧ PairAt K mg "BadMoves" "BadFirst" false ∧ PairAt K mg "NotTurn" "BadFirst" false ∧ PairAt K mg "BadTaking" "BadFirst" false ∧ PairAt K mg "BadStriking" "BadFirst" false ∧ PairAt K mg "InvalidText" "BadFirst" false
  pr_BadGame : PairAt K mg "BadBoxes" "BadGame" false ∧ PairAt K mg "BadTake" "BadGame" false ∧ PairAt K mg "BadStrike" "BadGame" false ∧ PairAt K mg "BadGame" "BadGame" true ∧ PairAt K mg "BadFirst" "BadGame" false ∧ PairAt K mg "BadTurns" "BadGame" false ∧ PairAt K mg "TooLarge" "BadGame" false ∧ PairAt K mg "BadMany" "BadGame" false ∧ PairAt K mg "BadMoves" "BadGame" false ∧ PairAt K mg "NotTurn" "BadGame" false ∧ PairAt K mg "BadTaking" "BadGame" false ∧ PairAt K mg "BadStriking" "BadGame" false ∧ PairAt K mg "InvalidText" "BadGame" false
  pr_BadMany : PairAt K mg "BadBoxes" "BadMany" false ∧ PairAt K mg "BadTake" "BadMany" false ∧ PairAt K mg "BadStrike" "BadMany" false ∧ PairAt K mg "BadGame" "BadMany" false ∧ PairAt K mg "BadFirst" "BadMany" false ∧ PairAt K mg "BadTurns" "BadMany" false ∧ PairAt K mg "TooLarge" "BadMany" false ∧ PairAt K mg "BadMany" "BadMany" true ∧ PairAt K mg "BadMoves" "BadMany" false ∧ PairAt K mg "NotTurn" "BadMany" false ∧ PairAt K mg "BadTaking" "BadMany" false ∧ PairAt K mg "BadStriking" "BadMany" false ∧ PairAt K mg "InvalidText" "BadMany" false
  pr_BadMoves : PairAt K mg "BadBoxes" "BadMoves" false ∧ PairAt K mg "BadTake" "BadMoves" false ∧ PairAt K mg "BadStrike" "BadMoves" false ∧ PairAt K mg "BadGame" "BadMoves" false ∧ PairAt K mg "BadFirst" "BadMoves" false ∧ PairAt K mg "BadTurns" "BadMoves" false ∧ PairAt K mg "TooLarge" "BadMoves" false ∧ PairAt K mg "BadMany" "BadMoves" false ∧ PairAt K mg "BadMoves" "BadMoves" true ∧ PairAt K mg "NotTurn" "BadMoves" false ∧ PairAt K mg "BadTaking" "BadMoves" false ∧ PairAt K mg "BadStriking" "BadMoves" false ∧ PairAt K mg "InvalidText" "BadMoves" false
  pr_BadStrike : PairAt K mg "BadBoxes" "BadStrike" false ∧ PairAt K mg "BadTake" "BadStrike" false ∧ PairAt K mg "BadStrike" "BadStrike" true ∧ PairAt K mg "BadGame" "BadStrike" false ∧ PairAt K mg "BadFirst" "BadStrike" false ∧ PairAt K mg "BadTurns" "BadStrike" false ∧ PairAt K mg "TooLarge" "BadStrike" false ∧ PairAt K mg "BadMany" "BadStrike" false ∧ PairAt K mg "BadMoves" "BadStrike" false ∧ PairAt K mg "NotTurn" "BadStrike" false ∧ PairAt K mg "BadTaking" "BadStrike" false ∧ PairAt K mg "BadStriking" "BadStrike" false ∧ PairAt K mg "InvalidText" "BadStrike" false
  pr_BadStriking : PairAt K mg "BadBoxes" "BadStriking" false ∧ PairAt K mg "BadTake" "BadStriking" false ∧ PairAt K mg "BadStrike" "BadStriking" false ∧ PairAt K mg "BadGame" "BadStriking" false ∧ PairAt K mg "BadFirst" "BadStriking" false ∧ PairAt K mg "BadTurns" "BadStriking" false ∧ PairAt K mg "TooLarge" "BadStriking" false ∧ PairAt K mg "BadMany" "BadStriking" false ∧ PairAt K mg "BadMoves" "BadStriking" false ∧ PairAt K mg "NotTurn" "BadStriking" false ∧ PairAt K mg "BadTaking" "BadStriking" false ∧ PairAt K mg "BadStriking" "BadStriking" true ∧ PairAt K mg "InvalidText" "BadStriking" false
  pr_BadTake : PairAt K mg "BadBoxes" "BadTake" false ∧ PairAt K mg "BadTake" "BadTake" true ∧ PairAt K mg "BadStrike" "BadTake" false ∧ PairAt K mg "BadGame" "BadTake" false ∧ PairAt K mg "BadFirst" "BadTake" false ∧ PairAt K mg "BadTurns" "BadTake" false ∧ PairAt K mg "TooLarge" "BadTake" false ∧ PairAt K mg "BadMany" "BadTake" false ∧ PairAt K mg "BadMoves" "BadTake" false ∧ PairAt K mg "NotTurn" "BadTake" false ∧ PairAt K mg "BadTaking" "BadTake" false ∧ PairAt K mg "BadStriking" "BadTake" false ∧ PairAt K mg "InvalidText" "BadTake" false
  pr_BadTaking : PairAt K mg "BadBoxes" "BadTaking" false ∧ PairAt K mg "BadTake" "BadTaking" false ∧ PairAt K mg "BadStrike" "BadTaking" false ∧ PairAt K mg "BadGame" "BadTaking" false ∧ PairAt K mg "BadFirst" "BadTaking" false ∧ PairAt K mg "BadTurns" "BadTaking" false ∧ PairAt K mg "TooLarge" "BadTaking" false ∧ PairAt K mg "BadMany" "BadTaking" false ∧ PairAt K mg "BadMoves" "BadTaking" false ∧ PairAt K mg "NotTurn" "BadTaking" false ∧ PairAt K mg "BadTaking" "BadTaking" true ∧ PairAt K mg "BadStriking" "BadTaking" false ∧ PairAt K mg "InvalidText" "BadTaking" false
  pr_BadTurns : PairAt K mg "BadBoxes" "BadTurns" false ∧ PairAt K mg "BadTake" "BadTurns" false ∧ PairAt K mg "BadStrike" "BadTurns" false ∧ PairAt K mg "BadGame" "BadTurns" false ∧ PairAt K mg "BadFirst" "BadTurns" false ∧ PairAt K mg "BadTurns" "BadTurns" true ∧ PairAt K mg "TooLarge" "BadTurns" false ∧ PairAt K mg "BadMany" "BadTurns" false ∧ PairAt K mg "BadMoves" "BadTurns" false ∧ PairAt K mg "NotTurn" "BadTurns" false ∧ PairAt K mg "BadTaking" "BadTurns" false ∧ PairAt K mg "BadStriking" "BadTurns" false ∧ PairAt K mg "InvalidText" "BadTurns" false
  pr_InvalidText : PairAt K mg "BadBoxes" "InvalidText" false ∧ PairAt K mg "BadTake" "InvalidText" false ∧ PairAt K mg "BadStrike" "InvalidText" false ∧ PairAt K mg "BadGame" "InvalidText" false ∧ PairAt K mg "BadFirst" "InvalidText" false ∧ PairAt K mg "BadTurns" "InvalidText" false ∧ PairAt K mg "TooLarge" "InvalidText" false ∧ PairAt K mg "BadMany" "InvalidText" false ∧ PairAt K mg "BadMoves" "InvalidText" false ∧ PairAt K mg "NotTurn" "InvalidText" false ∧ PairAt K mg "BadTaking" "InvalidText" false ∧ PairAt K mg "BadStriking" "InvalidText" false ∧ PairAt K mg "InvalidText" "InvalidText" true
  pr_NotTurn : PairAt K mg "BadBoxes" "NotTurn" false ∧ PairAt K mg "BadTake" "NotTurn" false ∧ PairAt K mg "BadStrike" "NotTurn" false ∧ PairAt K mg "BadGame" "NotTurn" false ∧ PairAt K mg "BadFirst" "NotTurn" false ∧ PairAt K mg "BadTurns" "NotTurn" false ∧ PairAt K mg "TooLarge" "NotTurn" false ∧ PairAt K mg "BadMany" "NotTurn" false ∧ PairAt K mg "BadMoves" "NotTurn" false ∧ PairAt K mg "NotTurn" "NotTurn" true ∧ PairAt K mg "BadTaking" "NotTurn" false ∧ PairAt K mg "BadStriking" "NotTurn" false ∧ PairAt K mg "InvalidText" "NotTurn" false
  pr_TooLarge : PairAt K mg "BadBoxes" "TooLarge" false ∧ PairAt K mg "BadTake" "TooLarge" false ∧ PairAt K mg "BadStrike" "TooLarge" false ∧ PairAt K mg "BadGame" "TooLarge" false ∧ PairAt K mg "BadFirst" "TooLarge" false ∧ PairAt K mg "BadTurns" "TooLarge" false ∧ PairAt K mg "TooLarge" "TooLarge" true ∧ PairAt K mg "BadMany" "TooLarge" false ∧ PairAt K mg "BadMoves" "TooLarge" false ∧ PairAt K mg "NotTurn" "TooLarge" false ∧ PairAt K mg "BadTaking" "TooLarge" false ∧ PairAt K mg "BadStriking" "TooLarge" false ∧ PairAt K mg "InvalidText" "TooLarge" false
  pv_ValueError : PairVe K mg "BadBoxes" true ∧ PairVe K mg "BadTake" true ∧ PairVe K mg "BadStrike" true ∧ PairVe K mg "BadGame" true ∧ PairVe K mg "BadFirst" true ∧ PairVe K mg "BadTurns" true ∧ PairVe K mg "TooLarge" true ∧ PairVe K mg "BadMany" true ∧ PairVe K mg "BadMoves" true ∧ PairVe K mg "NotTurn" true ∧ PairVe K mg "BadTaking" true ∧ PairVe K mg "BadStriking" true ∧ PairVe K mg "InvalidText" true
  d_wall : DefAt K mg "_wall" s_wall ["k"]
  d_is_integer : DefAt K mg "is_integer" s_is_integer ["value"]
  d_is_from : DefAt K mg "is_from" s_is_from ["value", "low", "high"]
  d_check_boxes : DefAt K mg "check_boxes" s_check_boxes ["value"]
  d_check_take : DefAt K mg "check_take" s_check_take ["value"]
  d_check_strike : DefAt K mg "check_strike" s_check_strike ["value"]
  d_check_game : DefAt K mg "check_game" s_check_game ["value"]
  d_check_first : DefAt K mg "check_first" s_check_first ["value"]
  d_bounds_of : DefAt K mg "bounds_of" s_bounds_of ["many", "take", "strike"]
  d_tops_of : DefAt K mg "tops_of" s_tops_of ["sizes"]
  d_sums_of : DefAt K mg "sums_of" s_sums_of ["sizes", "take", "strike"]
  d_over : DefAt K mg "over" s_over ["tops", "bounds"]
  d_turns_of : DefAt K mg "turns_of" s_turns_of ["sizes", "take", "strike"]
  d_left_for : DefAt K mg "left_for" s_left_for ["sizes", "strike", "first"]
  d_turns_by : DefAt K mg "turns_by" s_turns_by ["sizes", "take", "strike", "first"]
  d_winner_by : DefAt K mg "winner_by" s_winner_by ["sizes", "take", "strike", "first"]
  d_check_asked : DefAt K mg "check_asked" s_check_asked ["game", "first"]
  d_winner : DefAt K mg "winner" s_winner ["game", "first"]
  d_in_turns : DefAt K mg "in_turns" s_in_turns ["game", "first", "turns"]
  d_open_boxes : DefAt K mg "open_boxes" s_open_boxes ["left"]
  d_sizes_of : DefAt K mg "sizes_of" s_sizes_of ["left"]
  d_without : DefAt K mg "without" s_without ["left", "struck"]
  d_all_takings : DefAt K mg "all_takings" s_all_takings ["sizes", "take"]
  d_is_winning : DefAt K mg "is_winning" s_is_winning ["sizes", "amounts", "take", "strike"]
  d_many_takings : DefAt K mg "many_takings" s_many_takings ["game"]
  d_is_taking : DefAt K mg "is_taking" s_is_taking ["left", "take", "value"]
  d_is_striking : DefAt K mg "is_striking" s_is_striking ["left", "strike", "value"]
  d_is_move : DefAt K mg "is_move" s_is_move ["left", "game", "turn", "value"]
  d_behind : DefAt K mg "behind" s_behind ["left", "move"]
  d_has_won : DefAt K mg "has_won" s_has_won ["left"]
  d_turn_behind : DefAt K mg "turn_behind" s_turn_behind ["left", "turn"]
  d_winner_now : DefAt K mg "winner_now" s_winner_now ["left", "game", "turn"]
  d_judge : DefAt K mg "judge" s_judge ["game", "first", "moves"]
  d_greatest_equal : DefAt K mg "greatest_equal" s_greatest_equal ["many", "take", "strike", "first"]
  d_number_at : DefAt K mg "number_at" s_number_at ["words", "line", "place", "most"]
  d_words_at : DefAt K mg "words_at" s_words_at ["rows", "line", "name"]
  d_read_one : DefAt K mg "read_one" s_read_one ["rows", "line", "name", "most"]
  d_read_game : DefAt K mg "read_game" s_read_game ["text"]
  d_law_mix : DefAt K mg "_law_mix" s_law_mix ["_law_script", "_law_seed"]
  d_law_next : DefAt K mg "_law_next" s_law_next ["_law_h", "_law_bound"]
  d_law_which : DefAt K mg "_law_which" s_law_which ["_law_e"]
  d_law_early : DefAt K mg "_law_early" s_law_early ["_law_kind", "_law_n", "_law_game"]
  d_law_do : DefAt K mg "_law_do" s_law_do ["_law_kind", "_law_n", "_law_game"]
  d_law : DefAt K mg "law" s_law ["_law_script"]
section
variable {P : Program} {w : World} {K : PySem.W.Frag} {mg : Str → Option Value} {base : Heap} {TT : Tx} {C CM : Addr}
theorem sc_e_BadMoves : FnScope ["self", "index"] ["self", "index"] (defScope s_e_BadMoves) := ⟨rfl, rfl, rfl, by decide +kernel, rfl, by decide +kernel, by decide +kernel⟩
theorem exa_BadMoves (T : Txt w K mg base TT C CM) : ExaOk P w K mg base "BadMoves" ["index"] := by
  obtain ⟨C0, g, o, ⟨fa, fd, a, i, f, b⟩, no, _⟩ := T.a_BadMoves
  exact ⟨C0, fa, fd, _, g, o, a, i, ok_E1 f sc_e_BadMoves (fun _ _ _ _ _ _ => (pss_one (ps_ost (pv 0) (pv 1)))), b, no⟩
theorem sc_e_InvalidText : FnScope ["self", "line", "word"] ["self", "line", "word"] (defScope s_e_InvalidText) := ⟨rfl, rfl, rfl, by decide +kernel, rfl, by decide +kernel, by decide +kernel⟩
theorem exa_InvalidText (T : Txt w K mg base TT C CM) : ExaOk P w K mg base "InvalidText" ["line", "word"] := by
  obtain ⟨C0, g, o, ⟨fa, fd, a, i, f, b⟩, no, _⟩ := T.a_InvalidText
  exact ⟨C0, fa, fd, _, g, o, a, i, ok_E2 f sc_e_InvalidText (fun _ _ _ _ _ _ => (pss_cons (ps_ost (pv 0) (pv 1)) (pss_one (ps_ost (pv 0) (pv 2))))), b, no⟩
abbrev N_wall : List Str := ["k"]
theorem sc_wall : FnScope ["k"] ["k"] (defScope s_wall) := ⟨rfl, rfl, rfl, by decide +kernel, rfl, by decide +kernel, by decide +kernel⟩
theorem cal_wall (T : Txt w K mg base TT C CM) : Callee P w K mg base TT 1 "_wall" 1 F_wall := by
  exact T.d_wall.cal sc_wall rfl fun f cdv A outer s H E W hr => (dss_one (ds_while 1000 (passes_of rfl) (dt_tru de_bl) (dss_one ds_pass)))
abbrev N_is_integer : List Str := ["value"]
theorem sc_law_next : FnScope ["_law_h", "_law_bound", "_law_cell", "_law_cells"] ["_law_h", "_law_bound"] (defScope s_law_next) := ⟨rfl, rfl, rfl, by decide +kernel, rfl, by decide +kernel, by decide +kernel⟩
theorem cal_law_next (T : Txt w K mg base TT C CM) : Callee P w K mg base TT 1 "_law_next" 2 F_next := by
  obtain ⟨fa, fd, hm, hF, hb⟩ := T.d_law_next
  refine ⟨fa, fd, ["_law_h", "_law_bound"], hm, hF.okXN sc_law_next (fun vs H Q E h => ?_) (fun cdv A outer s H vs Q E hr h => ?_), hF.kp, hb⟩
  · obtain ⟨ds, W, h1, _⟩ := h
    exact h1
  · obtain ⟨ds, W, h1, ⟨ok, hT⟩, hr2, q⟩ := h
    obtain ⟨l, b, a, c, s0, i, cs, _, rfl, rfl, hS, hμ, hMa, hMc, hac, ha, hc, hb1, hb2, hcs, q⟩ := next_pre ok hr2 q
    have nd := sc_law_next.nd
    refine ⟨_, PSs.nox (pss_cons (ps_set (i := 2) nd rfl (.inl rfl) (pe_ix ix_list (pe_op op_cat (pe_ix ix_list (pv 0) pe_int (fun _ _ => rfl)) (pe_lst (pa_cons pe_int pa_nil)))
        (pe_op op_mod (pe_callTy call_int1 (by rfl) T.b_int (by decide +kernel) (pa_cons (pe_ix ix_list (pv 0) pe_int (fun _ _ => rfl)) pa_nil))
          (pe_callB (call_max2 rfl) (by rfl) T.b_max (by decide +kernel) (pa_cons pe_int (pa_cons (pe_callB call_len_seq (by rfl) T.b_len PySem.boot_len (pa_cons (pe_ix ix_list (pv 0) pe_int (fun _ _ => rfl)) pa_nil)) pa_nil)))) (fun _ _ => rfl)))
      (pss_cons (ps_if (pt_cmpR op_ge (pv 2) (pe_op op_pow pe_int pe_int) (nomark _))
        (pss_cons (ps_set (i := 3) nd rfl (.inl rfl) (pe_ix ix_list (pv 0) pe_int (fun _ _ => rfl)))
        (pss_cons (ps_asg (pe_op op_fdivW (pv 2) (pv 1)) (pg_sub (pv 3) (pe_op op_mod (pe_callTy call_int1 (by rfl) T.b_int (by decide +kernel) (pa_cons (pe_ix ix_list (pv 0) pe_int (fun _ _ => rfl)) pa_nil)) (pe_callB call_len_seq (by rfl) T.b_len PySem.boot_len (pa_cons (pv 3) pa_nil))) set_list))
        (pss_one (ps_ret (pe_op op_mod (pe_callTy call_int1 (by rfl) T.b_int (by decide +kernel) (pa_cons (pv 2) pa_nil)) (pv 1))))))
        pss_nil)
      (pss_cons (ps_asg (pe_op op_mod (pe_callTy call_int1 (by rfl) T.b_int (by decide +kernel) (pa_cons (pe_op op_add (pe_op op_add (pe_op op_mul (pe_ix ix_list (pv 0) pe_int (fun _ _ => rfl)) pe_int) (pe_op op_mul (pv 2) pe_int)) pe_int) pa_nil)) pe_int) (pg_sub (pv 0) pe_int set_list))
      (pss_cons (ps_asg (pe_op op_add (pe_ix ix_list (pv 0) pe_int (fun _ _ => rfl)) pe_int) (pg_sub (pv 0) pe_int set_list))
      (pss_one (ps_ret (pe_op op_mod (pe_callTy call_int1 (by rfl) T.b_int (by decide +kernel) (pa_cons (pe_op op_fdiv (pe_ix ix_list (pv 0) pe_int (fun _ _ => rfl)) pe_int) pa_nil)) (pv 1)))))))), ?_⟩
    -- cell
    refine ⟨_, rfl, a, _, 1, .ref c, rfl, rfl, SqL.of ha, rfl, by show 1 ≤ sizeLine; decide, fun p1 hp1 => ?_⟩
    have k1 : Same H (upd H p1 (.lst [.int 0])) := same_new hp1
    refine ⟨c, p1, cs.map V.int, [.int 0], rfl, rfl, k1 _ _ hc, upd_same, ?_, fun p2 hp2 => ?_⟩
    · rw [List.length_map]
      exact lim_le (by show cs.length + 1 ≤ 1000000; omega)
    have k2 := k1.trans (same_new (o := .lst (cs.map V.int ++ [.int 0])) hp2)
    refine ⟨_, rfl, a, _, 2, .int i, rfl, rfl, SqL.of (k2 _ _ ha), rfl, .inl ⟨i, rfl, ?_⟩⟩
    refine ⟨_, rfl, a, _, 1, .ref c, rfl, rfl, SqL.of (k2 _ _ ha), rfl, c, _, rfl, .inl (SqL.of (k2 _ _ hc)), _, _, rfl, ?_⟩
    rw [List.length_map]
    refine ⟨_, _, rfl, rfl, by split <;> omega, ?_⟩
    refine ⟨p2, _, _, .int (cellAt cs i), rfl, rfl, SqL.of upd_same, cell_at, ?_⟩
    -- if cell >= 10 ** 18
    refine ⟨_, rfl, _, _, rfl, rfl, ⟨by decide, by decide, by decide⟩, _, _, rfl, rfl, _, rfl, ?_⟩
    refine ite2 (fun hbig => ?_) (fun hbig => ?_)
    · have hbig : (10 : Int) ^ 18 ≤ cellAt cs i := of_decide_eq_true hbig
      have hpos : 0 < cs.length := cell_pos hbig
      refine ⟨_, rfl, a, _, 1, .ref c, rfl, rfl, SqL.of (k2 _ _ ha), rfl, ?_⟩
      refine ⟨_, rfl, _, rfl, _, _, rfl, rfl, wide_div (b := 256) hb1 (by omega) (by decide) (by decide), ?_⟩
      refine ⟨_, rfl, _, rfl, a, _, 2, .int i, rfl, rfl, SqL.of (k2 _ _ ha), rfl, .inl ⟨i, rfl, _, rfl, c, _, rfl, .inl (SqL.of (k2 _ _ hc)), ?_⟩⟩
      rw [List.length_map]
      refine ⟨_, _, rfl, rfl, by omega, c, cs.map V.int, _, (i % (cs.length : Int)).toNat, rfl, rfl, k2 _ _ hc, (by rw [List.length_map]; exact ix_mod hpos), ?_⟩
      refine ⟨_, rfl, .inl ⟨_, rfl, _, rfl, _, _, rfl, rfl, hb1, ?_⟩⟩
      have ec : (cs.map V.int).set (i % (cs.length : Int)).toNat (.int (cellAt cs i / b)) = (cs.set (i % (cs.length : Int)).toNat (cellAt cs i / b)).map V.int := by rw [List.map_set]
      obtain ⟨ok', g'⟩ := src_set (H' := upd (upd (upd H p1 (.lst [.int 0])) p2 (.lst (cs.map V.int ++ [.int 0]))) c (.lst ((cs.map V.int).set (i % (cs.length : Int)).toNat (.int (cellAt cs i / b))))) (s' := s0) (i' := i) (cs' := cs.set (i % (cs.length : Int)).toNat (cellAt cs i / b)) ok hS hμ hMa hMc hac (fun z h1 h2 o ho => by rw [upd_ne h2]; exact k2 _ _ ho) (by rw [upd_ne hac]; exact k2 _ _ ha) (by rw [upd_same, ec])
      have en : nextV s0 cs i b = ⟨cellAt cs i % b, s0, cs.set (i % (cs.length : Int)).toNat (cellAt cs i / b), i⟩ := if_pos hbig
      rw [en] at q
      exact q (.int _) _ _ rfl g' ok' (.int _)
    · have hbig : ¬ (10 : Int) ^ 18 ≤ cellAt cs i := fun z => hbig (decide_eq_true z)
      refine ⟨_, rfl, a, _, 0, .int s0, rfl, rfl, SqL.of (k2 _ _ ha), rfl, _, _, rfl, rfl, .inr ⟨by decide, by decide⟩, ?_⟩
      refine ⟨_, rfl, _, _, rfl, rfl, .inr ⟨by decide, by decide⟩, _, _, rfl, rfl, _, _, rfl, rfl, .inl ⟨_, rfl, _, _, rfl, rfl, (show (0:Int) < 2147483647 by decide), ?_⟩⟩
      have hp1' : a ≠ p1 := ne_of_none ha hp1
      refine ⟨_, rfl, a, _, 0, 0, rfl, rfl, k2 _ _ ha, rfl, ?_⟩
      refine ⟨_, rfl, a, _, 2, .int i, rfl, rfl, SqL.of upd_same, rfl, _, _, rfl, rfl, ?_⟩
      refine ⟨_, rfl, a, _, 2, 2, rfl, rfl, upd_same, rfl, ?_⟩
      refine ⟨_, rfl, a, _, 0, _, rfl, rfl, SqL.of upd_same, rfl, _, _, rfl, rfl, ⟨by decide, by decide⟩, .inl ⟨_, rfl, _, rfl, _, _, rfl, rfl, hb1, ?_⟩⟩
      rw [upd_upd]
      have en : nextV s0 cs i b = ⟨((s0 * 48271 + cellAt cs i * 69621 + 11) % 2147483647 / 7) % b, (s0 * 48271 + cellAt cs i * 69621 + 11) % 2147483647, cs, i + 1⟩ := if_neg hbig
      rw [en] at q
      obtain ⟨ok', g'⟩ := src_set (H' := upd (upd (upd H p1 (.lst [.int 0])) p2 (.lst (cs.map V.int ++ [.int 0]))) a (.lst [.int ((s0 * 48271 + cellAt cs i * 69621 + 11) % 2147483647), .ref c, .int (i + 1)])) (s' := (s0 * 48271 + cellAt cs i * 69621 + 11) % 2147483647) (i' := i + 1) (cs' := cs) ok hS hμ hMa hMc hac (fun z h1 h2 o ho => by rw [upd_ne h1]; exact k2 _ _ ho) upd_same (by rw [upd_ne (Ne.symm hac)]; exact k2 _ _ hc)
      exact q (.int _) _ _ rfl g' ok' (.int _)

theorem sc_is_integer : FnScope ["value"] ["value"] (defScope s_is_integer) := ⟨rfl, rfl, rfl, by decide +kernel, rfl, by decide +kernel, by decide +kernel⟩
theorem cal_is_integer (T : Txt w K mg base TT C CM) : Callee P w K mg base TT 1 "is_integer" 1 F_is_integer := by
  exact T.d_is_integer.cal sc_is_integer rfl fun f cdv A outer s H E W hr => (dss_one (ds_ret (de_and (de_isi .i rfl T.b_isinstance (de_var (pv 0)) (pe_bltn (v := .ty "int") rfl T.b_int (by decide +kernel) rfl)) (de_one (de_not (de_isi .b rfl T.b_isinstance (de_var (pv 0)) (pe_bltn (v := .ty "bool") rfl T.b_bool (by decide +kernel) rfl)))))))
abbrev N_is_from : List Str := ["value", "low", "high"]
theorem sc_is_from : FnScope ["value", "low", "high"] ["value", "low", "high"] (defScope s_is_from) := ⟨rfl, rfl, rfl, by decide +kernel, rfl, by decide +kernel, by decide +kernel⟩
theorem cal_is_from (T : Txt w K mg base TT C CM) : Callee P w K mg base TT 2 "is_from" 3 F_is_from := by
  exact T.d_is_from.cal sc_is_from rfl fun f cdv A outer s H E W hr => (dss_one (ds_ret (de_and (de_call (cal_is_integer T) (hr.mono (by decide)) rfl (L2N.takes_of rfl rfl rfl rfl) (da_cons (de_var (pv 0)) da_nil) rfl (len_cons len_nil)) (de_one (de_chain op_le op_le opd_cmp opd_cmp (de_var (pv 1)) (de_var (pv 0)) (de_var (pv 2)))))))
abbrev N_check_boxes : List Str := ["value", "size"]
theorem sc_check_boxes : FnScope ["value", "size"] ["value"] (defScope s_check_boxes) := ⟨rfl, rfl, rfl, by decide +kernel, rfl, by decide +kernel, by decide +kernel⟩
theorem cal_check_boxes (T : Txt w K mg base TT C CM) : Callee P w K mg base TT 3 "check_boxes" 1 F_check_boxes := by
  exact T.d_check_boxes.cal sc_check_boxes rfl fun f cdv A outer s H E W hr => (dss_cons (ds_if (PW.pt (dw_or (dt_not (dt_tru (de_isi .t rfl T.b_isinstance (de_var (pv 0)) (pe_bltn (v := .ty "tuple") rfl T.b_tuple (by decide +kernel) rfl)))) (dw_or1 (dt_not (dt_chain op_le op_le opd_cmp opd_cmp de_int (de_len rfl T.b_len (da_cons (de_var (pv 0)) da_nil)) (de_gint T.c_MOST_BOXES rfl)))))) (dss_one (ds_raise (T.e_BadBoxes).choose_spec rfl (L2N.takes_of rfl rfl rfl rfl) rfl)) dss_nil)
    (dss_one (ds_for (passes_of rfl) rfl (di_seq (de_var (pv 0))) (dg_name (pg_name (i := 1) sc_check_boxes.nd rfl (Or.inl rfl))) (dss_one (ds_if (dt_not (dt_tru (de_call (cal_is_from T) (hr.mono (by decide)) rfl (L2N.takes_of rfl rfl rfl rfl) (da_cons (de_var (pv 1)) (da_cons de_int (da_cons (de_gint T.c_MOST_SIZE rfl) da_nil))) rfl (len_cons (len_cons (len_cons len_nil)))))) (dss_one (ds_raise (T.e_BadBoxes).choose_spec rfl (L2N.takes_of rfl rfl rfl rfl) rfl)) dss_nil)))))
abbrev N_check_take : List Str := ["value"]
theorem sc_check_take : FnScope ["value"] ["value"] (defScope s_check_take) := ⟨rfl, rfl, rfl, by decide +kernel, rfl, by decide +kernel, by decide +kernel⟩
theorem cal_check_take (T : Txt w K mg base TT C CM) : Callee P w K mg base TT 3 "check_take" 1 F_check_take := by
  exact T.d_check_take.cal sc_check_take rfl fun f cdv A outer s H E W hr => (dss_one (ds_if (dt_not (dt_tru (de_call (cal_is_from T) (hr.mono (by decide)) rfl (L2N.takes_of rfl rfl rfl rfl) (da_cons (de_var (pv 0)) (da_cons de_int (da_cons (de_gint T.c_MOST_SIZE rfl) da_nil))) rfl (len_cons (len_cons (len_cons len_nil)))))) (dss_one (ds_raise (T.e_BadTake).choose_spec rfl (L2N.takes_of rfl rfl rfl rfl) rfl)) dss_nil))
abbrev N_check_strike : List Str := ["value"]
theorem sc_check_strike : FnScope ["value"] ["value"] (defScope s_check_strike) := ⟨rfl, rfl, rfl, by decide +kernel, rfl, by decide +kernel, by decide +kernel⟩
theorem cal_check_strike (T : Txt w K mg base TT C CM) : Callee P w K mg base TT 3 "check_strike" 1 F_check_strike := by
  exact T.d_check_strike.cal sc_check_strike rfl fun f cdv A outer s H E W hr => (dss_one (ds_if (dt_not (dt_tru (de_call (cal_is_from T) (hr.mono (by decide)) rfl (L2N.takes_of rfl rfl rfl rfl) (da_cons (de_var (pv 0)) (da_cons de_int (da_cons (de_gint T.c_MOST_STRIKE rfl) da_nil))) rfl (len_cons (len_cons (len_cons len_nil)))))) (dss_one (ds_raise (T.e_BadStrike).choose_spec rfl (L2N.takes_of rfl rfl rfl rfl) rfl)) dss_nil))
theorem sc_g_boxes : FnScope ["self"] ["self"] (defScope s_g_boxes) := ⟨rfl, rfl, rfl, by decide +kernel, rfl, by decide +kernel, by decide +kernel⟩
theorem get_boxes (T : Txt w K mg base TT C CM) : ∃ pr ga fd ps, PropOf K C "boxes" pr ga ∧ FnOk P w K mg base (L2N.CX P w) 1 ga fd ps (spD K mg TT 1 F_Game_boxes) ∧ Binds K fd ps [] := by
  obtain ⟨pr, ga, fd, h1, h2, h3⟩ := T.p_boxes
  exact ⟨pr, ga, fd, _, h1, okD h2 sc_g_boxes fun cdv A outer s H E W hr => (dss_one (ds_ret (de_ix (de_fld (de_var (pv 0)) T.g_Game T.cl T.na_held) de_int))), h3⟩
theorem sc_g_take : FnScope ["self"] ["self"] (defScope s_g_take) := ⟨rfl, rfl, rfl, by decide +kernel, rfl, by decide +kernel, by decide +kernel⟩
theorem get_take (T : Txt w K mg base TT C CM) : ∃ pr ga fd ps, PropOf K C "take" pr ga ∧ FnOk P w K mg base (L2N.CX P w) 1 ga fd ps (spD K mg TT 1 F_Game_take) ∧ Binds K fd ps [] := by
  obtain ⟨pr, ga, fd, h1, h2, h3⟩ := T.p_take
  exact ⟨pr, ga, fd, _, h1, okD h2 sc_g_take fun cdv A outer s H E W hr => (dss_one (ds_ret (de_ix (de_fld (de_var (pv 0)) T.g_Game T.cl T.na_held) de_int))), h3⟩
theorem sc_g_strike : FnScope ["self"] ["self"] (defScope s_g_strike) := ⟨rfl, rfl, rfl, by decide +kernel, rfl, by decide +kernel, by decide +kernel⟩
theorem get_strike (T : Txt w K mg base TT C CM) : ∃ pr ga fd ps, PropOf K C "strike" pr ga ∧ FnOk P w K mg base (L2N.CX P w) 1 ga fd ps (spD K mg TT 1 F_Game_strike) ∧ Binds K fd ps [] := by
  obtain ⟨pr, ga, fd, h1, h2, h3⟩ := T.p_strike
  exact ⟨pr, ga, fd, _, h1, okD h2 sc_g_strike fun cdv A outer s H E W hr => (dss_one (ds_ret (de_ix (de_fld (de_var (pv 0)) T.g_Game T.cl T.na_held) de_int))), h3⟩
theorem sc_g_init : FnScope ["self", "boxes", "take", "strike"] ["self", "boxes", "take", "strike"] (defScope s_g_init) := ⟨rfl, rfl, rfl, by decide +kernel, rfl, by decide +kernel, by decide +kernel⟩
theorem mk_Game (T : Txt w K mg base TT C CM) : ∃ fa fd ps, Mk K C fa ∧ FnOk P w K mg base (L2N.CX P w) 4 fa fd ps (spI K mg TT C 3 F_Game_init) ∧ Binds K fd ps [] := by
  obtain ⟨fa, fd, h1, h2, h3, h4⟩ := T.m_init
  exact ⟨fa, fd, _, ⟨T.mks, h1, h2, T.kC⟩, okI h3 sc_g_init rfl (by decide) T.g_Game fun cdv A outer s H H1 E W self hr => (dss_cons (ds_expr (de_call (cal_check_boxes T) (hr.mono (by decide)) rfl (L2N.takes_of rfl rfl rfl rfl) (da_cons (de_var (pv 1)) da_nil) rfl (len_cons len_nil)))
    (dss_cons (ds_expr (de_call (cal_check_take T) (hr.mono (by decide)) rfl (L2N.takes_of rfl rfl rfl rfl) (da_cons (de_var (pv 2)) da_nil) rfl (len_cons len_nil)))
    (dss_cons (ds_expr (de_call (cal_check_strike T) (hr.mono (by decide)) rfl (L2N.takes_of rfl rfl rfl rfl) (da_cons (de_var (pv 3)) da_nil) rfl (len_cons len_nil)))
    (dss_one (ds_fld (pv 0) T.g_Game T.cl T.na_held (de_tup (da_cons (de_var (pv 1)) (da_cons (de_var (pv 2)) (da_cons (de_var (pv 3)) da_nil))))))))), h4⟩
theorem sc_g_eq : FnScope ["self", "other"] ["self", "other"] (defScope s_g_eq) := ⟨rfl, rfl, rfl, by decide +kernel, rfl, by decide +kernel, by decide +kernel⟩
theorem eq_Game (T : Txt w K mg base TT C CM) : ∃ fa fd ps, FnOk P w K mg base (L2N.CX P w) 1 fa fd ps (spD K mg TT 2 F_Game_eq) ∧ PySem.W.findIn K (.ref C) "__eq__" = some (some (.ref fa)) ∧ PySem.W.isFn K (.ref fa) = true ∧ Binds K fd ps [] := by
  obtain ⟨fa, fd, h1, h2, h3, h4⟩ := T.m_eq
  exact ⟨fa, fd, _, okD h3 sc_g_eq fun cdv A outer s H E W hr => (dss_one (ds_ret (de_and (de_isC T.ins T.g_Game rfl T.b_isinstance (de_var (pv 1)) (pe_glob (v := .ref _) rfl T.g_Game rfl)) (de_one (de_eq hr.units (de_fld (de_var (pv 0)) T.g_Game T.cl T.na_held) (de_fld (de_var (pv 1)) T.g_Game T.cl T.na_held)))))), h1, h2, h4⟩
abbrev N_check_game : List Str := ["value"]
theorem sc_check_game : FnScope ["value"] ["value"] (defScope s_check_game) := ⟨rfl, rfl, rfl, by decide +kernel, rfl, by decide +kernel, by decide +kernel⟩
theorem cal_check_game (T : Txt w K mg base TT C CM) : Callee P w K mg base TT 1 "check_game" 1 F_check_game := by
  exact T.d_check_game.cal sc_check_game rfl fun f cdv A outer s H E W hr => (dss_one (ds_if (dt_not (dt_tru (de_isC T.ins T.g_Game rfl T.b_isinstance (de_var (pv 0)) (pe_glob (v := .ref _) rfl T.g_Game rfl)))) (dss_one (ds_raise (T.e_BadGame).choose_spec rfl (L2N.takes_of rfl rfl rfl rfl) rfl)) dss_nil))
abbrev N_check_first : List Str := ["value"]
theorem sc_check_first : FnScope ["value"] ["value"] (defScope s_check_first) := ⟨rfl, rfl, rfl, by decide +kernel, rfl, by decide +kernel, by decide +kernel⟩
theorem cal_check_first (T : Txt w K mg base TT C CM) : Callee P w K mg base TT 1 "check_first" 1 F_check_first := by
  exact T.d_check_first.cal sc_check_first rfl fun f cdv A outer s H E W hr => (dss_one (ds_if (PW.pt (dw_or (dt_not (dt_tru (de_isi .s rfl T.b_isinstance (de_var (pv 0)) (pe_bltn (v := .ty "str") rfl T.b_str (by decide +kernel) rfl)))) (dw_or1 (dt_notIn (de_var (pv 0)) (de_tup (da_cons de_str (da_cons de_str da_nil))))))) (dss_one (ds_raise (T.e_BadFirst).choose_spec rfl (L2N.takes_of rfl rfl rfl rfl) rfl)) dss_nil))
abbrev N_bounds_of : List Str := ["many", "take", "strike", "found", "bounds", "last", "part", "longer", "place", "bound"]
theorem sc_bounds_of : FnScope ["many", "take", "strike", "found", "bounds", "last", "part", "longer", "place", "bound"] ["many", "take", "strike"] (defScope s_bounds_of) := ⟨rfl, rfl, rfl, by decide +kernel, rfl, by decide +kernel, by decide +kernel⟩
theorem cal_bounds_of (T : Txt w K mg base TT C CM) : Callee P w K mg base TT 1 "bounds_of" 3 F_bounds_of := by
  exact T.d_bounds_of.cal sc_bounds_of rfl fun f cdv A outer s H E W hr => (dss_cons (ds_set (pg_name (i := 3) sc_bounds_of.nd rfl (Or.inl rfl)) (dx_lst da_nil))
    (dss_cons (ds_set (pg_name (i := 4) sc_bounds_of.nd rfl (Or.inl rfl)) (dx_E (de_tup (da_cons (de_var (pv 1)) da_nil))))
    (dss_cons (ds_while 1000 (passes_of rfl) (dt_le (de_len rfl T.b_len (da_cons (de_var (pv 4)) da_nil)) (de_var (pv 0))) (dss_cons (ds_app (pe_bm PySem.F.plainAttrs_list PySem.F.slot_list_append PySem.F.type_list_append mt_append (pv 3) (pa_cons (de_var (pv 4)) pa_nil)))
    (dss_cons (ds_tgt (dg_tup rfl (dgs_cons (dg_name (pg_name (i := 5) sc_bounds_of.nd rfl (Or.inr rfl))) (dgs_cons (dg_name (pg_name (i := 6) sc_bounds_of.nd rfl (Or.inr rfl))) dgs_nil))) (de_tup (da_cons (de_ix (de_var (pv 4)) (de_neg de_int)) (da_cons (de_fdiv (de_ix (de_var (pv 4)) (de_neg de_int)) (de_len rfl T.b_len (da_cons (de_var (pv 4)) da_nil))) da_nil))))
    (dss_cons (ds_set (pg_name (i := 7) sc_bounds_of.nd rfl (Or.inl rfl)) (dx_E (de_add (de_X (dx_list rfl T.b_list (da_cons (de_var (pv 4)) da_nil))) (de_X (dx_lc (own := [("place", 8)]) rfl sc_bounds_of.nd (di_range1 rfl T.b_range (da_cons (de_var (pv 2)) da_nil)) (blkOk_by (N := N_bounds_of) (sc := defScope s_bounds_of) (own := [("place", 8)]) (by decide +kernel)) (fun _ _ _ _ _ => (dg_name (pg_name (i := 8) sc_bounds_of.nd rfl (Or.inl rfl)))) (fun _ _ _ _ _ => dts_nil) (fun _ _ _ _ _ => (de_add (de_var (pv 5)) (de_mul (de_var (pv 6)) (de_add (de_var (pv 8)) de_int)))))))))
    (dss_one (ds_set (pg_name (i := 4) sc_bounds_of.nd rfl (Or.inl rfl)) (dx_E (de_tuple rfl T.b_tuple (da_cons (de_X (dx_lc (own := [("bound", 9)]) rfl sc_bounds_of.nd (di_seq (de_var (pv 7))) (blkOk_by (N := N_bounds_of) (sc := defScope s_bounds_of) (own := [("bound", 9)]) (by decide +kernel)) (fun _ _ _ _ _ => (dg_name (pg_name (i := 9) sc_bounds_of.nd rfl (Or.inl rfl)))) (fun _ _ _ _ _ => dts_nil) (fun _ _ _ _ _ => (de_add (de_var (pv 9)) (de_var (pv 1)))))) da_nil)))))))))
    (dss_frz 3 (dss_one (ds_ret (de_var (pv 3))))))))
abbrev N_tops_of : List Str := ["sizes", "found", "whole", "size"]
theorem sc_tops_of : FnScope ["sizes", "found", "whole", "size"] ["sizes"] (defScope s_tops_of) := ⟨rfl, rfl, rfl, by decide +kernel, rfl, by decide +kernel, by decide +kernel⟩
theorem cal_tops_of (T : Txt w K mg base TT C CM) : Callee P w K mg base TT 1 "tops_of" 1 F_tops_of := by
  exact T.d_tops_of.cal sc_tops_of rfl fun f cdv A outer s H E W hr => (dss_cons (ds_set (pg_name (i := 1) sc_tops_of.nd rfl (Or.inl rfl)) (dx_lst da_nil))
    (dss_cons (ds_set (pg_name (i := 2) sc_tops_of.nd rfl (Or.inl rfl)) (dx_E de_int))
    (dss_cons (ds_for (passes_of rfl) rfl (di_seq (de_X (dx_sortedRev rfl T.b_sorted (da_cons (de_var (pv 0)) da_nil) (pk_cons pe_bl pk_nil)))) (dg_name (pg_name (i := 3) sc_tops_of.nd rfl (Or.inl rfl))) (dss_cons (ds_aug (i := 2) sc_tops_of.nd rfl (Or.inl rfl) (de_var (pv 3)) ip_add)
    (dss_one (ds_app (pe_bm PySem.F.plainAttrs_list PySem.F.slot_list_append PySem.F.type_list_append mt_append (pv 1) (pa_cons (de_var (pv 2)) pa_nil))))))
    (dss_frz 1 (dss_one (ds_ret (de_tuple rfl T.b_tuple (da_cons (de_var (pv 1)) da_nil))))))))
abbrev N_sums_of : List Str := ["sizes", "take", "strike", "found", "bounds"]
theorem sc_sums_of : FnScope ["sizes", "take", "strike", "found", "bounds"] ["sizes", "take", "strike"] (defScope s_sums_of) := ⟨rfl, rfl, rfl, by decide +kernel, rfl, by decide +kernel, by decide +kernel⟩
theorem cal_sums_of (T : Txt w K mg base TT C CM) : Callee P w K mg base TT 2 "sums_of" 3 F_sums_of := by
  exact T.d_sums_of.cal sc_sums_of rfl fun f cdv A outer s H E W hr => (dss_cons (ds_set (pg_name (i := 3) sc_sums_of.nd rfl (Or.inl rfl)) (dx_lst da_nil))
    (dss_cons (ds_for (passes_of rfl) rfl (di_seq (de_call (cal_bounds_of T) (hr.mono (by decide)) rfl (L2N.takes_of rfl rfl rfl rfl) (da_cons (de_len rfl T.b_len (da_cons (de_var (pv 0)) da_nil)) (da_cons (de_var (pv 1)) (da_cons (de_var (pv 2)) da_nil))) rfl (len_cons (len_cons (len_cons len_nil))))) (dg_name (pg_name (i := 4) sc_sums_of.nd rfl (Or.inl rfl))) (dss_one (ds_app (pe_bm PySem.F.plainAttrs_list PySem.F.slot_list_append PySem.F.type_list_append mt_append (pv 3) (pa_cons (de_tup (da_cons (de_len rfl T.b_len (da_cons (de_var (pv 4)) da_nil)) (da_cons (de_call (cal_tops_of T) (hr.mono (by decide)) rfl (L2N.takes_of rfl rfl rfl rfl) (da_cons (de_slice (de_var (pv 0)) do_none (do_some (de_len rfl T.b_len (da_cons (de_var (pv 4)) da_nil)))) da_nil) rfl (len_cons len_nil)) (da_cons (de_var (pv 4)) da_nil)))) pa_nil)))))
    (dss_frz 3 (dss_one (ds_ret (de_var (pv 3)))))))
abbrev N_over : List Str := ["tops", "bounds", "top", "bound"]
theorem sc_over : FnScope ["tops", "bounds", "top", "bound"] ["tops", "bounds"] (defScope s_over) := ⟨rfl, rfl, rfl, by decide +kernel, rfl, by decide +kernel, by decide +kernel⟩
theorem cal_over (T : Txt w K mg base TT C CM) : Callee P w K mg base TT 1 "over" 2 F_over := by
  exact T.d_over.cal sc_over rfl fun f cdv A outer s H E W hr => (dss_one (ds_ret (de_max (hu_of hr) rfl rfl T.b_max (da_cons (de_add (de_X (dx_lst (da_cons de_int da_nil))) (de_X (dx_lc (own := [("top", 2), ("bound", 3)]) rfl sc_over.nd (di_zip rfl T.b_zip (da_cons (de_var (pv 0)) (da_cons (de_var (pv 1)) da_nil))) (blkOk_by (N := N_over) (sc := defScope s_over) (own := [("top", 2), ("bound", 3)]) (by decide +kernel)) (fun _ _ _ _ _ => (dg_tup rfl (dgs_cons (dg_name (pg_name (i := 2) sc_over.nd rfl (Or.inl rfl))) (dgs_cons (dg_name (pg_name (i := 3) sc_over.nd rfl (Or.inl rfl))) dgs_nil)))) (fun _ _ _ _ _ => dts_nil) (fun _ _ _ _ _ => (de_sub (de_var (pv 2)) (de_var (pv 3))))))) da_nil))))
abbrev N_turns_of : List Str := ["sizes", "take", "strike", "index", "row"]
theorem sc_turns_of : FnScope ["sizes", "take", "strike", "index", "row"] ["sizes", "take", "strike"] (defScope s_turns_of) := ⟨rfl, rfl, rfl, by decide +kernel, rfl, by decide +kernel, by decide +kernel⟩
theorem cal_turns_of (T : Txt w K mg base TT C CM) : Callee P w K mg base TT 3 "turns_of" 3 F_turns_of := by
  exact T.d_turns_of.cal sc_turns_of rfl fun f cdv A outer s H E W hr => (dss_cons (ds_for (passes_of rfl) rfl (di_enumA rfl T.b_enumerate (da_cons (de_call (cal_sums_of T) (hr.mono (by decide)) rfl (L2N.takes_of rfl rfl rfl rfl) (da_cons (de_X (dx_sorted rfl T.b_sorted (da_cons (de_X (dx_list rfl T.b_list (da_cons (de_var (pv 0)) da_nil))) da_nil))) (da_cons (de_var (pv 1)) (da_cons (de_var (pv 2)) da_nil))) rfl (len_cons (len_cons (len_cons len_nil)))) da_nil)) (dg_tup rfl (dgs_cons (dg_name (pg_name (i := 3) sc_turns_of.nd rfl (Or.inl rfl))) (dgs_cons (dg_name (pg_name (i := 4) sc_turns_of.nd rfl (Or.inl rfl))) dgs_nil))) (dss_one (ds_if (dt_eq hr.units (de_call (cal_over T) (hr.mono (by decide)) rfl (L2N.takes_of rfl rfl rfl rfl) (da_cons (de_ix (de_var (pv 4)) de_int) (da_cons (de_ix (de_var (pv 4)) de_int) da_nil)) rfl (len_cons (len_cons len_nil))) de_int) (dss_one (ds_ret (de_add (de_var (pv 3)) de_int))) dss_nil)))
    (dss_one (ds_ret de_non)))
abbrev N_left_for : List Str := ["sizes", "strike", "first", "found"]
theorem sc_left_for : FnScope ["sizes", "strike", "first", "found"] ["sizes", "strike", "first"] (defScope s_left_for) := ⟨rfl, rfl, rfl, by decide +kernel, rfl, by decide +kernel, by decide +kernel⟩
theorem cal_left_for (T : Txt w K mg base TT C CM) : Callee P w K mg base TT 1 "left_for" 3 F_left_for := by
  exact T.d_left_for.cal sc_left_for rfl fun f cdv A outer s H E W hr => (dss_cons (ds_set (pg_name (i := 3) sc_left_for.nd rfl (Or.inl rfl)) (dx_E (de_X (dx_sorted rfl T.b_sorted (da_cons (de_X (dx_list rfl T.b_list (da_cons (de_var (pv 0)) da_nil))) da_nil)))))
    (dss_cons (ds_if (dt_eq hr.units (de_var (pv 2)) de_str) (dss_one (ds_ret (de_slice (de_var (pv 3)) (do_some (de_var (pv 1))) do_none))) dss_nil)
    (dss_one (ds_ret (de_var (pv 3))))))
abbrev N_turns_by : List Str := ["sizes", "take", "strike", "first"]
theorem sc_turns_by : FnScope ["sizes", "take", "strike", "first"] ["sizes", "take", "strike", "first"] (defScope s_turns_by) := ⟨rfl, rfl, rfl, by decide +kernel, rfl, by decide +kernel, by decide +kernel⟩
theorem cal_turns_by (T : Txt w K mg base TT C CM) : Callee P w K mg base TT 4 "turns_by" 4 F_turns_by := by
  exact T.d_turns_by.cal sc_turns_by rfl fun f cdv A outer s H E W hr => (dss_one (ds_ret (de_call (cal_turns_of T) (hr.mono (by decide)) rfl (L2N.takes_of rfl rfl rfl rfl) (da_cons (de_call (cal_left_for T) (hr.mono (by decide)) rfl (L2N.takes_of rfl rfl rfl rfl) (da_cons (de_var (pv 0)) (da_cons (de_var (pv 2)) (da_cons (de_var (pv 3)) da_nil))) rfl (len_cons (len_cons (len_cons len_nil)))) (da_cons (de_var (pv 1)) (da_cons (de_var (pv 2)) da_nil))) rfl (len_cons (len_cons (len_cons len_nil))))))
abbrev N_winner_by : List Str := ["sizes", "take", "strike", "first"]
theorem sc_winner_by : FnScope ["sizes", "take", "strike", "first"] ["sizes", "take", "strike", "first"] (defScope s_winner_by) := ⟨rfl, rfl, rfl, by decide +kernel, rfl, by decide +kernel, by decide +kernel⟩
theorem cal_winner_by (T : Txt w K mg base TT C CM) : Callee P w K mg base TT 5 "winner_by" 4 F_winner_by := by
  exact T.d_winner_by.cal sc_winner_by rfl fun f cdv A outer s H E W hr => (dss_cons (ds_if (dt_isN (de_call (cal_turns_by T) (hr.mono (by decide)) rfl (L2N.takes_of rfl rfl rfl rfl) (da_cons (de_var (pv 0)) (da_cons (de_var (pv 1)) (da_cons (de_var (pv 2)) (da_cons (de_var (pv 3)) da_nil)))) rfl (len_cons (len_cons (len_cons (len_cons len_nil))))) de_non) (dss_one (ds_ret de_str)) dss_nil)
    (dss_one (ds_ret de_str)))
abbrev N_check_asked : List Str := ["game", "first"]
theorem sc_check_asked : FnScope ["game", "first"] ["game", "first"] (defScope s_check_asked) := ⟨rfl, rfl, rfl, by decide +kernel, rfl, by decide +kernel, by decide +kernel⟩
theorem cal_check_asked (T : Txt w K mg base TT C CM) : Callee P w K mg base TT 2 "check_asked" 2 F_check_asked := by
  exact T.d_check_asked.cal sc_check_asked rfl fun f cdv A outer s H E W hr => (dss_cons (ds_expr (de_call (cal_check_game T) (hr.mono (by decide)) rfl (L2N.takes_of rfl rfl rfl rfl) (da_cons (de_var (pv 0)) da_nil) rfl (len_cons len_nil)))
    (dss_one (ds_expr (de_call (cal_check_first T) (hr.mono (by decide)) rfl (L2N.takes_of rfl rfl rfl rfl) (da_cons (de_var (pv 1)) da_nil) rfl (len_cons len_nil)))))
abbrev N_winner : List Str := ["game", "first"]
theorem sc_winner : FnScope ["game", "first"] ["game", "first"] (defScope s_winner) := ⟨rfl, rfl, rfl, by decide +kernel, rfl, by decide +kernel, by decide +kernel⟩
theorem cal_winner (T : Txt w K mg base TT C CM) : Callee P w K mg base TT 6 "winner" 2 F_winner := by
  obtain ⟨_, _, _, _, Gboxes⟩ := get_boxes (P := P) (w := w) T
  obtain ⟨_, _, _, _, Gstrike⟩ := get_strike (P := P) (w := w) T
  obtain ⟨_, _, _, _, Gtake⟩ := get_take (P := P) (w := w) T
  exact T.d_winner.cal sc_winner rfl fun f cdv A outer s H E W hr => (dss_cons (ds_expr (de_call (cal_check_asked T) (hr.mono (by decide)) rfl (L2N.takes_of rfl rfl rfl rfl) (da_cons (de_var (pv 0)) (da_cons (de_var (pv 1)) da_nil)) rfl (len_cons (len_cons len_nil))))
    (dss_one (ds_ret (de_call (cal_winner_by T) (hr.mono (by decide)) rfl (L2N.takes_of rfl rfl rfl rfl) (da_cons (de_prop (de_var (pv 0)) T.g_Game T.cl Gboxes.1 Gboxes.2.1 (hr.mono (by decide)) Gboxes.2.2) (da_cons (de_prop (de_var (pv 0)) T.g_Game T.cl Gtake.1 Gtake.2.1 (hr.mono (by decide)) Gtake.2.2) (da_cons (de_prop (de_var (pv 0)) T.g_Game T.cl Gstrike.1 Gstrike.2.1 (hr.mono (by decide)) Gstrike.2.2) (da_cons (de_var (pv 1)) da_nil)))) rfl (len_cons (len_cons (len_cons (len_cons len_nil))))))))
abbrev N_in_turns : List Str := ["game", "first", "turns", "found"]
theorem sc_in_turns : FnScope ["game", "first", "turns", "found"] ["game", "first", "turns"] (defScope s_in_turns) := ⟨rfl, rfl, rfl, by decide +kernel, rfl, by decide +kernel, by decide +kernel⟩
theorem cal_in_turns (T : Txt w K mg base TT C CM) : Callee P w K mg base TT 5 "in_turns" 3 F_in_turns := by
  obtain ⟨_, _, _, _, Gboxes⟩ := get_boxes (P := P) (w := w) T
  obtain ⟨_, _, _, _, Gstrike⟩ := get_strike (P := P) (w := w) T
  obtain ⟨_, _, _, _, Gtake⟩ := get_take (P := P) (w := w) T
  exact T.d_in_turns.cal sc_in_turns rfl fun f cdv A outer s H E W hr => (dss_cons (ds_expr (de_call (cal_check_asked T) (hr.mono (by decide)) rfl (L2N.takes_of rfl rfl rfl rfl) (da_cons (de_var (pv 0)) (da_cons (de_var (pv 1)) da_nil)) rfl (len_cons (len_cons len_nil))))
    (dss_cons (ds_if (dt_not (dt_tru (de_call (cal_is_from T) (hr.mono (by decide)) rfl (L2N.takes_of rfl rfl rfl rfl) (da_cons (de_var (pv 2)) (da_cons de_int (da_cons (de_gint T.c_MOST_TURNS rfl) da_nil))) rfl (len_cons (len_cons (len_cons len_nil)))))) (dss_one (ds_raise (T.e_BadTurns).choose_spec rfl (L2N.takes_of rfl rfl rfl rfl) rfl)) dss_nil)
    (dss_cons (ds_set (pg_name (i := 3) sc_in_turns.nd rfl (Or.inl rfl)) (dx_E (de_call (cal_turns_by T) (hr.mono (by decide)) rfl (L2N.takes_of rfl rfl rfl rfl) (da_cons (de_prop (de_var (pv 0)) T.g_Game T.cl Gboxes.1 Gboxes.2.1 (hr.mono (by decide)) Gboxes.2.2) (da_cons (de_prop (de_var (pv 0)) T.g_Game T.cl Gtake.1 Gtake.2.1 (hr.mono (by decide)) Gtake.2.2) (da_cons (de_prop (de_var (pv 0)) T.g_Game T.cl Gstrike.1 Gstrike.2.1 (hr.mono (by decide)) Gstrike.2.2) (da_cons (de_var (pv 1)) da_nil)))) rfl (len_cons (len_cons (len_cons (len_cons len_nil)))))))
    (dss_one (ds_ret (de_and (de_notN (de_var (pv 3)) de_non) (de_one (de_le (de_var (pv 3)) (de_var (pv 2))))))))))
abbrev N_open_boxes : List Str := ["left", "box", "size"]
theorem sc_open_boxes : FnScope ["left", "box", "size"] ["left"] (defScope s_open_boxes) := ⟨rfl, rfl, rfl, by decide +kernel, rfl, by decide +kernel, by decide +kernel⟩
theorem cal_open_boxes (T : Txt w K mg base TT C CM) : Callee P w K mg base TT 1 "open_boxes" 1 F_open_boxes := by
  exact T.d_open_boxes.cal sc_open_boxes rfl fun f cdv A outer s H E W hr => (dss_one (ds_ret (de_X (dx_lc (own := [("box", 1), ("size", 2)]) rfl sc_open_boxes.nd (di_enumA rfl T.b_enumerate (da_cons (de_var (pv 0)) da_nil)) (blkOk_by (N := N_open_boxes) (sc := defScope s_open_boxes) (own := [("box", 1), ("size", 2)]) (by decide +kernel)) (fun _ _ _ _ _ => (dg_tup rfl (dgs_cons (dg_name (pg_name (i := 1) sc_open_boxes.nd rfl (Or.inl rfl))) (dgs_cons (dg_name (pg_name (i := 2) sc_open_boxes.nd rfl (Or.inl rfl))) dgs_nil)))) (fun _ _ _ _ _ => (dts_one (dt_notN (de_var (pv 2)) de_non))) (fun _ _ _ _ _ => (de_var (pv 1)))))))
abbrev N_sizes_of : List Str := ["left", "size"]
theorem sc_sizes_of : FnScope ["left", "size"] ["left"] (defScope s_sizes_of) := ⟨rfl, rfl, rfl, by decide +kernel, rfl, by decide +kernel, by decide +kernel⟩
theorem cal_sizes_of (T : Txt w K mg base TT C CM) : Callee P w K mg base TT 1 "sizes_of" 1 F_sizes_of := by
  exact T.d_sizes_of.cal sc_sizes_of rfl fun f cdv A outer s H E W hr => (dss_one (ds_ret (de_X (dx_lc (own := [("size", 1)]) rfl sc_sizes_of.nd (di_seq (de_var (pv 0))) (blkOk_by (N := N_sizes_of) (sc := defScope s_sizes_of) (own := [("size", 1)]) (by decide +kernel)) (fun _ _ _ _ _ => (dg_name (pg_name (i := 1) sc_sizes_of.nd rfl (Or.inl rfl)))) (fun _ _ _ _ _ => (dts_one (dt_notN (de_var (pv 1)) de_non))) (fun _ _ _ _ _ => (de_var (pv 1)))))))
abbrev N_without : List Str := ["left", "struck", "box", "size"]
theorem sc_without : FnScope ["left", "struck", "box", "size"] ["left", "struck"] (defScope s_without) := ⟨rfl, rfl, rfl, by decide +kernel, rfl, by decide +kernel, by decide +kernel⟩
theorem cal_without (T : Txt w K mg base TT C CM) : Callee P w K mg base TT 1 "without" 2 F_without := by
  exact T.d_without.cal sc_without rfl fun f cdv A outer s H E W hr => (dss_one (ds_ret (de_tuple rfl T.b_tuple (da_cons (de_X (dx_lc (own := [("box", 2), ("size", 3)]) rfl sc_without.nd (di_enumA rfl T.b_enumerate (da_cons (de_var (pv 0)) da_nil)) (blkOk_by (N := N_without) (sc := defScope s_without) (own := [("box", 2), ("size", 3)]) (by decide +kernel)) (fun _ _ _ _ _ => (dg_tup rfl (dgs_cons (dg_name (pg_name (i := 2) sc_without.nd rfl (Or.inl rfl))) (dgs_cons (dg_name (pg_name (i := 3) sc_without.nd rfl (Or.inl rfl))) dgs_nil)))) (fun _ _ _ _ _ => dts_nil) (fun _ _ _ _ _ => (de_if (dt_in (de_var (pv 2)) (de_var (pv 1))) de_non (de_var (pv 3)))))) da_nil))))
abbrev N_all_takings : List Str := ["sizes", "take", "found", "size", "longer", "amounts", "rest", "some"]
theorem sc_all_takings : FnScope ["sizes", "take", "found", "size", "longer", "amounts", "rest", "some"] ["sizes", "take"] (defScope s_all_takings) := ⟨rfl, rfl, rfl, by decide +kernel, rfl, by decide +kernel, by decide +kernel⟩
theorem cal_all_takings (T : Txt w K mg base TT C CM) : Callee P w K mg base TT 1 "all_takings" 2 F_all_takings := by
  exact T.d_all_takings.cal sc_all_takings rfl fun f cdv A outer s H E W hr => (dss_cons (ds_set (pg_name (i := 2) sc_all_takings.nd rfl (Or.inl rfl)) (dx_E (de_X (dx_lst (da_cons (de_tup (da_cons (de_tup da_nil) (da_cons (de_var (pv 1)) da_nil))) da_nil)))))
    (dss_cons (ds_for (passes_of rfl) rfl (di_seq (de_var (pv 0))) (dg_name (pg_name (i := 3) sc_all_takings.nd rfl (Or.inl rfl))) (dss_cons (ds_set (pg_name (i := 4) sc_all_takings.nd rfl (Or.inl rfl)) (dx_lst da_nil))
    (dss_cons (ds_for (passes_of rfl) rfl (di_seq (de_var (pv 2))) (dg_tup rfl (dgs_cons (dg_name (pg_name (i := 5) sc_all_takings.nd rfl (Or.inl rfl))) (dgs_cons (dg_name (pg_name (i := 6) sc_all_takings.nd rfl (Or.inl rfl))) dgs_nil))) (dss_cons (ds_if (dt_peek fun W0 H0 => (dt_gt (de_add (de_add (de_len rfl T.b_len (da_cons (de_var (pv 4)) da_nil)) (de_min rfl rfl T.b_min (da_cons (de_var (pv 3)) (da_cons (de_var (pv 6)) da_nil)))) de_int) (de_gint T.c_MOST_TAKINGS rfl))) (dss_one (ds_raise (T.e_TooLarge).choose_spec rfl (L2N.takes_of rfl rfl rfl rfl) rfl)) dss_nil)
    (dss_one (ds_for (passes_of rfl) rfl (di_range1 rfl T.b_range (da_cons (de_add (de_min rfl rfl T.b_min (da_cons (de_var (pv 3)) (da_cons (de_var (pv 6)) da_nil))) de_int) da_nil)) (dg_name (pg_name (i := 7) sc_all_takings.nd rfl (Or.inl rfl))) (dss_one (ds_app (pe_bm PySem.F.plainAttrs_list PySem.F.slot_list_append PySem.F.type_list_append mt_append (pv 4) (pa_cons (de_tup (da_cons (de_add (de_var (pv 5)) (de_tup (da_cons (de_var (pv 7)) da_nil))) (da_cons (de_sub (de_var (pv 6)) (de_var (pv 7))) da_nil))) pa_nil))))))))
    (dss_frz 4 (dss_one (ds_set (pg_name (i := 2) sc_all_takings.nd rfl (Or.inl rfl)) (dx_E (de_var (pv 4)))))))))
    (dss_one (ds_ret (de_X (dx_lc (own := [("amounts", 5), ("rest", 6)]) rfl sc_all_takings.nd (di_seq (de_var (pv 2))) (blkOk_by (N := N_all_takings) (sc := defScope s_all_takings) (own := [("amounts", 5), ("rest", 6)]) (by decide +kernel)) (fun _ _ _ _ _ => (dg_tup rfl (dgs_cons (dg_name (pg_name (i := 5) sc_all_takings.nd rfl (Or.inl rfl))) (dgs_cons (dg_name (pg_name (i := 6) sc_all_takings.nd rfl (Or.inl rfl))) dgs_nil)))) (fun _ _ _ _ _ => dts_nil) (fun _ _ _ _ _ => (de_var (pv 5)))))))))
abbrev N_is_winning : List Str := ["sizes", "amounts", "take", "strike", "left", "size", "some"]
theorem sc_is_winning : FnScope ["sizes", "amounts", "take", "strike", "left", "size", "some"] ["sizes", "amounts", "take", "strike"] (defScope s_is_winning) := ⟨rfl, rfl, rfl, by decide +kernel, rfl, by decide +kernel, by decide +kernel⟩
theorem cal_is_winning (T : Txt w K mg base TT C CM) : Callee P w K mg base TT 5 "is_winning" 4 F_is_winning := by
  exact T.d_is_winning.cal sc_is_winning rfl fun f cdv A outer s H E W hr => (dss_cons (ds_setLc (i := 4) (own := [("size", 5), ("some", 6)]) rfl sc_is_winning.nd rfl rfl (sw_true rfl rfl rfl (by decide +kernel)) (di_zip rfl T.b_zip (da_cons (de_var (pv 0)) (da_cons (de_var (pv 1)) da_nil))) (blkOk_by (N := N_is_winning) (sc := defScope s_is_winning) (own := [("size", 5), ("some", 6)]) (by decide +kernel)) (fun _ _ _ _ _ => (dg_tup rfl (dgs_cons (dg_name (pg_name (i := 5) sc_is_winning.nd rfl (Or.inl rfl))) (dgs_cons (dg_name (pg_name (i := 6) sc_is_winning.nd rfl (Or.inl rfl))) dgs_nil)))) (fun _ _ _ _ _ => dts_nil) (fun _ _ _ _ _ => (de_sub (de_var (pv 5)) (de_var (pv 6)))))
    (dss_frz 4 (dss_one (ds_ret (de_or (de_in de_int (de_var (pv 4))) (de_one (de_notN (de_call (cal_turns_by T) (hr.mono (by decide)) rfl (L2N.takes_of rfl rfl rfl rfl) (da_cons (de_var (pv 4)) (da_cons (de_var (pv 2)) (da_cons (de_var (pv 3)) (da_cons de_str da_nil)))) rfl (len_cons (len_cons (len_cons (len_cons len_nil))))) de_non)))))))
abbrev N_many_takings : List Str := ["game", "every", "amounts"]
theorem sc_many_takings : FnScope ["game", "every", "amounts"] ["game"] (defScope s_many_takings) := ⟨rfl, rfl, rfl, by decide +kernel, rfl, by decide +kernel, by decide +kernel⟩
theorem cal_many_takings (T : Txt w K mg base TT C CM) : Callee P w K mg base TT 6 "many_takings" 1 F_many_takings := by
  obtain ⟨_, _, _, _, Gboxes⟩ := get_boxes (P := P) (w := w) T
  obtain ⟨_, _, _, _, Gstrike⟩ := get_strike (P := P) (w := w) T
  obtain ⟨_, _, _, _, Gtake⟩ := get_take (P := P) (w := w) T
  exact T.d_many_takings.cal sc_many_takings rfl fun f cdv A outer s H E W hr => (dss_cons (ds_expr (de_call (cal_check_game T) (hr.mono (by decide)) rfl (L2N.takes_of rfl rfl rfl rfl) (da_cons (de_var (pv 0)) da_nil) rfl (len_cons len_nil)))
    (dss_cons (ds_set (pg_name (i := 1) sc_many_takings.nd rfl (Or.inl rfl)) (dx_E (de_call (cal_all_takings T) (hr.mono (by decide)) rfl (L2N.takes_of rfl rfl rfl rfl) (da_cons (de_prop (de_var (pv 0)) T.g_Game T.cl Gboxes.1 Gboxes.2.1 (hr.mono (by decide)) Gboxes.2.2) (da_cons (de_prop (de_var (pv 0)) T.g_Game T.cl Gtake.1 Gtake.2.1 (hr.mono (by decide)) Gtake.2.2) da_nil)) rfl (len_cons (len_cons len_nil)))))
    (dss_one (ds_ret (de_len rfl T.b_len (da_cons (de_X (dx_lc (own := [("amounts", 2)]) rfl sc_many_takings.nd (di_seq (de_var (pv 1))) (blkOk_by (N := N_many_takings) (sc := defScope s_many_takings) (own := [("amounts", 2)]) (by decide +kernel)) (fun _ _ _ _ _ => (dg_name (pg_name (i := 2) sc_many_takings.nd rfl (Or.inl rfl)))) (fun _ _ _ _ _ => (dts_one (dt_tru (de_call (cal_is_winning T) (hr.mono (by decide)) rfl takes0N (da_cons (de_prop (de_var (pv 0)) T.g_Game T.cl Gboxes.1 Gboxes.2.1 (hr.mono (by decide)) Gboxes.2.2) (da_cons (de_var (pv 2)) (da_cons (de_prop (de_var (pv 0)) T.g_Game T.cl Gtake.1 Gtake.2.1 (hr.mono (by decide)) Gtake.2.2) (da_cons (de_prop (de_var (pv 0)) T.g_Game T.cl Gstrike.1 Gstrike.2.1 (hr.mono (by decide)) Gstrike.2.2) da_nil)))) rfl (len_cons (len_cons (len_cons (len_cons len_nil)))))))) (fun _ _ _ _ _ => (de_var (pv 2))))) da_nil))))))
abbrev N_is_taking : List Str := ["left", "take", "value", "some", "size", "most"]
theorem sc_is_taking : FnScope ["left", "take", "value", "some", "size", "most"] ["left", "take", "value"] (defScope s_is_taking) := ⟨rfl, rfl, rfl, by decide +kernel, rfl, by decide +kernel, by decide +kernel⟩
theorem cal_is_taking (T : Txt w K mg base TT C CM) : Callee P w K mg base TT 3 "is_taking" 3 F_is_taking := by
  exact T.d_is_taking.cal sc_is_taking rfl fun f cdv A outer s H E W hr => (dss_cons (ds_if (PW.pt (dw_or (dt_not (dt_tru (de_isi .t rfl T.b_isinstance (de_var (pv 2)) (pe_bltn (v := .ty "tuple") rfl T.b_tuple (by decide +kernel) rfl)))) (dw_or1 (dt_ne hr.units (de_len rfl T.b_len (da_cons (de_var (pv 2)) da_nil)) (de_len rfl T.b_len (da_cons (de_var (pv 0)) da_nil)))))) (dss_one (ds_ret de_bl)) dss_nil)
    (dss_cons (ds_for (passes_of rfl) rfl (di_zip rfl T.b_zip (da_cons (de_var (pv 2)) (da_cons (de_var (pv 0)) da_nil))) (dg_tup rfl (dgs_cons (dg_name (pg_name (i := 3) sc_is_taking.nd rfl (Or.inl rfl))) (dgs_cons (dg_name (pg_name (i := 4) sc_is_taking.nd rfl (Or.inl rfl))) dgs_nil))) (dss_cons (ds_set (pg_name (i := 5) sc_is_taking.nd rfl (Or.inl rfl)) (dx_E (de_var (pv 4))))
    (dss_cons (ds_if (dt_isN (de_var (pv 4)) de_non) (dss_one (ds_set (pg_name (i := 5) sc_is_taking.nd rfl (Or.inl rfl)) (dx_E de_int))) dss_nil)
    (dss_one (ds_if (dt_not (dt_tru (de_call (cal_is_from T) (hr.mono (by decide)) rfl (L2N.takes_of rfl rfl rfl rfl) (da_cons (de_var (pv 3)) (da_cons de_int (da_cons (de_var (pv 5)) da_nil))) rfl (len_cons (len_cons (len_cons len_nil)))))) (dss_one (ds_ret de_bl)) dss_nil)))))
    (dss_one (ds_ret (de_le (de_sum rfl rfl T.b_sum (da_cons (de_var (pv 2)) da_nil)) (de_var (pv 1)))))))
abbrev N_is_striking : List Str := ["left", "strike", "value", "known", "least", "box"]
theorem sc_is_striking : FnScope ["left", "strike", "value", "known", "least", "box"] ["left", "strike", "value"] (defScope s_is_striking) := ⟨rfl, rfl, rfl, by decide +kernel, rfl, by decide +kernel, by decide +kernel⟩
theorem cal_is_striking (T : Txt w K mg base TT C CM) : Callee P w K mg base TT 3 "is_striking" 3 F_is_striking := by
  exact T.d_is_striking.cal sc_is_striking rfl fun f cdv A outer s H E W hr => (dss_cons (ds_set (pg_name (i := 3) sc_is_striking.nd rfl (Or.inl rfl)) (dx_E (de_call (cal_open_boxes T) (hr.mono (by decide)) rfl (L2N.takes_of rfl rfl rfl rfl) (da_cons (de_var (pv 0)) da_nil) rfl (len_cons len_nil))))
    (dss_cons (ds_if (PW.pt (dw_or (dt_not (dt_tru (de_isi .t rfl T.b_isinstance (de_var (pv 2)) (pe_bltn (v := .ty "tuple") rfl T.b_tuple (by decide +kernel) rfl)))) (dw_or1 (dt_ne hr.units (de_len rfl T.b_len (da_cons (de_var (pv 2)) da_nil)) (de_min rfl rfl T.b_min (da_cons (de_var (pv 1)) (da_cons (de_len rfl T.b_len (da_cons (de_var (pv 3)) da_nil)) da_nil))))))) (dss_one (ds_ret de_bl)) dss_nil)
    (dss_cons (ds_set (pg_name (i := 4) sc_is_striking.nd rfl (Or.inl rfl)) (dx_E de_int))
    (dss_cons (ds_for (passes_of rfl) rfl (di_seq (de_var (pv 2))) (dg_name (pg_name (i := 5) sc_is_striking.nd rfl (Or.inl rfl))) (dss_cons (ds_if (PW.pt (dw_or (dt_not (dt_tru (de_call (cal_is_from T) (hr.mono (by decide)) rfl (L2N.takes_of rfl rfl rfl rfl) (da_cons (de_var (pv 5)) (da_cons (de_var (pv 4)) (da_cons (de_sub (de_len rfl T.b_len (da_cons (de_var (pv 0)) da_nil)) de_int) da_nil))) rfl (len_cons (len_cons (len_cons len_nil)))))) (dw_or1 (dt_notIn (de_var (pv 5)) (de_var (pv 3)))))) (dss_one (ds_ret de_bl)) dss_nil)
    (dss_one (ds_set (pg_name (i := 4) sc_is_striking.nd rfl (Or.inl rfl)) (dx_E (de_add (de_var (pv 5)) de_int))))))
    (dss_one (ds_ret de_bl))))))
abbrev N_is_move : List Str := ["left", "game", "turn", "value"]
theorem sc_is_move : FnScope ["left", "game", "turn", "value"] ["left", "game", "turn", "value"] (defScope s_is_move) := ⟨rfl, rfl, rfl, by decide +kernel, rfl, by decide +kernel, by decide +kernel⟩
theorem cal_is_move (T : Txt w K mg base TT C CM) : Callee P w K mg base TT 4 "is_move" 4 F_is_move := by
  obtain ⟨_, _, _, _, Gstrike⟩ := get_strike (P := P) (w := w) T
  obtain ⟨_, _, _, _, Gtake⟩ := get_take (P := P) (w := w) T
  exact T.d_is_move.cal sc_is_move rfl fun f cdv A outer s H E W hr => (dss_cons (ds_if (PW.pt (dw_or (dt_isN (de_var (pv 2)) de_non) (dw_or (dt_not (dt_tru (de_isi .t rfl T.b_isinstance (de_var (pv 3)) (pe_bltn (v := .ty "tuple") rfl T.b_tuple (by decide +kernel) rfl)))) (dw_or (dt_ne hr.units (de_len rfl T.b_len (da_cons (de_var (pv 3)) da_nil)) de_int) (dw_or1 (dt_not (dt_tru (de_isi .s rfl T.b_isinstance (de_ix (de_var (pv 3)) de_int) (pe_bltn (v := .ty "str") rfl T.b_str (by decide +kernel) rfl))))))))) (dss_one (ds_ret de_bl)) dss_nil)
    (dss_cons (ds_if (dt_eq hr.units (de_var (pv 2)) de_str) (dss_one (ds_ret (de_and (de_eq hr.units (de_ix (de_var (pv 3)) de_int) de_str) (de_one (de_call (cal_is_taking T) (hr.mono (by decide)) rfl (L2N.takes_of rfl rfl rfl rfl) (da_cons (de_var (pv 0)) (da_cons (de_prop (de_var (pv 1)) T.g_Game T.cl Gtake.1 Gtake.2.1 (hr.mono (by decide)) Gtake.2.2) (da_cons (de_ix (de_var (pv 3)) de_int) da_nil))) rfl (len_cons (len_cons (len_cons len_nil)))))))) dss_nil)
    (dss_one (ds_ret (de_and (de_eq hr.units (de_ix (de_var (pv 3)) de_int) de_str) (de_one (de_call (cal_is_striking T) (hr.mono (by decide)) rfl (L2N.takes_of rfl rfl rfl rfl) (da_cons (de_var (pv 0)) (da_cons (de_prop (de_var (pv 1)) T.g_Game T.cl Gstrike.1 Gstrike.2.1 (hr.mono (by decide)) Gstrike.2.2) (da_cons (de_ix (de_var (pv 3)) de_int) da_nil))) rfl (len_cons (len_cons (len_cons len_nil))))))))))
abbrev N_behind : List Str := ["left", "move", "found", "size", "some"]
theorem sc_behind : FnScope ["left", "move", "found", "size", "some"] ["left", "move"] (defScope s_behind) := ⟨rfl, rfl, rfl, by decide +kernel, rfl, by decide +kernel, by decide +kernel⟩
theorem cal_behind (T : Txt w K mg base TT C CM) : Callee P w K mg base TT 2 "behind" 2 F_behind := by
  exact T.d_behind.cal sc_behind rfl fun f cdv A outer s H E W hr => (dss_cons (ds_if (dt_eq hr.units (de_ix (de_var (pv 1)) de_int) de_str) (dss_one (ds_ret (de_call (cal_without T) (hr.mono (by decide)) rfl (L2N.takes_of rfl rfl rfl rfl) (da_cons (de_var (pv 0)) (da_cons (de_ix (de_var (pv 1)) de_int) da_nil)) rfl (len_cons (len_cons len_nil))))) dss_nil)
    (dss_cons (ds_set (pg_name (i := 2) sc_behind.nd rfl (Or.inl rfl)) (dx_lst da_nil))
    (dss_cons (ds_for (passes_of rfl) rfl (di_zip rfl T.b_zip (da_cons (de_var (pv 0)) (da_cons (de_ix (de_var (pv 1)) de_int) da_nil))) (dg_tup rfl (dgs_cons (dg_name (pg_name (i := 3) sc_behind.nd rfl (Or.inl rfl))) (dgs_cons (dg_name (pg_name (i := 4) sc_behind.nd rfl (Or.inl rfl))) dgs_nil))) (dss_one (ds_if (dt_isN (de_var (pv 3)) de_non) (dss_one (ds_app (pe_bm PySem.F.plainAttrs_list PySem.F.slot_list_append PySem.F.type_list_append mt_append (pv 2) (pa_cons de_non pa_nil)))) (dss_one (ds_app (pe_bm PySem.F.plainAttrs_list PySem.F.slot_list_append PySem.F.type_list_append mt_append (pv 2) (pa_cons (de_sub (de_var (pv 3)) (de_var (pv 4))) pa_nil)))))))
    (dss_frz 2 (dss_one (ds_ret (de_tuple rfl T.b_tuple (da_cons (de_var (pv 2)) da_nil))))))))
abbrev N_has_won : List Str := ["left"]
theorem sc_has_won : FnScope ["left"] ["left"] (defScope s_has_won) := ⟨rfl, rfl, rfl, by decide +kernel, rfl, by decide +kernel, by decide +kernel⟩
theorem cal_has_won (T : Txt w K mg base TT C CM) : Callee P w K mg base TT 2 "has_won" 1 F_has_won := by
  exact T.d_has_won.cal sc_has_won rfl fun f cdv A outer s H E W hr => (dss_cons (ds_if (dt_in de_int (de_var (pv 0))) (dss_one (ds_ret de_str)) dss_nil)
    (dss_cons (ds_if (dt_not (dt_tru (de_call (cal_sizes_of T) (hr.mono (by decide)) rfl (L2N.takes_of rfl rfl rfl rfl) (da_cons (de_var (pv 0)) da_nil) rfl (len_cons len_nil)))) (dss_one (ds_ret de_str)) dss_nil)
    (dss_one (ds_ret de_non))))
abbrev N_turn_behind : List Str := ["left", "turn"]
theorem sc_turn_behind : FnScope ["left", "turn"] ["left", "turn"] (defScope s_turn_behind) := ⟨rfl, rfl, rfl, by decide +kernel, rfl, by decide +kernel, by decide +kernel⟩
theorem cal_turn_behind (T : Txt w K mg base TT C CM) : Callee P w K mg base TT 3 "turn_behind" 2 F_turn_behind := by
  exact T.d_turn_behind.cal sc_turn_behind rfl fun f cdv A outer s H E W hr => (dss_cons (ds_if (dt_notN (de_call (cal_has_won T) (hr.mono (by decide)) rfl (L2N.takes_of rfl rfl rfl rfl) (da_cons (de_var (pv 0)) da_nil) rfl (len_cons len_nil)) de_non) (dss_one (ds_ret de_non)) dss_nil)
    (dss_one (ds_ret (de_kd T.k_OTHER rfl (de_var (pv 1))))))
abbrev N_winner_now : List Str := ["left", "game", "turn", "won"]
theorem sc_winner_now : FnScope ["left", "game", "turn", "won"] ["left", "game", "turn"] (defScope s_winner_now) := ⟨rfl, rfl, rfl, by decide +kernel, rfl, by decide +kernel, by decide +kernel⟩
theorem cal_winner_now (T : Txt w K mg base TT C CM) : Callee P w K mg base TT 6 "winner_now" 3 F_winner_now := by
  obtain ⟨_, _, _, _, Gstrike⟩ := get_strike (P := P) (w := w) T
  obtain ⟨_, _, _, _, Gtake⟩ := get_take (P := P) (w := w) T
  exact T.d_winner_now.cal sc_winner_now rfl fun f cdv A outer s H E W hr => (dss_cons (ds_set (pg_name (i := 3) sc_winner_now.nd rfl (Or.inl rfl)) (dx_E (de_call (cal_has_won T) (hr.mono (by decide)) rfl (L2N.takes_of rfl rfl rfl rfl) (da_cons (de_var (pv 0)) da_nil) rfl (len_cons len_nil))))
    (dss_cons (ds_if (dt_notN (de_var (pv 3)) de_non) (dss_one (ds_ret (de_var (pv 3)))) dss_nil)
    (dss_one (ds_ret (de_call (cal_winner_by T) (hr.mono (by decide)) rfl (L2N.takes_of rfl rfl rfl rfl) (da_cons (de_call (cal_sizes_of T) (hr.mono (by decide)) rfl (L2N.takes_of rfl rfl rfl rfl) (da_cons (de_var (pv 0)) da_nil) rfl (len_cons len_nil)) (da_cons (de_prop (de_var (pv 1)) T.g_Game T.cl Gtake.1 Gtake.2.1 (hr.mono (by decide)) Gtake.2.2) (da_cons (de_prop (de_var (pv 1)) T.g_Game T.cl Gstrike.1 Gstrike.2.1 (hr.mono (by decide)) Gstrike.2.2) (da_cons (de_var (pv 2)) da_nil)))) rfl (len_cons (len_cons (len_cons (len_cons len_nil)))))))))
abbrev N_judge : List Str := ["game", "first", "moves", "left", "turn", "found", "index", "move", "ahead"]
theorem sc_judge : FnScope ["game", "first", "moves", "left", "turn", "found", "index", "move", "ahead"] ["game", "first", "moves"] (defScope s_judge) := ⟨rfl, rfl, rfl, by decide +kernel, rfl, by decide +kernel, by decide +kernel⟩
theorem cal_judge (T : Txt w K mg base TT C CM) : Callee P w K mg base TT 7 "judge" 3 F_judge := by
  obtain ⟨_, _, _, _, Gboxes⟩ := get_boxes (P := P) (w := w) T
  exact T.d_judge.cal sc_judge rfl fun f cdv A outer s H E W hr => (dss_cons (ds_expr (de_call (cal_check_asked T) (hr.mono (by decide)) rfl (L2N.takes_of rfl rfl rfl rfl) (da_cons (de_var (pv 0)) (da_cons (de_var (pv 1)) da_nil)) rfl (len_cons (len_cons len_nil))))
    (dss_cons (ds_if (PW.pt (dw_or (dt_not (dt_tru (de_isi .t rfl T.b_isinstance (de_var (pv 2)) (pe_bltn (v := .ty "tuple") rfl T.b_tuple (by decide +kernel) rfl)))) (dw_or1 (dt_gt (de_len rfl T.b_len (da_cons (de_var (pv 2)) da_nil)) (de_gint T.c_MOST_MOVES rfl))))) (dss_one (ds_raiseA (exa_BadMoves T) (by decide) (hr.mono (by decide)) rfl (L2N.takes_of rfl rfl rfl rfl) rfl (da_cons de_non da_nil))) dss_nil)
    (dss_cons (ds_par (i := 3) (j := 4) rfl sc_judge.nd rfl rfl (by decide) rfl rfl (dx_E (de_prop (de_var (pv 0)) T.g_Game T.cl Gboxes.1 Gboxes.2.1 (hr.mono (by decide)) Gboxes.2.2)) (dx_E (de_var (pv 1))) rfl)
    (dss_cons (ds_set (pg_name (i := 5) sc_judge.nd rfl (Or.inl rfl)) (dx_lst da_nil))
    (dss_cons (ds_for (passes_of rfl) rfl (di_enumA rfl T.b_enumerate (da_cons (de_var (pv 2)) da_nil)) (dg_tup rfl (dgs_cons (dg_name (pg_name (i := 6) sc_judge.nd rfl (Or.inl rfl))) (dgs_cons (dg_name (pg_name (i := 7) sc_judge.nd rfl (Or.inl rfl))) dgs_nil))) (dss_cons (ds_if (dt_not (dt_tru (de_call (cal_is_move T) (hr.mono (by decide)) rfl (L2N.takes_of rfl rfl rfl rfl) (da_cons (de_var (pv 3)) (da_cons (de_var (pv 0)) (da_cons (de_var (pv 4)) (da_cons (de_var (pv 7)) da_nil)))) rfl (len_cons (len_cons (len_cons (len_cons len_nil))))))) (dss_one (ds_raiseA (exa_BadMoves T) (by decide) (hr.mono (by decide)) rfl (L2N.takes_of rfl rfl rfl rfl) rfl (da_cons (de_var (pv 6)) da_nil))) dss_nil)
    (dss_cons (ds_set (pg_name (i := 8) sc_judge.nd rfl (Or.inl rfl)) (dx_E (de_call (cal_winner_now T) (hr.mono (by decide)) rfl (L2N.takes_of rfl rfl rfl rfl) (da_cons (de_var (pv 3)) (da_cons (de_var (pv 0)) (da_cons (de_var (pv 4)) da_nil))) rfl (len_cons (len_cons (len_cons len_nil))))))
    (dss_cons (ds_set (pg_name (i := 3) sc_judge.nd rfl (Or.inl rfl)) (dx_E (de_call (cal_behind T) (hr.mono (by decide)) rfl (L2N.takes_of rfl rfl rfl rfl) (da_cons (de_var (pv 3)) (da_cons (de_var (pv 7)) da_nil)) rfl (len_cons (len_cons len_nil)))))
    (dss_cons (ds_set (pg_name (i := 4) sc_judge.nd rfl (Or.inl rfl)) (dx_E (de_call (cal_turn_behind T) (hr.mono (by decide)) rfl (L2N.takes_of rfl rfl rfl rfl) (da_cons (de_var (pv 3)) (da_cons (de_var (pv 4)) da_nil)) rfl (len_cons (len_cons len_nil)))))
    (dss_one (ds_if (dt_eq hr.units (de_call (cal_winner_now T) (hr.mono (by decide)) rfl (L2N.takes_of rfl rfl rfl rfl) (da_cons (de_var (pv 3)) (da_cons (de_var (pv 0)) (da_cons (de_var (pv 4)) da_nil))) rfl (len_cons (len_cons (len_cons len_nil)))) (de_var (pv 8))) (dss_one (ds_app (pe_bm PySem.F.plainAttrs_list PySem.F.slot_list_append PySem.F.type_list_append mt_append (pv 5) (pa_cons de_str pa_nil)))) (dss_one (ds_app (pe_bm PySem.F.plainAttrs_list PySem.F.slot_list_append PySem.F.type_list_append mt_append (pv 5) (pa_cons de_str pa_nil)))))))))))
    (dss_frz 5 (dss_one (ds_ret (de_var (pv 5))))))))))
abbrev N_greatest_equal : List Str := ["many", "take", "strike", "first", "left", "found", "bounds"]
theorem sc_greatest_equal : FnScope ["many", "take", "strike", "first", "left", "found", "bounds"] ["many", "take", "strike", "first"] (defScope s_greatest_equal) := ⟨rfl, rfl, rfl, by decide +kernel, rfl, by decide +kernel, by decide +kernel⟩
theorem cal_greatest_equal (T : Txt w K mg base TT C CM) : Callee P w K mg base TT 4 "greatest_equal" 4 F_greatest_equal := by
  exact T.d_greatest_equal.cal sc_greatest_equal rfl fun f cdv A outer s H E W hr => (dss_cons (ds_if (dt_not (dt_tru (de_call (cal_is_from T) (hr.mono (by decide)) rfl (L2N.takes_of rfl rfl rfl rfl) (da_cons (de_var (pv 0)) (da_cons de_int (da_cons (de_gint T.c_MOST_MANY rfl) da_nil))) rfl (len_cons (len_cons (len_cons len_nil)))))) (dss_one (ds_raise (T.e_BadMany).choose_spec rfl (L2N.takes_of rfl rfl rfl rfl) rfl)) dss_nil)
    (dss_cons (ds_expr (de_call (cal_check_take T) (hr.mono (by decide)) rfl (L2N.takes_of rfl rfl rfl rfl) (da_cons (de_var (pv 1)) da_nil) rfl (len_cons len_nil)))
    (dss_cons (ds_expr (de_call (cal_check_strike T) (hr.mono (by decide)) rfl (L2N.takes_of rfl rfl rfl rfl) (da_cons (de_var (pv 2)) da_nil) rfl (len_cons len_nil)))
    (dss_cons (ds_expr (de_call (cal_check_first T) (hr.mono (by decide)) rfl (L2N.takes_of rfl rfl rfl rfl) (da_cons (de_var (pv 3)) da_nil) rfl (len_cons len_nil)))
    (dss_cons (ds_set (pg_name (i := 4) sc_greatest_equal.nd rfl (Or.inl rfl)) (dx_E (de_var (pv 0))))
    (dss_cons (ds_if (dt_eq hr.units (de_var (pv 3)) de_str) (dss_one (ds_aug (i := 4) sc_greatest_equal.nd rfl (Or.inl rfl) (de_var (pv 2)) ip_sub)) dss_nil)
    (dss_cons (ds_set (pg_name (i := 5) sc_greatest_equal.nd rfl (Or.inl rfl)) (dx_lst (da_cons de_int da_nil)))
    (dss_cons (ds_for (passes_of rfl) rfl (di_seq (de_call (cal_bounds_of T) (hr.mono (by decide)) rfl (L2N.takes_of rfl rfl rfl rfl) (da_cons (de_var (pv 4)) (da_cons (de_var (pv 1)) (da_cons (de_var (pv 2)) da_nil))) rfl (len_cons (len_cons (len_cons len_nil))))) (dg_name (pg_name (i := 6) sc_greatest_equal.nd rfl (Or.inl rfl))) (dss_one (ds_app (pe_bm PySem.F.plainAttrs_list PySem.F.slot_list_append PySem.F.type_list_append mt_append (pv 5) (pa_cons (de_fdiv (de_ix (de_var (pv 6)) (de_neg de_int)) (de_len rfl T.b_len (da_cons (de_var (pv 6)) da_nil))) pa_nil)))))
    (dss_frz 5 (dss_one (ds_ret (de_max (hu_of hr) rfl rfl T.b_max (da_cons (de_var (pv 5)) da_nil)))))))))))))
abbrev N_number_at : List Str := ["words", "line", "place", "most", "word", "fine", "sign"]
theorem sc_number_at : FnScope ["words", "line", "place", "most", "word", "fine", "sign"] ["words", "line", "place", "most"] (defScope s_number_at) := ⟨rfl, rfl, rfl, by decide +kernel, rfl, by decide +kernel, by decide +kernel⟩
theorem cal_number_at (T : Txt w K mg base TT C CM) : Callee P w K mg base TT 3 "number_at" 4 F_number_at := by
  exact T.d_number_at.cal sc_number_at rfl fun f cdv A outer s H E W hr => (dss_cons (ds_if (dt_ge (de_var (pv 2)) (de_len rfl T.b_len (da_cons (de_var (pv 0)) da_nil))) (dss_one (ds_raiseA (exa_InvalidText T) (by decide) (hr.mono (by decide)) rfl (L2N.takes_of rfl rfl rfl rfl) rfl (da_cons (de_var (pv 1)) (da_cons (de_add (de_var (pv 2)) de_int) da_nil)))) dss_nil)
    (dss_cons (ds_set (pg_name (i := 4) sc_number_at.nd rfl (Or.inl rfl)) (dx_E (de_ix (de_var (pv 0)) (de_var (pv 2)))))
    (dss_cons (ds_set (pg_name (i := 5) sc_number_at.nd rfl (Or.inl rfl)) (dx_E (de_and (de_chain op_le op_le opd_cmp opd_cmp de_int (de_len rfl T.b_len (da_cons (de_var (pv 4)) da_nil)) (de_gint T.c_MOST_FIGURES rfl)) (de_one (de_ne hr.units (de_ix (de_var (pv 4)) de_int) de_str)))))
    (dss_cons (ds_for (passes_of rfl) rfl (di_str (de_var (pv 4))) (dg_name (pg_name (i := 6) sc_number_at.nd rfl (Or.inl rfl))) (dss_one (ds_if (dt_notIn (de_var (pv 6)) de_str) (dss_one (ds_set (pg_name (i := 5) sc_number_at.nd rfl (Or.inl rfl)) (dx_E de_bl))) dss_nil)))
    (dss_cons (ds_if (PW.pt (dw_or (dt_not (dt_tru (de_var (pv 5)))) (dw_or1 (dt_gt (de_intS rfl T.b_int (da_cons (de_var (pv 4)) da_nil)) (de_var (pv 3)))))) (dss_one (ds_raiseA (exa_InvalidText T) (by decide) (hr.mono (by decide)) rfl (L2N.takes_of rfl rfl rfl rfl) rfl (da_cons (de_var (pv 1)) (da_cons (de_add (de_var (pv 2)) de_int) da_nil)))) dss_nil)
    (dss_one (ds_ret (de_intS rfl T.b_int (da_cons (de_var (pv 4)) da_nil)))))))))
abbrev N_words_at : List Str := ["rows", "line", "name", "words"]
theorem sc_words_at : FnScope ["rows", "line", "name", "words"] ["rows", "line", "name"] (defScope s_words_at) := ⟨rfl, rfl, rfl, by decide +kernel, rfl, by decide +kernel, by decide +kernel⟩
theorem cal_words_at (T : Txt w K mg base TT C CM) : Callee P w K mg base TT 3 "words_at" 3 F_words_at := by
  exact T.d_words_at.cal sc_words_at rfl fun f cdv A outer s H E W hr => (dss_cons (ds_if (dt_gt (de_var (pv 1)) (de_len rfl T.b_len (da_cons (de_var (pv 0)) da_nil))) (dss_one (ds_raiseA (exa_InvalidText T) (by decide) (hr.mono (by decide)) rfl (L2N.takes_of rfl rfl rfl rfl) rfl (da_cons (de_var (pv 1)) (da_cons de_int da_nil)))) dss_nil)
    (dss_cons (ds_set (pg_name (i := 3) sc_words_at.nd rfl (Or.inl rfl)) (dx_E (de_ix (de_var (pv 0)) (de_sub (de_var (pv 1)) de_int))))
    (dss_cons (ds_if (dt_ne hr.units (de_slice (de_var (pv 3)) do_none (do_some de_int)) (de_X (dx_lst (da_cons (de_var (pv 2)) da_nil)))) (dss_one (ds_raiseA (exa_InvalidText T) (by decide) (hr.mono (by decide)) rfl (L2N.takes_of rfl rfl rfl rfl) rfl (da_cons (de_var (pv 1)) (da_cons de_int da_nil)))) dss_nil)
    (dss_one (ds_ret (de_var (pv 3)))))))
abbrev N_read_one : List Str := ["rows", "line", "name", "most", "words", "number"]
theorem sc_read_one : FnScope ["rows", "line", "name", "most", "words", "number"] ["rows", "line", "name", "most"] (defScope s_read_one) := ⟨rfl, rfl, rfl, by decide +kernel, rfl, by decide +kernel, by decide +kernel⟩
theorem cal_read_one (T : Txt w K mg base TT C CM) : Callee P w K mg base TT 4 "read_one" 4 F_read_one := by
  exact T.d_read_one.cal sc_read_one rfl fun f cdv A outer s H E W hr => (dss_cons (ds_set (pg_name (i := 4) sc_read_one.nd rfl (Or.inl rfl)) (dx_E (de_call (cal_words_at T) (hr.mono (by decide)) rfl (L2N.takes_of rfl rfl rfl rfl) (da_cons (de_var (pv 0)) (da_cons (de_var (pv 1)) (da_cons (de_var (pv 2)) da_nil))) rfl (len_cons (len_cons (len_cons len_nil))))))
    (dss_cons (ds_set (pg_name (i := 5) sc_read_one.nd rfl (Or.inl rfl)) (dx_E (de_call (cal_number_at T) (hr.mono (by decide)) rfl (L2N.takes_of rfl rfl rfl rfl) (da_cons (de_var (pv 4)) (da_cons (de_var (pv 1)) (da_cons de_int (da_cons (de_var (pv 3)) da_nil)))) rfl (len_cons (len_cons (len_cons (len_cons len_nil)))))))
    (dss_cons (ds_if (dt_gt (de_len rfl T.b_len (da_cons (de_var (pv 4)) da_nil)) de_int) (dss_one (ds_raiseA (exa_InvalidText T) (by decide) (hr.mono (by decide)) rfl (L2N.takes_of rfl rfl rfl rfl) rfl (da_cons (de_var (pv 1)) (da_cons de_int da_nil)))) dss_nil)
    (dss_one (ds_ret (de_var (pv 5)))))))
abbrev N_read_game : List Str := ["text", "rows", "word", "line", "words", "boxes", "take", "strike"]
theorem sc_read_game : FnScope ["text", "rows", "word", "line", "words", "boxes", "take", "strike"] ["text"] (defScope s_read_game) := ⟨rfl, rfl, rfl, by decide +kernel, rfl, by decide +kernel, by decide +kernel⟩
theorem cal_read_game (T : Txt w K mg base TT C CM) : Callee P w K mg base TT 6 "read_game" 1 F_read_game := by
  obtain ⟨_, _, _, GM⟩ := mk_Game (P := P) (w := w) T
  exact T.d_read_game.cal sc_read_game rfl fun f cdv A outer s H E W hr => (dss_cons (ds_setLc (i := 1) (own := [("line", 3)]) rfl sc_read_game.nd rfl rfl (sw_true rfl rfl rfl (by decide +kernel)) (di_seq (de_split (de_var (pv 0)) de_str)) (blkOk_by (N := N_read_game) (sc := defScope s_read_game) (own := [("line", 3)]) (by decide +kernel)) (fun _ _ _ _ _ => (dg_name (pg_name (i := 3) sc_read_game.nd rfl (Or.inl rfl)))) (fun _ _ _ _ _ => dts_nil) (fun _ _ _ _ _ => (de_X (dx_lc (own := [("word", 2)]) rfl sc_read_game.nd (di_seq (de_split (de_var (pv 3)) de_str)) (blkOk_by (N := N_read_game) (sc := lcScope (asgE ((defBody s_read_game).getD 0 (.Pass ⟨0, 0, 0, 0⟩)))) (own := [("word", 2)]) (by decide +kernel)) (fun _ _ _ _ _ => (dg_name (pg_name (i := 2) sc_read_game.nd rfl (Or.inl rfl)))) (fun _ _ _ _ _ => (dts_one (dt_ne hr.units (de_var (pv 2)) de_str))) (fun _ _ _ _ _ => (de_var (pv 2)))))))
    (dss_frz 1 (dss_cons (ds_set (pg_name (i := 4) sc_read_game.nd rfl (Or.inl rfl)) (dx_E (de_call (cal_words_at T) (hr.mono (by decide)) rfl (L2N.takes_of rfl rfl rfl rfl) (da_cons (de_var (pv 1)) (da_cons de_int (da_cons de_str da_nil))) rfl (len_cons (len_cons (len_cons len_nil))))))
    (dss_cons (ds_set (pg_name (i := 5) sc_read_game.nd rfl (Or.inl rfl)) (dx_lst (da_cons (de_call (cal_number_at T) (hr.mono (by decide)) rfl (L2N.takes_of rfl rfl rfl rfl) (da_cons (de_var (pv 4)) (da_cons de_int (da_cons de_int (da_cons (de_gint T.c_MOST_SIZE rfl) da_nil)))) rfl (len_cons (len_cons (len_cons (len_cons len_nil))))) da_nil)))
    (dss_cons (ds_while 1000 (passes_of rfl) (dt_peek fun W0 H0 => (dt_lt (de_add (de_len rfl T.b_len (da_cons (de_var (pv 5)) da_nil)) de_int) (de_len rfl T.b_len (da_cons (de_var (pv 4)) da_nil)))) (dss_cons (ds_if (dt_peek fun W0 H0 => (dt_eq hr.units (de_len rfl T.b_len (da_cons (de_var (pv 5)) da_nil)) (de_gint T.c_MOST_BOXES rfl))) (dss_one (ds_raiseA (exa_InvalidText T) (by decide) (hr.mono (by decide)) rfl (L2N.takes_of rfl rfl rfl rfl) rfl (da_cons de_int (da_cons (de_peek fun W0 H0 => (de_add (de_len rfl T.b_len (da_cons (de_var (pv 5)) da_nil)) de_int)) da_nil)))) dss_nil)
    (dss_one (ds_app (pe_bm PySem.F.plainAttrs_list PySem.F.slot_list_append PySem.F.type_list_append mt_append (pv 5) (pa_cons (de_call (cal_number_at T) (hr.mono (by decide)) rfl (L2N.takes_of rfl rfl rfl rfl) (da_cons (de_var (pv 4)) (da_cons de_int (da_cons (de_peek fun W0 H0 => (de_add (de_len rfl T.b_len (da_cons (de_var (pv 5)) da_nil)) de_int)) (da_cons (de_gint T.c_MOST_SIZE rfl) da_nil)))) rfl (len_cons (len_cons (len_cons (len_cons len_nil))))) pa_nil))))))
    (dss_cons (ds_set (pg_name (i := 6) sc_read_game.nd rfl (Or.inl rfl)) (dx_E (de_call (cal_read_one T) (hr.mono (by decide)) rfl (L2N.takes_of rfl rfl rfl rfl) (da_cons (de_var (pv 1)) (da_cons de_int (da_cons de_str (da_cons (de_gint T.c_MOST_SIZE rfl) da_nil)))) rfl (len_cons (len_cons (len_cons (len_cons len_nil)))))))
    (dss_cons (ds_set (pg_name (i := 7) sc_read_game.nd rfl (Or.inl rfl)) (dx_E (de_call (cal_read_one T) (hr.mono (by decide)) rfl (L2N.takes_of rfl rfl rfl rfl) (da_cons (de_var (pv 1)) (da_cons de_int (da_cons de_str (da_cons (de_gint T.c_MOST_STRIKE rfl) da_nil)))) rfl (len_cons (len_cons (len_cons (len_cons len_nil)))))))
    (dss_cons (ds_if (dt_gt (de_len rfl T.b_len (da_cons (de_var (pv 1)) da_nil)) de_int) (dss_one (ds_raiseA (exa_InvalidText T) (by decide) (hr.mono (by decide)) rfl (L2N.takes_of rfl rfl rfl rfl) rfl (da_cons de_int (da_cons de_int da_nil)))) dss_nil)
    (dss_frz 5 (dss_one (ds_ret (de_make GM.1 GM.2.1 (hr.mono (by decide)) rfl T.g_Game GM.2.2 (fun _ _ _ _ => rfl) (L2N.takes_of rfl rfl rfl rfl) (da_cons (de_tuple rfl T.b_tuple (da_cons (de_var (pv 5)) da_nil)) (da_cons (de_var (pv 6)) (da_cons (de_var (pv 7)) da_nil))) (len_cons (len_cons (len_cons len_nil)))))))))))))))
abbrev N_law_mix : List Str := ["_law_script", "_law_seed", "_law_state", "_law_cell"]
theorem sc_law_mix : FnScope ["_law_script", "_law_seed", "_law_state", "_law_cell"] ["_law_script", "_law_seed"] (defScope s_law_mix) := ⟨rfl, rfl, rfl, by decide +kernel, rfl, by decide +kernel, by decide +kernel⟩
theorem cal_law_mix (T : Txt w K mg base TT C CM) : Callee P w K mg base TT 1 "_law_mix" 2 F_law_mix := by
  exact T.d_law_mix.cal sc_law_mix rfl fun f cdv A outer s H E W hr => (dss_cons (ds_set (pg_name (i := 2) sc_law_mix.nd rfl (Or.inl rfl)) (dx_E (de_var (pv 1))))
    (dss_cons (ds_for (passes_of rfl) rfl (di_seq (de_var (pv 0))) (dg_name (pg_name (i := 3) sc_law_mix.nd rfl (Or.inl rfl))) (dss_one (ds_set (pg_name (i := 2) sc_law_mix.nd rfl (Or.inl rfl)) (dx_E (de_mod (de_intc rfl T.b_int (da_cons (de_add (de_add (de_mul (de_var (pv 2)) de_int) (de_mod (de_intc rfl T.b_int (da_cons (de_var (pv 3)) da_nil)) de_int)) de_int) da_nil)) de_int)))))
    (dss_one (ds_ret (de_src (de_var (pv 2)) (dx_list rfl T.b_list (da_cons (de_var (pv 0)) da_nil)) de_int)))))
abbrev N_law_which : List Str := ["_law_e", "_law_one", "_law_k"]
theorem sc_law_which : FnScope ["_law_e", "_law_one", "_law_k"] ["_law_e"] (defScope s_law_which) := ⟨rfl, rfl, rfl, by decide +kernel, rfl, by decide +kernel, by decide +kernel⟩
theorem cal_law_which (T : Txt w K mg base TT C CM) : CalleeH P w K mg base TT 1 "_law_which" F_law_which := by
  exact T.d_law_which.calH sc_law_which rfl rfl fun a oe cls d hz hf f cdv A outer s H E W hot => (dss_cons (ds_set (pg_name (i := 1) sc_law_which.nd rfl (Or.inr rfl)) (dx_E (de_X (dx_lst (da_cons (de_isEH List.mem_cons_self hz hf rfl T.b_isinstance T.h_BadBoxes.choose_spec (is_cons (is_of T.xa_BadBoxes T.pr_BadBoxes.1) (is_cons (is_of T.xa_BadTake T.pr_BadBoxes.2.1) (is_cons (is_of T.xa_BadStrike T.pr_BadBoxes.2.2.1) (is_cons (is_of T.xa_BadGame T.pr_BadBoxes.2.2.2.1) (is_cons (is_of T.xa_BadFirst T.pr_BadBoxes.2.2.2.2.1) (is_cons (is_of T.xa_BadTurns T.pr_BadBoxes.2.2.2.2.2.1) (is_cons (is_of T.xa_TooLarge T.pr_BadBoxes.2.2.2.2.2.2.1) (is_cons (is_of T.xa_BadMany T.pr_BadBoxes.2.2.2.2.2.2.2.1) (is_cons (is_of T.xa_BadMoves T.pr_BadBoxes.2.2.2.2.2.2.2.2.1) (is_cons (is_of T.xa_NotTurn T.pr_BadBoxes.2.2.2.2.2.2.2.2.2.1) (is_cons (is_of T.xa_BadTaking T.pr_BadBoxes.2.2.2.2.2.2.2.2.2.2.1) (is_cons (is_of T.xa_BadStriking T.pr_BadBoxes.2.2.2.2.2.2.2.2.2.2.2.1) (is_cons (is_of T.xa_InvalidText T.pr_BadBoxes.2.2.2.2.2.2.2.2.2.2.2.2) is_nil))))))))))))) (pv 0) (pe_glob (v := .ref _) rfl T.h_BadBoxes.choose_spec rfl)) (da_cons (de_isEH List.mem_cons_self hz hf rfl T.b_isinstance T.h_BadTake.choose_spec (is_cons (is_of T.xa_BadBoxes T.pr_BadTake.1) (is_cons (is_of T.xa_BadTake T.pr_BadTake.2.1) (is_cons (is_of T.xa_BadStrike T.pr_BadTake.2.2.1) (is_cons (is_of T.xa_BadGame T.pr_BadTake.2.2.2.1) (is_cons (is_of T.xa_BadFirst T.pr_BadTake.2.2.2.2.1) (is_cons (is_of T.xa_BadTurns T.pr_BadTake.2.2.2.2.2.1) (is_cons (is_of T.xa_TooLarge T.pr_BadTake.2.2.2.2.2.2.1) (is_cons (is_of T.xa_BadMany T.pr_BadTake.2.2.2.2.2.2.2.1) (is_cons (is_of T.xa_BadMoves T.pr_BadTake.2.2.2.2.2.2.2.2.1) (is_cons (is_of T.xa_NotTurn T.pr_BadTake.2.2.2.2.2.2.2.2.2.1) (is_cons (is_of T.xa_BadTaking T.pr_BadTake.2.2.2.2.2.2.2.2.2.2.1) (is_cons (is_of T.xa_BadStriking T.pr_BadTake.2.2.2.2.2.2.2.2.2.2.2.1) (is_cons (is_of T.xa_InvalidText T.pr_BadTake.2.2.2.2.2.2.2.2.2.2.2.2) is_nil))))))))))))) (pv 0) (pe_glob (v := .ref _) rfl T.h_BadTake.choose_spec rfl)) (da_cons (de_isEH List.mem_cons_self hz hf rfl T.b_isinstance T.h_BadStrike.choose_spec (is_cons (is_of T.xa_BadBoxes T.pr_BadStrike.1) (is_cons (is_of T.xa_BadTake T.pr_BadStrike.2.1) (is_cons (is_of T.xa_BadStrike T.pr_BadStrike.2.2.1) (is_cons (is_of T.xa_BadGame T.pr_BadStrike.2.2.2.1) (is_cons (is_of T.xa_BadFirst T.pr_BadStrike.2.2.2.2.1) (is_cons (is_of T.xa_BadTurns T.pr_BadStrike.2.2.2.2.2.1) (is_cons (is_of T.xa_TooLarge T.pr_BadStrike.2.2.2.2.2.2.1) (is_cons (is_of T.xa_BadMany T.pr_BadStrike.2.2.2.2.2.2.2.1) (is_cons (is_of T.xa_BadMoves T.pr_BadStrike.2.2.2.2.2.2.2.2.1) (is_cons (is_of T.xa_NotTurn T.pr_BadStrike.2.2.2.2.2.2.2.2.2.1) (is_cons (is_of T.xa_BadTaking T.pr_BadStrike.2.2.2.2.2.2.2.2.2.2.1) (is_cons (is_of T.xa_BadStriking T.pr_BadStrike.2.2.2.2.2.2.2.2.2.2.2.1) (is_cons (is_of T.xa_InvalidText T.pr_BadStrike.2.2.2.2.2.2.2.2.2.2.2.2) is_nil))))))))))))) (pv 0) (pe_glob (v := .ref _) rfl T.h_BadStrike.choose_spec rfl)) (da_cons (de_isEH List.mem_cons_self hz hf rfl T.b_isinstance T.h_BadGame.choose_spec (is_cons (is_of T.xa_BadBoxes T.pr_BadGame.1) (is_cons (is_of T.xa_BadTake T.pr_BadGame.2.1) (is_cons (is_of T.xa_BadStrike T.pr_BadGame.2.2.1) (is_cons (is_of T.xa_BadGame T.pr_BadGame.2.2.2.1) (is_cons (is_of T.xa_BadFirst T.pr_BadGame.2.2.2.2.1) (is_cons (is_of T.xa_BadTurns T.pr_BadGame.2.2.2.2.2.1) (is_cons (is_of T.xa_TooLarge T.pr_BadGame.2.2.2.2.2.2.1) (is_cons (is_of T.xa_BadMany T.pr_BadGame.2.2.2.2.2.2.2.1) (is_cons (is_of T.xa_BadMoves T.pr_BadGame.2.2.2.2.2.2.2.2.1) (is_cons (is_of T.xa_NotTurn T.pr_BadGame.2.2.2.2.2.2.2.2.2.1) (is_cons (is_of T.xa_BadTaking T.pr_BadGame.2.2.2.2.2.2.2.2.2.2.1) (is_cons (is_of T.xa_BadStriking T.pr_BadGame.2.2.2.2.2.2.2.2.2.2.2.1) (is_cons (is_of T.xa_InvalidText T.pr_BadGame.2.2.2.2.2.2.2.2.2.2.2.2) is_nil))))))))))))) (pv 0) (pe_glob (v := .ref _) rfl T.h_BadGame.choose_spec rfl)) da_nil))))))))
    (dss_cons (ds_set (pg_name (i := 1) sc_law_which.nd rfl (Or.inr rfl)) (dx_E (de_add (de_var (pv 1)) (de_X (dx_lst (da_cons (de_isEH List.mem_cons_self hz hf rfl T.b_isinstance T.h_BadFirst.choose_spec (is_cons (is_of T.xa_BadBoxes T.pr_BadFirst.1) (is_cons (is_of T.xa_BadTake T.pr_BadFirst.2.1) (is_cons (is_of T.xa_BadStrike T.pr_BadFirst.2.2.1) (is_cons (is_of T.xa_BadGame T.pr_BadFirst.2.2.2.1) (is_cons (is_of T.xa_BadFirst T.pr_BadFirst.2.2.2.2.1) (is_cons (is_of T.xa_BadTurns T.pr_BadFirst.2.2.2.2.2.1) (is_cons (is_of T.xa_TooLarge T.pr_BadFirst.2.2.2.2.2.2.1) (is_cons (is_of T.xa_BadMany T.pr_BadFirst.2.2.2.2.2.2.2.1) (is_cons (is_of T.xa_BadMoves T.pr_BadFirst.2.2.2.2.2.2.2.2.1) (is_cons (is_of T.xa_NotTurn T.pr_BadFirst.2.2.2.2.2.2.2.2.2.1) (is_cons (is_of T.xa_BadTaking T.pr_BadFirst.2.2.2.2.2.2.2.2.2.2.1) (is_cons (is_of T.xa_BadStriking T.pr_BadFirst.2.2.2.2.2.2.2.2.2.2.2.1) (is_cons (is_of T.xa_InvalidText T.pr_BadFirst.2.2.2.2.2.2.2.2.2.2.2.2) is_nil))))))))))))) (pv 0) (pe_glob (v := .ref _) rfl T.h_BadFirst.choose_spec rfl)) (da_cons (de_isEH List.mem_cons_self hz hf rfl T.b_isinstance T.h_BadTurns.choose_spec (is_cons (is_of T.xa_BadBoxes T.pr_BadTurns.1) (is_cons (is_of T.xa_BadTake T.pr_BadTurns.2.1) (is_cons (is_of T.xa_BadStrike T.pr_BadTurns.2.2.1) (is_cons (is_of T.xa_BadGame T.pr_BadTurns.2.2.2.1) (is_cons (is_of T.xa_BadFirst T.pr_BadTurns.2.2.2.2.1) (is_cons (is_of T.xa_BadTurns T.pr_BadTurns.2.2.2.2.2.1) (is_cons (is_of T.xa_TooLarge T.pr_BadTurns.2.2.2.2.2.2.1) (is_cons (is_of T.xa_BadMany T.pr_BadTurns.2.2.2.2.2.2.2.1) (is_cons (is_of T.xa_BadMoves T.pr_BadTurns.2.2.2.2.2.2.2.2.1) (is_cons (is_of T.xa_NotTurn T.pr_BadTurns.2.2.2.2.2.2.2.2.2.1) (is_cons (is_of T.xa_BadTaking T.pr_BadTurns.2.2.2.2.2.2.2.2.2.2.1) (is_cons (is_of T.xa_BadStriking T.pr_BadTurns.2.2.2.2.2.2.2.2.2.2.2.1) (is_cons (is_of T.xa_InvalidText T.pr_BadTurns.2.2.2.2.2.2.2.2.2.2.2.2) is_nil))))))))))))) (pv 0) (pe_glob (v := .ref _) rfl T.h_BadTurns.choose_spec rfl)) (da_cons (de_isEH List.mem_cons_self hz hf rfl T.b_isinstance T.h_TooLarge.choose_spec (is_cons (is_of T.xa_BadBoxes T.pr_TooLarge.1) (is_cons (is_of T.xa_BadTake T.pr_TooLarge.2.1) (is_cons (is_of T.xa_BadStrike T.pr_TooLarge.2.2.1) (is_cons (is_of T.xa_BadGame T.pr_TooLarge.2.2.2.1) (is_cons (is_of T.xa_BadFirst T.pr_TooLarge.2.2.2.2.1) (is_cons (is_of T.xa_BadTurns T.pr_TooLarge.2.2.2.2.2.1) (is_cons (is_of T.xa_TooLarge T.pr_TooLarge.2.2.2.2.2.2.1) (is_cons (is_of T.xa_BadMany T.pr_TooLarge.2.2.2.2.2.2.2.1) (is_cons (is_of T.xa_BadMoves T.pr_TooLarge.2.2.2.2.2.2.2.2.1) (is_cons (is_of T.xa_NotTurn T.pr_TooLarge.2.2.2.2.2.2.2.2.2.1) (is_cons (is_of T.xa_BadTaking T.pr_TooLarge.2.2.2.2.2.2.2.2.2.2.1) (is_cons (is_of T.xa_BadStriking T.pr_TooLarge.2.2.2.2.2.2.2.2.2.2.2.1) (is_cons (is_of T.xa_InvalidText T.pr_TooLarge.2.2.2.2.2.2.2.2.2.2.2.2) is_nil))))))))))))) (pv 0) (pe_glob (v := .ref _) rfl T.h_TooLarge.choose_spec rfl)) da_nil))))))))
    (dss_cons (ds_set (pg_name (i := 1) sc_law_which.nd rfl (Or.inr rfl)) (dx_E (de_add (de_var (pv 1)) (de_X (dx_lst (da_cons (de_isEH List.mem_cons_self hz hf rfl T.b_isinstance T.h_BadMany.choose_spec (is_cons (is_of T.xa_BadBoxes T.pr_BadMany.1) (is_cons (is_of T.xa_BadTake T.pr_BadMany.2.1) (is_cons (is_of T.xa_BadStrike T.pr_BadMany.2.2.1) (is_cons (is_of T.xa_BadGame T.pr_BadMany.2.2.2.1) (is_cons (is_of T.xa_BadFirst T.pr_BadMany.2.2.2.2.1) (is_cons (is_of T.xa_BadTurns T.pr_BadMany.2.2.2.2.2.1) (is_cons (is_of T.xa_TooLarge T.pr_BadMany.2.2.2.2.2.2.1) (is_cons (is_of T.xa_BadMany T.pr_BadMany.2.2.2.2.2.2.2.1) (is_cons (is_of T.xa_BadMoves T.pr_BadMany.2.2.2.2.2.2.2.2.1) (is_cons (is_of T.xa_NotTurn T.pr_BadMany.2.2.2.2.2.2.2.2.2.1) (is_cons (is_of T.xa_BadTaking T.pr_BadMany.2.2.2.2.2.2.2.2.2.2.1) (is_cons (is_of T.xa_BadStriking T.pr_BadMany.2.2.2.2.2.2.2.2.2.2.2.1) (is_cons (is_of T.xa_InvalidText T.pr_BadMany.2.2.2.2.2.2.2.2.2.2.2.2) is_nil))))))))))))) (pv 0) (pe_glob (v := .ref _) rfl T.h_BadMany.choose_spec rfl)) (da_cons (de_isEH List.mem_cons_self hz hf rfl T.b_isinstance T.h_BadMoves.choose_spec (is_cons (is_of T.xa_BadBoxes T.pr_BadMoves.1) (is_cons (is_of T.xa_BadTake T.pr_BadMoves.2.1) (is_cons (is_of T.xa_BadStrike T.pr_BadMoves.2.2.1) (is_cons (is_of T.xa_BadGame T.pr_BadMoves.2.2.2.1) (is_cons (is_of T.xa_BadFirst T.pr_BadMoves.2.2.2.2.1) (is_cons (is_of T.xa_BadTurns T.pr_BadMoves.2.2.2.2.2.1) (is_cons (is_of T.xa_TooLarge T.pr_BadMoves.2.2.2.2.2.2.1) (is_cons (is_of T.xa_BadMany T.pr_BadMoves.2.2.2.2.2.2.2.1) (is_cons (is_of T.xa_BadMoves T.pr_BadMoves.2.2.2.2.2.2.2.2.1) (is_cons (is_of T.xa_NotTurn T.pr_BadMoves.2.2.2.2.2.2.2.2.2.1) (is_cons (is_of T.xa_BadTaking T.pr_BadMoves.2.2.2.2.2.2.2.2.2.2.1) (is_cons (is_of T.xa_BadStriking T.pr_BadMoves.2.2.2.2.2.2.2.2.2.2.2.1) (is_cons (is_of T.xa_InvalidText T.pr_BadMoves.2.2.2.2.2.2.2.2.2.2.2.2) is_nil))))))))))))) (pv 0) (pe_glob (v := .ref _) rfl T.h_BadMoves.choose_spec rfl)) (da_cons (de_isEH List.mem_cons_self hz hf rfl T.b_isinstance T.h_NotTurn.choose_spec (is_cons (is_of T.xa_BadBoxes T.pr_NotTurn.1) (is_cons (is_of T.xa_BadTake T.pr_NotTurn.2.1) (is_cons (is_of T.xa_BadStrike T.pr_NotTurn.2.2.1) (is_cons (is_of T.xa_BadGame T.pr_NotTurn.2.2.2.1) (is_cons (is_of T.xa_BadFirst T.pr_NotTurn.2.2.2.2.1) (is_cons (is_of T.xa_BadTurns T.pr_NotTurn.2.2.2.2.2.1) (is_cons (is_of T.xa_TooLarge T.pr_NotTurn.2.2.2.2.2.2.1) (is_cons (is_of T.xa_BadMany T.pr_NotTurn.2.2.2.2.2.2.2.1) (is_cons (is_of T.xa_BadMoves T.pr_NotTurn.2.2.2.2.2.2.2.2.1) (is_cons (is_of T.xa_NotTurn T.pr_NotTurn.2.2.2.2.2.2.2.2.2.1) (is_cons (is_of T.xa_BadTaking T.pr_NotTurn.2.2.2.2.2.2.2.2.2.2.1) (is_cons (is_of T.xa_BadStriking T.pr_NotTurn.2.2.2.2.2.2.2.2.2.2.2.1) (is_cons (is_of T.xa_InvalidText T.pr_NotTurn.2.2.2.2.2.2.2.2.2.2.2.2) is_nil))))))))))))) (pv 0) (pe_glob (v := .ref _) rfl T.h_NotTurn.choose_spec rfl)) da_nil))))))))
    (dss_cons (ds_set (pg_name (i := 1) sc_law_which.nd rfl (Or.inr rfl)) (dx_E (de_add (de_var (pv 1)) (de_X (dx_lst (da_cons (de_isEH List.mem_cons_self hz hf rfl T.b_isinstance T.h_BadTaking.choose_spec (is_cons (is_of T.xa_BadBoxes T.pr_BadTaking.1) (is_cons (is_of T.xa_BadTake T.pr_BadTaking.2.1) (is_cons (is_of T.xa_BadStrike T.pr_BadTaking.2.2.1) (is_cons (is_of T.xa_BadGame T.pr_BadTaking.2.2.2.1) (is_cons (is_of T.xa_BadFirst T.pr_BadTaking.2.2.2.2.1) (is_cons (is_of T.xa_BadTurns T.pr_BadTaking.2.2.2.2.2.1) (is_cons (is_of T.xa_TooLarge T.pr_BadTaking.2.2.2.2.2.2.1) (is_cons (is_of T.xa_BadMany T.pr_BadTaking.2.2.2.2.2.2.2.1) (is_cons (is_of T.xa_BadMoves T.pr_BadTaking.2.2.2.2.2.2.2.2.1) (is_cons (is_of T.xa_NotTurn T.pr_BadTaking.2.2.2.2.2.2.2.2.2.1) (is_cons (is_of T.xa_BadTaking T.pr_BadTaking.2.2.2.2.2.2.2.2.2.2.1) (is_cons (is_of T.xa_BadStriking T.pr_BadTaking.2.2.2.2.2.2.2.2.2.2.2.1) (is_cons (is_of T.xa_InvalidText T.pr_BadTaking.2.2.2.2.2.2.2.2.2.2.2.2) is_nil))))))))))))) (pv 0) (pe_glob (v := .ref _) rfl T.h_BadTaking.choose_spec rfl)) (da_cons (de_isEH List.mem_cons_self hz hf rfl T.b_isinstance T.h_BadStriking.choose_spec (is_cons (is_of T.xa_BadBoxes T.pr_BadStriking.1) (is_cons (is_of T.xa_BadTake T.pr_BadStriking.2.1) (is_cons (is_of T.xa_BadStrike T.pr_BadStriking.2.2.1) (is_cons (is_of T.xa_BadGame T.pr_BadStriking.2.2.2.1) (is_cons (is_of T.xa_BadFirst T.pr_BadStriking.2.2.2.2.1) (is_cons (is_of T.xa_BadTurns T.pr_BadStriking.2.2.2.2.2.1) (is_cons (is_of T.xa_TooLarge T.pr_BadStriking.2.2.2.2.2.2.1) (is_cons (is_of T.xa_BadMany T.pr_BadStriking.2.2.2.2.2.2.2.1) (is_cons (is_of T.xa_BadMoves T.pr_BadStriking.2.2.2.2.2.2.2.2.1) (is_cons (is_of T.xa_NotTurn T.pr_BadStriking.2.2.2.2.2.2.2.2.2.1) (is_cons (is_of T.xa_BadTaking T.pr_BadStriking.2.2.2.2.2.2.2.2.2.2.1) (is_cons (is_of T.xa_BadStriking T.pr_BadStriking.2.2.2.2.2.2.2.2.2.2.2.1) (is_cons (is_of T.xa_InvalidText T.pr_BadStriking.2.2.2.2.2.2.2.2.2.2.2.2) is_nil))))))))))))) (pv 0) (pe_glob (v := .ref _) rfl T.h_BadStriking.choose_spec rfl)) (da_cons (de_isEH List.mem_cons_self hz hf rfl T.b_isinstance T.h_InvalidText.choose_spec (is_cons (is_of T.xa_BadBoxes T.pr_InvalidText.1) (is_cons (is_of T.xa_BadTake T.pr_InvalidText.2.1) (is_cons (is_of T.xa_BadStrike T.pr_InvalidText.2.2.1) (is_cons (is_of T.xa_BadGame T.pr_InvalidText.2.2.2.1) (is_cons (is_of T.xa_BadFirst T.pr_InvalidText.2.2.2.2.1) (is_cons (is_of T.xa_BadTurns T.pr_InvalidText.2.2.2.2.2.1) (is_cons (is_of T.xa_TooLarge T.pr_InvalidText.2.2.2.2.2.2.1) (is_cons (is_of T.xa_BadMany T.pr_InvalidText.2.2.2.2.2.2.2.1) (is_cons (is_of T.xa_BadMoves T.pr_InvalidText.2.2.2.2.2.2.2.2.1) (is_cons (is_of T.xa_NotTurn T.pr_InvalidText.2.2.2.2.2.2.2.2.2.1) (is_cons (is_of T.xa_BadTaking T.pr_InvalidText.2.2.2.2.2.2.2.2.2.2.1) (is_cons (is_of T.xa_BadStriking T.pr_InvalidText.2.2.2.2.2.2.2.2.2.2.2.1) (is_cons (is_of T.xa_InvalidText T.pr_InvalidText.2.2.2.2.2.2.2.2.2.2.2.2) is_nil))))))))))))) (pv 0) (pe_glob (v := .ref _) rfl T.h_InvalidText.choose_spec rfl)) da_nil))))))))
    (dss_cons (ds_if (dt_not (dt_tru (de_isVH List.mem_cons_self hz hf rfl T.b_isinstance (ve_cons (ve_of T.xa_BadBoxes T.pv_ValueError.1) (ve_cons (ve_of T.xa_BadTake T.pv_ValueError.2.1) (ve_cons (ve_of T.xa_BadStrike T.pv_ValueError.2.2.1) (ve_cons (ve_of T.xa_BadGame T.pv_ValueError.2.2.2.1) (ve_cons (ve_of T.xa_BadFirst T.pv_ValueError.2.2.2.2.1) (ve_cons (ve_of T.xa_BadTurns T.pv_ValueError.2.2.2.2.2.1) (ve_cons (ve_of T.xa_TooLarge T.pv_ValueError.2.2.2.2.2.2.1) (ve_cons (ve_of T.xa_BadMany T.pv_ValueError.2.2.2.2.2.2.2.1) (ve_cons (ve_of T.xa_BadMoves T.pv_ValueError.2.2.2.2.2.2.2.2.1) (ve_cons (ve_of T.xa_NotTurn T.pv_ValueError.2.2.2.2.2.2.2.2.2.1) (ve_cons (ve_of T.xa_BadTaking T.pv_ValueError.2.2.2.2.2.2.2.2.2.2.1) (ve_cons (ve_of T.xa_BadStriking T.pv_ValueError.2.2.2.2.2.2.2.2.2.2.2.1) (ve_cons (ve_of T.xa_InvalidText T.pv_ValueError.2.2.2.2.2.2.2.2.2.2.2.2) ve_nil))))))))))))) (pv 0) (pe_bltn (v := .ty "ValueError") rfl T.b_ValueError (by decide +kernel) rfl)))) (dss_one (ds_ret (de_X (dx_lst da_nil)))) dss_nil)
    (dss_one (ds_ret (de_X (dx_lcH (own := [("_law_k", 2)]) ⟨_, hot, List.mem_cons_self⟩ sc_law_which.nd (di_range1H rfl T.b_range (da_cons de_int da_nil)) (blkOk_by (N := N_law_which) (sc := defScope s_law_which) (own := [("_law_k", 2)]) (by decide +kernel)) (fun _ _ _ _ _ => (dg_name (pg_name (i := 2) sc_law_which.nd rfl (Or.inl rfl)))) (fun _ _ _ _ _ => (dts_one (dt_tru (de_ix (de_var (pv 1)) (de_var (pv 2)))))) (fun _ _ _ _ _ => (de_var (pv 2))))))))))))
abbrev N_law_early : List Str := ["_law_kind", "_law_n", "_law_game"]
theorem sc_law_early : FnScope ["_law_kind", "_law_n", "_law_game"] ["_law_kind", "_law_n", "_law_game"] (defScope s_law_early) := ⟨rfl, rfl, rfl, by decide +kernel, rfl, by decide +kernel, by decide +kernel⟩
theorem cal_law_early (T : Txt w K mg base TT C CM) : Callee P w K mg base TT 7 "_law_early" 3 F_law_early := by
  obtain ⟨_, _, _, GM⟩ := mk_Game (P := P) (w := w) T
  exact T.d_law_early.cal sc_law_early rfl fun f cdv A outer s H E W hr => (dss_cons (ds_if (dt_eq hr.units (de_var (pv 0)) de_int) (dss_one (ds_expr (de_make GM.1 GM.2.1 (hr.mono (by decide)) rfl T.g_Game GM.2.2 (fun _ _ _ _ => rfl) (L2N.takes_of rfl rfl rfl rfl) (da_cons (de_tup (da_cons (de_var (pv 1)) (da_cons de_int da_nil))) (da_cons (de_var (pv 1)) (da_cons de_int da_nil))) (len_cons (len_cons (len_cons len_nil)))))) dss_nil)
    (dss_cons (ds_if (dt_eq hr.units (de_var (pv 0)) de_int) (dss_one (ds_expr (de_make GM.1 GM.2.1 (hr.mono (by decide)) rfl T.g_Game GM.2.2 (fun _ _ _ _ => rfl) (L2N.takes_of rfl rfl rfl rfl) (da_cons (de_tup (da_cons (de_var (pv 1)) da_nil)) (da_cons de_int (da_cons de_int da_nil))) (len_cons (len_cons (len_cons len_nil)))))) dss_nil)
    (dss_cons (ds_if (dt_eq hr.units (de_var (pv 0)) de_int) (dss_one (ds_expr (de_make GM.1 GM.2.1 (hr.mono (by decide)) rfl T.g_Game GM.2.2 (fun _ _ _ _ => rfl) (L2N.takes_of rfl rfl rfl rfl) (da_cons (de_tup (da_cons (de_var (pv 1)) da_nil)) (da_cons (de_var (pv 1)) (da_cons (de_add (de_var (pv 1)) de_int) da_nil))) (len_cons (len_cons (len_cons len_nil)))))) dss_nil)
    (dss_cons (ds_if (dt_eq hr.units (de_var (pv 0)) de_int) (dss_one (ds_expr (de_call (cal_winner T) (hr.mono (by decide)) rfl (L2N.takes_of rfl rfl rfl rfl) (da_cons (de_tup (da_cons (de_var (pv 1)) da_nil)) (da_cons de_str da_nil)) rfl (len_cons (len_cons len_nil))))) dss_nil)
    (dss_cons (ds_if (dt_eq hr.units (de_var (pv 0)) de_int) (dss_one (ds_expr (de_call (cal_winner T) (hr.mono (by decide)) rfl (L2N.takes_of rfl rfl rfl rfl) (da_cons (de_var (pv 2)) (da_cons (de_var (pv 1)) da_nil)) rfl (len_cons (len_cons len_nil))))) dss_nil)
    (dss_cons (ds_if (dt_eq hr.units (de_var (pv 0)) de_int) (dss_one (ds_expr (de_call (cal_in_turns T) (hr.mono (by decide)) rfl (L2N.takes_of rfl rfl rfl rfl) (da_cons (de_var (pv 2)) (da_cons de_str (da_cons (de_add de_int (de_var (pv 1))) da_nil))) rfl (len_cons (len_cons (len_cons len_nil)))))) dss_nil)
    (dss_one (ds_if (dt_eq hr.units (de_var (pv 0)) de_int) (dss_one (ds_expr (de_call (cal_many_takings T) (hr.mono (by decide)) rfl (L2N.takes_of rfl rfl rfl rfl) (da_cons (de_make GM.1 GM.2.1 (hr.mono (by decide)) rfl T.g_Game GM.2.2 (fun _ _ _ _ => rfl) (L2N.takes_of rfl rfl rfl rfl) (da_cons (de_tup (da_cons (de_add de_int (de_var (pv 1))) da_nil)) (da_cons (de_add de_int (de_var (pv 1))) (da_cons de_int da_nil))) (len_cons (len_cons (len_cons len_nil)))) da_nil) rfl (len_cons len_nil)))) dss_nil))))))))
abbrev N_Match_init : List Str := ["self", "game", "first"]
theorem sc_Match_init : FnScope ["self", "game", "first"] ["self", "game", "first"] (defScope s_Match_init) := ⟨rfl, rfl, rfl, by decide +kernel, rfl, by decide +kernel, by decide +kernel⟩
theorem mk_Match (T : Txt w K mg base TT C CM) : ∃ fa fd ps, Mk K CM fa ∧ FnOk P w K mg base (L2N.CX P w) 3 fa fd ps (spI K mg TT CM 2 F_Match_init) ∧ Binds K fd ps [] := by
  obtain ⟨_, _, _, _, Gboxes⟩ := get_boxes (P := P) (w := w) T
  obtain ⟨fa, fd, h1, h2, h3, h4⟩ := T.mM_init
  exact ⟨fa, fd, _, ⟨T.mksM, h1, h2, T.kM⟩, okI h3 sc_Match_init rfl (by decide) T.g_Match fun cdv A outer s H H1 E W self hr => (dss_cons (ds_expr (de_call (cal_check_asked T) (hr.mono (by decide)) rfl (L2N.takes_of rfl rfl rfl rfl) (da_cons (de_var (pv 1)) (da_cons (de_var (pv 2)) da_nil)) rfl (len_cons (len_cons len_nil))))
    (dss_cons (ds_fld (pv 0) T.g_Match T.clM T.nm_game (de_var (pv 1)))
    (dss_cons (ds_fld (pv 0) T.g_Match T.clM T.nm_stands (de_refL ⟨T.tk.1, T.tk.2.1⟩ (dx_lst (da_cons (de_tup (da_cons (de_prop (de_var (pv 1)) T.g_Game T.cl Gboxes.1 Gboxes.2.1 (hr.mono (by decide)) Gboxes.2.2) (da_cons (de_var (pv 2)) da_nil))) da_nil))))
    (dss_one (ds_fld (pv 0) T.g_Match T.clM T.nm_made (de_refL ⟨T.tk.1, T.tk.2.1⟩ (dx_lst da_nil))))))), h4⟩
abbrev N_Match_check_turn : List Str := ["self", "player"]
theorem sc_Match_check_turn : FnScope ["self", "player"] ["self", "player"] (defScope s_Match_check_turn) := ⟨rfl, rfl, rfl, by decide +kernel, rfl, by decide +kernel, by decide +kernel⟩
theorem cal_Match_check_turn (T : Txt w K mg base TT C CM) : MCal P w K mg base TT CM 1 "check_turn" 1 F_Match_check_turn := by
  obtain ⟨fa, fd, h1, h2, h3, h4⟩ := T.mM_check_turn
  exact ⟨fa, fd, _, ⟨h1, h2, h3.kp⟩, okD h3 sc_Match_check_turn fun cdv A outer s H E W hr => (dss_one (ds_if (dt_ne hr.units (de_ix (de_oix ⟨T.tk.1, T.tk.2.1⟩ (de_ofld ⟨T.tk.1, T.tk.2.1⟩ (de_var (pv 0)) T.g_Match T.clM T.nm_stands) (de_neg de_int)) de_int) (de_var (pv 1))) (dss_one (ds_raise (T.e_NotTurn).choose_spec rfl (L2N.takes_of rfl rfl rfl rfl) rfl)) dss_nil)), h4⟩
abbrev N_Match_go : List Str := ["self", "move", "left", "turn", "new"]
theorem sc_Match_go : FnScope ["self", "move", "left", "turn", "new"] ["self", "move"] (defScope s_Match_go) := ⟨rfl, rfl, rfl, by decide +kernel, rfl, by decide +kernel, by decide +kernel⟩
theorem cal_Match_go (T : Txt w K mg base TT C CM) : MCal P w K mg base TT CM 4 "go" 1 F_Match_go := by
  obtain ⟨fa, fd, h1, h2, h3, h4⟩ := T.mM_go
  exact ⟨fa, fd, _, ⟨h1, h2, h3.kp⟩, okD h3 sc_Match_go fun cdv A outer s H E W hr => (dss_cons (ds_tgt (dg_tup rfl (dgs_cons (dg_name (pg_name (i := 2) sc_Match_go.nd rfl (Or.inl rfl))) (dgs_cons (dg_name (pg_name (i := 3) sc_Match_go.nd rfl (Or.inl rfl))) dgs_nil))) (de_oix ⟨T.tk.1, T.tk.2.1⟩ (de_ofld ⟨T.tk.1, T.tk.2.1⟩ (de_var (pv 0)) T.g_Match T.clM T.nm_stands) (de_neg de_int)))
    (dss_cons (ds_set (pg_name (i := 4) sc_Match_go.nd rfl (Or.inl rfl)) (dx_E (de_call (cal_behind T) (hr.mono (by decide)) rfl (L2N.takes_of rfl rfl rfl rfl) (da_cons (de_var (pv 2)) (da_cons (de_var (pv 1)) da_nil)) rfl (len_cons (len_cons len_nil)))))
    (dss_cons (ds_set (pg_name (i := 3) sc_Match_go.nd rfl (Or.inl rfl)) (dx_E (de_call (cal_turn_behind T) (hr.mono (by decide)) rfl (L2N.takes_of rfl rfl rfl rfl) (da_cons (de_var (pv 4)) (da_cons (de_var (pv 3)) da_nil)) rfl (len_cons (len_cons len_nil)))))
    (dss_cons (ds_oapp ⟨T.tk.1, T.tk.2.1⟩ (de_ofld ⟨T.tk.1, T.tk.2.1⟩ (de_var (pv 0)) T.g_Match T.clM T.nm_stands) (de_tup (da_cons (de_var (pv 4)) (da_cons (de_var (pv 3)) da_nil))))
    (dss_cons (ds_oapp ⟨T.tk.1, T.tk.2.1⟩ (de_ofld ⟨T.tk.1, T.tk.2.1⟩ (de_var (pv 0)) T.g_Match T.clM T.nm_made) (de_var (pv 1)))
    (dss_one (ds_ret (de_var (pv 3))))))))), h4⟩
abbrev N_Match_takes : List Str := ["self", "amounts"]
theorem sc_Match_takes : FnScope ["self", "amounts"] ["self", "amounts"] (defScope s_Match_takes) := ⟨rfl, rfl, rfl, by decide +kernel, rfl, by decide +kernel, by decide +kernel⟩
theorem cal_Match_takes (T : Txt w K mg base TT C CM) : MCal P w K mg base TT CM 5 "takes" 1 F_Match_takes := by
  obtain ⟨_, _, _, _, Gtake⟩ := get_take (P := P) (w := w) T
  obtain ⟨fa, fd, h1, h2, h3, h4⟩ := T.mM_takes
  exact ⟨fa, fd, _, ⟨h1, h2, h3.kp⟩, okD h3 sc_Match_takes fun cdv A outer s H E W hr => (dss_cons (ds_expr (de_meth ⟨T.tk.1, T.tk.2.1⟩ (cal_Match_check_turn T) (hr.mono (by decide)) T.g_Match T.clM (L2N.takes_of rfl rfl rfl rfl) (de_var (pv 0)) (da_cons de_str da_nil) rfl (len_cons len_nil)))
    (dss_cons (ds_if (dt_not (dt_tru (de_call (cal_is_taking T) (hr.mono (by decide)) rfl (L2N.takes_of rfl rfl rfl rfl) (da_cons (de_ix (de_oix ⟨T.tk.1, T.tk.2.1⟩ (de_ofld ⟨T.tk.1, T.tk.2.1⟩ (de_var (pv 0)) T.g_Match T.clM T.nm_stands) (de_neg de_int)) de_int) (da_cons (de_prop (de_ofld ⟨T.tk.1, T.tk.2.1⟩ (de_var (pv 0)) T.g_Match T.clM T.nm_game) T.g_Game T.cl Gtake.1 Gtake.2.1 (hr.mono (by decide)) Gtake.2.2) (da_cons (de_var (pv 1)) da_nil))) rfl (len_cons (len_cons (len_cons len_nil)))))) (dss_one (ds_raise (T.e_BadTaking).choose_spec rfl (L2N.takes_of rfl rfl rfl rfl) rfl)) dss_nil)
    (dss_one (ds_ret (de_meth ⟨T.tk.1, T.tk.2.1⟩ (cal_Match_go T) (hr.mono (by decide)) T.g_Match T.clM (L2N.takes_of rfl rfl rfl rfl) (de_var (pv 0)) (da_cons (de_tup (da_cons de_str (da_cons (de_var (pv 1)) da_nil))) da_nil) rfl (len_cons len_nil)))))), h4⟩
abbrev N_Match_strikes : List Str := ["self", "struck"]
theorem sc_Match_strikes : FnScope ["self", "struck"] ["self", "struck"] (defScope s_Match_strikes) := ⟨rfl, rfl, rfl, by decide +kernel, rfl, by decide +kernel, by decide +kernel⟩
theorem cal_Match_strikes (T : Txt w K mg base TT C CM) : MCal P w K mg base TT CM 5 "strikes" 1 F_Match_strikes := by
  obtain ⟨_, _, _, _, Gstrike⟩ := get_strike (P := P) (w := w) T
  obtain ⟨fa, fd, h1, h2, h3, h4⟩ := T.mM_strikes
  exact ⟨fa, fd, _, ⟨h1, h2, h3.kp⟩, okD h3 sc_Match_strikes fun cdv A outer s H E W hr => (dss_cons (ds_expr (de_meth ⟨T.tk.1, T.tk.2.1⟩ (cal_Match_check_turn T) (hr.mono (by decide)) T.g_Match T.clM (L2N.takes_of rfl rfl rfl rfl) (de_var (pv 0)) (da_cons de_str da_nil) rfl (len_cons len_nil)))
    (dss_cons (ds_if (dt_not (dt_tru (de_call (cal_is_striking T) (hr.mono (by decide)) rfl (L2N.takes_of rfl rfl rfl rfl) (da_cons (de_ix (de_oix ⟨T.tk.1, T.tk.2.1⟩ (de_ofld ⟨T.tk.1, T.tk.2.1⟩ (de_var (pv 0)) T.g_Match T.clM T.nm_stands) (de_neg de_int)) de_int) (da_cons (de_prop (de_ofld ⟨T.tk.1, T.tk.2.1⟩ (de_var (pv 0)) T.g_Match T.clM T.nm_game) T.g_Game T.cl Gstrike.1 Gstrike.2.1 (hr.mono (by decide)) Gstrike.2.2) (da_cons (de_var (pv 1)) da_nil))) rfl (len_cons (len_cons (len_cons len_nil)))))) (dss_one (ds_raise (T.e_BadStriking).choose_spec rfl (L2N.takes_of rfl rfl rfl rfl) rfl)) dss_nil)
    (dss_one (ds_ret (de_meth ⟨T.tk.1, T.tk.2.1⟩ (cal_Match_go T) (hr.mono (by decide)) T.g_Match T.clM (L2N.takes_of rfl rfl rfl rfl) (de_var (pv 0)) (da_cons (de_tup (da_cons de_str (da_cons (de_var (pv 1)) da_nil))) da_nil) rfl (len_cons len_nil)))))), h4⟩
abbrev N_law_do : List Str := ["_law_kind", "_law_n", "_law_game"]
theorem sc_law_do : FnScope ["_law_kind", "_law_n", "_law_game"] ["_law_kind", "_law_n", "_law_game"] (defScope s_law_do) := ⟨rfl, rfl, rfl, by decide +kernel, rfl, by decide +kernel, by decide +kernel⟩
theorem cal_law_do (T : Txt w K mg base TT C CM) : Callee P w K mg base TT 8 "_law_do" 3 F_law_do := by
  obtain ⟨_, _, _, MM⟩ := mk_Match (P := P) (w := w) T
  exact T.d_law_do.cal sc_law_do rfl fun f cdv A outer s H E W hr => (dss_cons (ds_expr (de_call (cal_law_early T) (hr.mono (by decide)) rfl (L2N.takes_of rfl rfl rfl rfl) (da_cons (de_var (pv 0)) (da_cons (de_var (pv 1)) (da_cons (de_var (pv 2)) da_nil))) rfl (len_cons (len_cons (len_cons len_nil)))))
    (dss_cons (ds_if (dt_eq hr.units (de_var (pv 0)) de_int) (dss_one (ds_expr (de_call (cal_greatest_equal T) (hr.mono (by decide)) rfl (L2N.takes_of rfl rfl rfl rfl) (da_cons de_int (da_cons (de_var (pv 1)) (da_cons de_int (da_cons de_str da_nil)))) rfl (len_cons (len_cons (len_cons (len_cons len_nil))))))) dss_nil)
    (dss_cons (ds_if (dt_eq hr.units (de_var (pv 0)) de_int) (dss_one (ds_expr (de_call (cal_judge T) (hr.mono (by decide)) rfl (L2N.takes_of rfl rfl rfl rfl) (da_cons (de_var (pv 2)) (da_cons de_str (da_cons (de_tup (da_cons (de_tup (da_cons de_str (da_cons (de_tup (da_cons de_int (da_cons (de_var (pv 1)) da_nil))) da_nil))) (da_cons (de_tup (da_cons de_str (da_cons (de_tup (da_cons de_int (da_cons de_int da_nil))) da_nil))) da_nil))) da_nil))) rfl (len_cons (len_cons (len_cons len_nil)))))) dss_nil)
    (dss_cons (ds_if (dt_eq hr.units (de_var (pv 0)) de_int) (dss_one (ds_expr (de_meth ⟨T.tk.1, T.tk.2.1⟩ (cal_Match_strikes T) (hr.mono (by decide)) T.g_Match T.clM (L2N.takes_of rfl rfl rfl rfl) (de_makeO ⟨T.tk.1, T.tk.2.1⟩ MM.1 MM.2.1 (hr.mono (by decide)) rfl T.g_Match MM.2.2 (fun _ _ _ _ => rfl) (L2N.takes_of rfl rfl rfl rfl) (da_cons (de_var (pv 2)) (da_cons de_str da_nil)) (len_cons (len_cons len_nil))) (da_cons (de_tup (da_cons de_int da_nil)) da_nil) rfl (len_cons len_nil)))) dss_nil)
    (dss_cons (ds_if (dt_eq hr.units (de_var (pv 0)) de_int) (dss_one (ds_expr (de_meth ⟨T.tk.1, T.tk.2.1⟩ (cal_Match_takes T) (hr.mono (by decide)) T.g_Match T.clM (L2N.takes_of rfl rfl rfl rfl) (de_makeO ⟨T.tk.1, T.tk.2.1⟩ MM.1 MM.2.1 (hr.mono (by decide)) rfl T.g_Match MM.2.2 (fun _ _ _ _ => rfl) (L2N.takes_of rfl rfl rfl rfl) (da_cons (de_var (pv 2)) (da_cons de_str da_nil)) (len_cons (len_cons len_nil))) (da_cons (de_tup (da_cons (de_add (de_var (pv 1)) de_int) (da_cons de_int da_nil))) da_nil) rfl (len_cons len_nil)))) dss_nil)
    (dss_cons (ds_if (dt_eq hr.units (de_var (pv 0)) de_int) (dss_one (ds_expr (de_meth ⟨T.tk.1, T.tk.2.1⟩ (cal_Match_strikes T) (hr.mono (by decide)) T.g_Match T.clM (L2N.takes_of rfl rfl rfl rfl) (de_makeO ⟨T.tk.1, T.tk.2.1⟩ MM.1 MM.2.1 (hr.mono (by decide)) rfl T.g_Match MM.2.2 (fun _ _ _ _ => rfl) (L2N.takes_of rfl rfl rfl rfl) (da_cons (de_var (pv 2)) (da_cons de_str da_nil)) (len_cons (len_cons len_nil))) (da_cons (de_tup (da_cons de_int da_nil)) da_nil) rfl (len_cons len_nil)))) dss_nil)
    (dss_one (ds_if (dt_eq hr.units (de_var (pv 0)) de_int) (dss_one (ds_expr (de_call (cal_read_game T) (hr.mono (by decide)) rfl (L2N.takes_of rfl rfl rfl rfl) (da_cons (de_add (de_add de_str (de_str1 rfl T.b_str (da_cons (de_var (pv 1)) da_nil))) de_str) da_nil) rfl (len_cons len_nil)))) dss_nil))))))))
abbrev N_law : List Str := ["_law_script", "_law_h", "_law_n", "_law_game", "_law_kind", "_law_told", "_law_e"]
theorem sc_law : FnScope ["_law_script", "_law_h", "_law_n", "_law_game", "_law_kind", "_law_told", "_law_e"] ["_law_script"] (defScope s_law) := ⟨rfl, rfl, rfl, by decide +kernel, rfl, by decide +kernel, by decide +kernel⟩
theorem ok_law {fa : Addr} {fd : FuncData} (hF : Fun K "law" "law" s_law fa fd) (T : Txt w K mg base TT C CM) : FnOk P w K mg base (L2N.CX P w) 9 fa fd ["_law_script"] (spD K mg TT 1 F_law) := by
  obtain ⟨_, gxBadMoves, _, _, noBadMoves, xfBadMoves⟩ := T.a_BadMoves
  obtain ⟨_, gxInvalidText, _, _, noInvalidText, xfInvalidText⟩ := T.a_InvalidText
  obtain ⟨_, _, _, GM⟩ := mk_Game (P := P) (w := w) T
  exact okD hF sc_law fun cdv A outer s H E W hr => (dss_cons (ds_set (pg_name (i := 1) sc_law.nd rfl (Or.inl rfl)) (dx_E (de_call (cal_law_mix T) (hr.mono (by decide)) rfl (L2N.takes_of rfl rfl rfl rfl) (da_cons (de_var (pv 0)) (da_cons de_int da_nil)) rfl (len_cons (len_cons len_nil)))))
    (dss_cons (ds_set (pg_name (i := 2) sc_law.nd rfl (Or.inl rfl)) (dx_E (de_add de_int (de_call (cal_law_next T) (hr.mono (by decide)) rfl (L2N.takes_of rfl rfl rfl rfl) (da_cons (de_var (pv 1)) (da_cons de_int da_nil)) rfl (len_cons (len_cons len_nil))))))
    (dss_cons (ds_set (pg_name (i := 3) sc_law.nd rfl (Or.inl rfl)) (dx_E (de_make GM.1 GM.2.1 (hr.mono (by decide)) rfl T.g_Game GM.2.2 (fun _ _ _ _ => rfl) (L2N.takes_of rfl rfl rfl rfl) (da_cons (de_tup (da_cons (de_add (de_var (pv 2)) de_int) (da_cons (de_add (de_var (pv 2)) de_int) da_nil))) (da_cons (de_var (pv 2)) (da_cons de_int da_nil))) (len_cons (len_cons (len_cons len_nil))))))
    (dss_cons (ds_set (pg_name (i := 4) sc_law.nd rfl (Or.inl rfl)) (dx_E (de_call (cal_law_next T) (hr.mono (by decide)) rfl (L2N.takes_of rfl rfl rfl rfl) (da_cons (de_var (pv 1)) (da_cons de_int da_nil)) rfl (len_cons (len_cons len_nil)))))
    (dss_cons (ds_set (pg_name (i := 5) sc_law.nd rfl (Or.inl rfl)) (dx_E (de_X (dx_lst da_nil))))
    (dss_cons (ds_tryAs rfl rfl sc_law.nd (i := 6) rfl rfl (L2N.takes_of rfl rfl rfl rfl) rfl rfl (by decide) T.h_BoxError.choose_spec (tab_cons T.x_BadBoxes_BoxError (tab_cons T.x_BadTake_BoxError (tab_cons T.x_BadStrike_BoxError (tab_cons T.x_BadGame_BoxError (tab_cons T.x_BadFirst_BoxError (tab_cons T.x_BadTurns_BoxError (tab_cons T.x_TooLarge_BoxError (tab_cons T.x_BadMany_BoxError (tab_cons T.x_BadMoves_BoxError (tab_cons T.x_NotTurn_BoxError (tab_cons T.x_BadTaking_BoxError (tab_cons T.x_BadStriking_BoxError (tab_cons T.x_InvalidText_BoxError tab_nil))))))))))))) (fun V pn xe tk po => (dss_one (ds_expr (de_call (cal_law_do T) (hr.mono (by decide)) rfl tk (da_cons (de_var (pv 4)) (da_cons (de_var (pv 2)) (da_cons (de_var (pv 3)) da_nil))) rfl (len_cons (len_cons (len_cons len_nil))))))) (fun a oe cls d pn hz hf => (dss_one (ds_set (pg_name (i := 5) sc_law.nd rfl (Or.inl rfl)) (dx_E (de_hot (cal_law_which T) (hr.mono (by decide)) hz hf rfl (pv 6)))))))
    (dss_cons (ds_if (dt_ne hr.units (de_var (pv 5)) (de_X (dx_lst (da_cons (de_var (pv 4)) da_nil)))) (dss_one (ds_ret de_bl)) dss_nil)
    (dss_cons (ds_tryAs rfl rfl sc_law.nd (i := 6) rfl rfl (L2N.takes_of rfl rfl rfl rfl) rfl rfl (by decide) T.h_BadMoves.choose_spec (tab_cons T.x_BadMoves_BadMoves tab_nil) (fun V pn xe tk po => (dss_one (ds_expr (de_call (cal_law_do T) (hr.mono (by decide)) rfl tk (da_cons de_int (da_cons (de_var (pv 2)) (da_cons (de_var (pv 3)) da_nil))) rfl (len_cons (len_cons (len_cons len_nil))))))) (fun a oe cls d pn hz hf => (dss_one (ds_if (dt_ne hr.units (de_xf xfBadMoves (noBadMoves _ (by simp)) gxBadMoves hz hf (pv 6)) de_int) (dss_one (ds_ret de_bl)) dss_nil))))
    (dss_cons (ds_tryAs rfl rfl sc_law.nd (i := 6) rfl rfl (L2N.takes_of rfl rfl rfl rfl) rfl rfl (by decide) T.h_InvalidText.choose_spec (tab_cons T.x_InvalidText_InvalidText tab_nil) (fun V pn xe tk po => (dss_one (ds_expr (de_call (cal_law_do T) (hr.mono (by decide)) rfl tk (da_cons de_int (da_cons (de_var (pv 2)) (da_cons (de_var (pv 3)) da_nil))) rfl (len_cons (len_cons (len_cons len_nil))))))) (fun a oe cls d pn hz hf => (dss_one (ds_ret (de_eq hr.units (de_tup (da_cons (de_xf xfInvalidText (noInvalidText _ (by simp)) gxInvalidText hz hf (pv 6)) (da_cons (de_xf xfInvalidText (noInvalidText _ (by simp)) gxInvalidText hz hf (pv 6)) da_nil))) (de_tup (da_cons de_int (da_cons de_int da_nil))))))))
    (dss_one (ds_ret de_bl)))))))))))
end
end Bx

namespace Bx
open PySem L2
theorem e_is_integer (n : Int) (S : Store) : F_is_integer [.int n] S = .ok (.bl true) S := by
  simp [fnSem, startR, gIsi, ty6, Ty6.is, tru?, gNot, gLe, gLt, gGt, gGe, gCmp, gTru, gBl, gLen, gItems, gFld, gIx, gAdd_int, gSub, gNeg, gTuple, gList, gIsN, gNotN, gPart, gtName, gtTup, gtCons, gtNil, sFor, sFor.go, frz, wipeR, fYes, startI, fnI, isNon, noer, LIM, F_is_integer, S_is_integer]
theorem e_is_from (n a b : Int) (S : Store) : F_is_from [.int n, .int a, .int b] S = .ok (.bl (decide (a ≤ n ∧ n ≤ b))) S := by
  simp [fnSem, startR, gIsi, ty6, Ty6.is, tru?, gNot, gLe, gLt, gGt, gGe, gCmp, gTru, gBl, gLen, gItems, gFld, gIx, gAdd_int, gSub, gNeg, gTuple, gList, gIsN, gNotN, gPart, gtName, gtTup, gtCons, gtNil, sFor, sFor.go, frz, wipeR, fYes, startI, fnI, isNon, noer, LIM, F_is_from, S_is_from, e_is_integer]
  by_cases h : a ≤ n <;> by_cases h2 : n ≤ b <;> simp [fnSem, startR, gIsi, ty6, Ty6.is, tru?, gNot, gLe, gLt, gGt, gGe, gCmp, gTru, gBl, gLen, gItems, gFld, gIx, gAdd_int, gSub, gNeg, gTuple, gList, gIsN, gNotN, gPart, gtName, gtTup, gtCons, gtNil, sFor, sFor.go, frz, wipeR, fYes, startI, fnI, isNon, noer, LIM, h, h2]
def big : Int := 1000000000000000000000000000000
theorem e_boxes_loop {l : List Int} (h : ∀ n ∈ l, 1 ≤ n ∧ n ≤ big) (S : Store) : ∀ x y : Sl, ∃ z, sFor.go (gtName 1) B_check_boxes_1 (dI l) [x, y] S = .mk (.nx [x, z]) S := by
  induction l with
  | nil => exact fun x y => ⟨y, by simp [fnSem, startR, gIsi, ty6, Ty6.is, tru?, gNot, gLe, gLt, gGt, gGe, gCmp, gTru, gBl, gLen, gItems, gFld, gIx, gAdd_int, gSub, gNeg, gTuple, gList, gIsN, gNotN, gPart, gtName, gtTup, gtCons, gtNil, sFor, sFor.go, frz, wipeR, fYes, startI, fnI, isNon, noer, LIM]⟩
  | cons a l ih =>
    intro x y
    obtain ⟨z, hz⟩ := ih (fun n hn => h n (List.mem_cons_of_mem _ hn)) x (.fz (.int a))
    have := h a (List.mem_cons_self ..)
    have hb : B_check_boxes_1 [x, .fz (.int a)] S = .mk (.nx [x, .fz (.int a)]) S := by
      simp [fnSem, startR, gIsi, ty6, Ty6.is, tru?, gNot, gLe, gLt, gGt, gGe, gCmp, gTru, gBl, gLen, gItems, gFld, gIx, gAdd_int, gSub, gNeg, gTuple, gList, gIsN, gNotN, gPart, gtName, gtTup, gtCons, gtNil, sFor, sFor.go, frz, wipeR, fYes, startI, fnI, isNon, noer, LIM, B_check_boxes_1, e_is_from]
      unfold big at this; omega
    exact ⟨z, by simp [fnSem, startR, gIsi, ty6, Ty6.is, tru?, gNot, gLe, gLt, gGt, gGe, gCmp, gTru, gBl, gLen, gItems, gFld, gIx, gAdd_int, gSub, gNeg, gTuple, gList, gIsN, gNotN, gPart, gtName, gtTup, gtCons, gtNil, sFor, sFor.go, frz, wipeR, fYes, startI, fnI, isNon, noer, LIM, dI_cons, hb, hz]⟩
theorem e_check_boxes {l : List Int} (h : ∀ n ∈ l, 1 ≤ n ∧ n ≤ big) (h1 : l ≠ []) (h8 : l.length ≤ 8) (S : Store) : F_check_boxes [.tup (dI l)] S = .ok .non S := by
  obtain ⟨y, hy⟩ := e_boxes_loop h S (.fz (.tup (dI l))) .un
  have : 0 < l.length := List.length_pos_iff.mpr h1
  have e1 : decide (1 ≤ (l.length : Int)) = true := by simp [fnSem, startR, gIsi, ty6, Ty6.is, tru?, gNot, gLe, gLt, gGt, gGe, gCmp, gTru, gBl, gLen, gItems, gFld, gIx, gAdd_int, gSub, gNeg, gTuple, gList, gIsN, gNotN, gPart, gtName, gtTup, gtCons, gtNil, sFor, sFor.go, frz, wipeR, fYes, startI, fnI, isNon, noer, LIM]; omega
  have e2 : decide ((l.length : Int) ≤ 8) = true := by simp [fnSem, startR, gIsi, ty6, Ty6.is, tru?, gNot, gLe, gLt, gGt, gGe, gCmp, gTru, gBl, gLen, gItems, gFld, gIx, gAdd_int, gSub, gNeg, gTuple, gList, gIsN, gNotN, gPart, gtName, gtTup, gtCons, gtNil, sFor, sFor.go, frz, wipeR, fYes, startI, fnI, isNon, noer, LIM]; omega
  simp [fnSem, startR, gIsi, ty6, Ty6.is, tru?, gNot, gLe, gLt, gGt, gGe, gCmp, gTru, gBl, gLen, gItems, gFld, gIx, gAdd_int, gSub, gNeg, gTuple, gList, gIsN, gNotN, gPart, gtName, gtTup, gtCons, gtNil, sFor, sFor.go, frz, wipeR, fYes, startI, fnI, isNon, noer, LIM, F_check_boxes, S_check_boxes, e1, e2, hy]
theorem e_check_take {n : Int} (h : 1 ≤ n ∧ n ≤ big) (S : Store) : F_check_take [.int n] S = .ok .non S := by
  simp [fnSem, startR, gIsi, ty6, Ty6.is, tru?, gNot, gLe, gLt, gGt, gGe, gCmp, gTru, gBl, gLen, gItems, gFld, gIx, gAdd_int, gSub, gNeg, gTuple, gList, gIsN, gNotN, gPart, gtName, gtTup, gtCons, gtNil, sFor, sFor.go, frz, wipeR, fYes, startI, fnI, isNon, noer, LIM, F_check_take, S_check_take, e_is_from]
  rw [if_neg (by unfold big at h; omega)]
theorem e_check_strike {n : Nat} (h : 1 ≤ n ∧ n ≤ 3) (S : Store) : F_check_strike [.int n] S = .ok .non S := by
  simp [fnSem, startR, gIsi, ty6, Ty6.is, tru?, gNot, gLe, gLt, gGt, gGe, gCmp, gTru, gBl, gLen, gItems, gFld, gIx, gAdd_int, gSub, gNeg, gTuple, gList, gIsN, gNotN, gPart, gtName, gtTup, gtCons, gtNil, sFor, sFor.go, frz, wipeR, fYes, startI, fnI, isNon, noer, LIM, F_check_strike, S_check_strike, e_is_from]
  rw [if_neg (by omega)]
/-- a game -/
structure Gm where
  bx : List Int
  tk : Int
  st : Nat
structure Gm.Ok (g : Gm) : Prop where
  h : ∀ n ∈ g.bx, 1 ≤ n ∧ n ≤ big
  ne : g.bx ≠ []
  l8 : g.bx.length ≤ 8
  tk : 1 ≤ g.tk ∧ g.tk ≤ big
  st : 1 ≤ g.st ∧ g.st ≤ 3
def Gm.held (g : Gm) : D := .tup [.tup (dI g.bx), .int g.tk, .int g.st]
def Gm.d (g : Gm) : D := .ins "Game" ["held"] [g.held]
theorem e_init {g : Gm} (o : g.Ok) (S : Store) : F_Game_init [.tup (dI g.bx), .int g.tk, .int g.st] S = .ok (["held"], [g.held]) S := by
  simp [fnSem, startR, gIsi, ty6, Ty6.is, tru?, gNot, gLe, gLt, gGt, gGe, gCmp, gTru, gBl, gLen, gItems, gFld, gIx, gAdd_int, gSub, gNeg, gTuple, gList, gIsN, gNotN, gPart, gtName, gtTup, gtCons, gtNil, sFor, sFor.go, frz, wipeR, fYes, startI, fnI, isNon, noer, LIM, F_Game_init, S_Game_init, e_check_boxes o.h o.ne o.l8, e_check_take o.tk, e_check_strike o.st, Gm.held, isNw, List.countP_cons]
theorem e_boxes (g : Gm) (S : Store) : F_Game_boxes [g.d] S = .ok (.tup (dI g.bx)) S := by
  simp [fnSem, startR, gIsi, ty6, Ty6.is, tru?, gNot, gLe, gLt, gGt, gGe, gCmp, gTru, gBl, gLen, gItems, gFld, gIx, gAdd_int, gSub, gNeg, gTuple, gList, gIsN, gNotN, gPart, gtName, gtTup, gtCons, gtNil, sFor, sFor.go, frz, wipeR, fYes, startI, fnI, isNon, noer, LIM, F_Game_boxes, S_Game_boxes, Gm.d, Gm.held, ix0, ix1, ix2]
theorem e_take (g : Gm) (S : Store) : F_Game_take [g.d] S = .ok (.int g.tk) S := by
  simp [fnSem, startR, gIsi, ty6, Ty6.is, tru?, gNot, gLe, gLt, gGt, gGe, gCmp, gTru, gBl, gLen, gItems, gFld, gIx, gAdd_int, gSub, gNeg, gTuple, gList, gIsN, gNotN, gPart, gtName, gtTup, gtCons, gtNil, sFor, sFor.go, frz, wipeR, fYes, startI, fnI, isNon, noer, LIM, F_Game_take, S_Game_take, Gm.d, Gm.held, ix0, ix1, ix2]
theorem e_strike (g : Gm) (S : Store) : F_Game_strike [g.d] S = .ok (.int g.st) S := by
  simp [fnSem, startR, gIsi, ty6, Ty6.is, tru?, gNot, gLe, gLt, gGt, gGe, gCmp, gTru, gBl, gLen, gItems, gFld, gIx, gAdd_int, gSub, gNeg, gTuple, gList, gIsN, gNotN, gPart, gtName, gtTup, gtCons, gtNil, sFor, sFor.go, frz, wipeR, fYes, startI, fnI, isNon, noer, LIM, F_Game_strike, S_Game_strike, Gm.d, Gm.held, ix0, ix1, ix2]
theorem p_boxes (g : Gm) (S : Store) : gProp "Game" F_Game_boxes g.d S = .ok (.tup (dI g.bx)) S := by
  simp [fnSem, startR, gIsi, ty6, Ty6.is, tru?, gNot, gLe, gLt, gGt, gGe, gCmp, gTru, gBl, gLen, gItems, gFld, gIx, gAdd_int, gSub, gNeg, gTuple, gList, gIsN, gNotN, gPart, gtName, gtTup, gtCons, gtNil, sFor, sFor.go, frz, wipeR, fYes, startI, fnI, isNon, noer, LIM, gProp, e_boxes]; simp [fnSem, startR, gIsi, ty6, Ty6.is, tru?, gNot, gLe, gLt, gGt, gGe, gCmp, gTru, gBl, gLen, gItems, gFld, gIx, gAdd_int, gSub, gNeg, gTuple, gList, gIsN, gNotN, gPart, gtName, gtTup, gtCons, gtNil, sFor, sFor.go, frz, wipeR, fYes, startI, fnI, isNon, noer, LIM, Gm.d, isIns]
theorem p_take (g : Gm) (S : Store) : gProp "Game" F_Game_take g.d S = .ok (.int g.tk) S := by
  simp [fnSem, startR, gIsi, ty6, Ty6.is, tru?, gNot, gLe, gLt, gGt, gGe, gCmp, gTru, gBl, gLen, gItems, gFld, gIx, gAdd_int, gSub, gNeg, gTuple, gList, gIsN, gNotN, gPart, gtName, gtTup, gtCons, gtNil, sFor, sFor.go, frz, wipeR, fYes, startI, fnI, isNon, noer, LIM, gProp, e_take]; simp [fnSem, startR, gIsi, ty6, Ty6.is, tru?, gNot, gLe, gLt, gGt, gGe, gCmp, gTru, gBl, gLen, gItems, gFld, gIx, gAdd_int, gSub, gNeg, gTuple, gList, gIsN, gNotN, gPart, gtName, gtTup, gtCons, gtNil, sFor, sFor.go, frz, wipeR, fYes, startI, fnI, isNon, noer, LIM, Gm.d, isIns]
theorem p_strike (g : Gm) (S : Store) : gProp "Game" F_Game_strike g.d S = .ok (.int g.st) S := by
  simp [fnSem, startR, gIsi, ty6, Ty6.is, tru?, gNot, gLe, gLt, gGt, gGe, gCmp, gTru, gBl, gLen, gItems, gFld, gIx, gAdd_int, gSub, gNeg, gTuple, gList, gIsN, gNotN, gPart, gtName, gtTup, gtCons, gtNil, sFor, sFor.go, frz, wipeR, fYes, startI, fnI, isNon, noer, LIM, gProp, e_strike]; simp [fnSem, startR, gIsi, ty6, Ty6.is, tru?, gNot, gLe, gLt, gGt, gGe, gCmp, gTru, gBl, gLen, gItems, gFld, gIx, gAdd_int, gSub, gNeg, gTuple, gList, gIsN, gNotN, gPart, gtName, gtTup, gtCons, gtNil, sFor, sFor.go, frz, wipeR, fYes, startI, fnI, isNon, noer, LIM, Gm.d, isIns]
theorem e_check_game (g : Gm) (S : Store) : F_check_game [g.d] S = .ok .non S := by
  simp [fnSem, startR, gIsi, ty6, Ty6.is, tru?, gNot, gLe, gLt, gGt, gGe, gCmp, gTru, gBl, gLen, gItems, gFld, gIx, gAdd_int, gSub, gNeg, gTuple, gList, gIsN, gNotN, gPart, gtName, gtTup, gtCons, gtNil, sFor, sFor.go, frz, wipeR, fYes, startI, fnI, isNon, noer, LIM, F_check_game, S_check_game, Gm.d, gIsC, isIns]
theorem e_check_first {b : Bool} (S : Store) : F_check_first [.str (if b then "striker" else "taker")] S = .ok .non S := by
  cases b <;> simp [fnSem, startR, gIsi, ty6, Ty6.is, tru?, gNot, gLe, gLt, gGt, gGe, gCmp, gTru, gBl, gLen, gItems, gFld, gIx, gAdd_int, gSub, gNeg, gTuple, gList, gIsN, gNotN, gPart, gtName, gtTup, gtCons, gtNil, sFor, sFor.go, frz, wipeR, fYes, startI, fnI, isNon, noer, LIM, F_check_first, S_check_first, gIn, flatV?, flats?, inv1, inv2]
theorem e_check_asked (g : Gm) {b : Bool} (S : Store) : F_check_asked [g.d, .str (if b then "striker" else "taker")] S = .ok .non S := by
  simp [fnSem, startR, gIsi, ty6, Ty6.is, tru?, gNot, gLe, gLt, gGt, gGe, gCmp, gTru, gBl, gLen, gItems, gFld, gIx, gAdd_int, gSub, gNeg, gTuple, gList, gIsN, gNotN, gPart, gtName, gtTup, gtCons, gtNil, sFor, sFor.go, frz, wipeR, fYes, startI, fnI, isNon, noer, LIM, F_check_asked, S_check_asked, e_check_game, e_check_first]
theorem py_held (g : Gm) : Py 2 g.held (.tuple [.tuple (g.bx.map .int), .int g.tk, .int g.st]) := py_tup (pys_cons (py_tup (pys_dI _)) (pys_cons py_int (pys_cons py_int pys_nil)))
theorem eq_gm (g h : Gm) (S : Store) : gEqI "Game" F_Game_eq g.d h.d S = .ok (.bl (decide (g.bx = h.bx ∧ g.tk = h.tk ∧ g.st = h.st))) S := by
  simp [fnSem, startR, gIsi, ty6, Ty6.is, tru?, gNot, gLe, gLt, gGt, gGe, gCmp, gTru, gBl, gLen, gItems, gFld, gIx, gAdd_int, gSub, gNeg, gTuple, gList, gIsN, gNotN, gPart, gtName, gtTup, gtCons, gtNil, sFor, sFor.go, frz, wipeR, fYes, startI, fnI, isNon, noer, LIM, gEqI, F_Game_eq, S_Game_eq, Gm.d, gIsC, isIns, gEq_py (py_held g) (py_held h), PyData.eqv, PyData.eqvAll, eqvAll_ints]
  by_cases h1 : g.bx = h.bx <;> by_cases h2 : g.tk = h.tk <;> by_cases h3 : g.st = h.st <;> simp [fnSem, startR, gIsi, ty6, Ty6.is, tru?, gNot, gLe, gLt, gGt, gGe, gCmp, gTru, gBl, gLen, gItems, gFld, gIx, gAdd_int, gSub, gNeg, gTuple, gList, gIsN, gNotN, gPart, gtName, gtTup, gtCons, gtNil, sFor, sFor.go, frz, wipeR, fYes, startI, fnI, isNon, noer, LIM, h1, h2, h3] <;> omega
theorem eq_tp (g : Gm) (xs : List D) (S : Store) : gEqI "Game" F_Game_eq g.d (.tup xs) S = .ok (.bl false) S := by
  simp [fnSem, startR, gIsi, ty6, Ty6.is, tru?, gNot, gLe, gLt, gGt, gGe, gCmp, gTru, gBl, gLen, gItems, gFld, gIx, gAdd_int, gSub, gNeg, gTuple, gList, gIsN, gNotN, gPart, gtName, gtTup, gtCons, gtNil, sFor, sFor.go, frz, wipeR, fYes, startI, fnI, isNon, noer, LIM, gEqI, F_Game_eq, S_Game_eq, Gm.d, gIsC, isIns, isTup]

end Bx

namespace Bx
open PySem L2
/-! ### the bounds -/
def lastI (b : List Int) : Int := b.getLastD 0
def nextB (t : Int) (s : Nat) (b : List Int) : List Int := (b ++ (List.range s).map fun (k : Nat) => lastI b + lastI b / (b.length : Int) * ((k : Int) + 1)).map (· + t)
def bgo : Nat → Nat → Int → Nat → List Int → List (List Int)
  | 0, _, _, _, _ => []
  | n + 1, m, t, s, b => if b.length ≤ m then b :: bgo n m t s (nextB t s b) else []
theorem nextB_len {t : Int} {s : Nat} {b : List Int} : (nextB t s b).length = b.length + s := by simp [fnSem, startR, gIsi, ty6, Ty6.is, tru?, gNot, gLe, gLt, gGt, gGe, gCmp, gTru, gBl, gLen, gItems, gFld, gIx, gAdd_int, gSub, gNeg, gTuple, gList, gIsN, gNotN, gPart, gtName, gtTup, gtCons, gtNil, sFor, sFor.go, frz, wipeR, fYes, startI, fnI, isNon, noer, LIM, nextB]
theorem atI_last {b : List Int} (h : b ≠ []) : atI (dI b) (-1) = some (.int (lastI b)) := by
  obtain ⟨c, x, rfl⟩ : ∃ c x, b = c ++ [x] := ⟨b.dropLast, b.getLast h, (List.dropLast_concat_getLast h).symm⟩
  unfold atI ixN
  rw [if_neg (by decide), if_pos (by simp [fnSem, startR, gIsi, ty6, Ty6.is, tru?, gNot, gLe, gLt, gGt, gGe, gCmp, gTru, gBl, gLen, gItems, gFld, gIx, gAdd_int, gSub, gNeg, gTuple, gList, gIsN, gNotN, gPart, gtName, gtTup, gtCons, gtNil, sFor, sFor.go, frz, wipeR, fYes, startI, fnI, isNon, noer, LIM]; omega)]
  simp [fnSem, startR, gIsi, ty6, Ty6.is, tru?, gNot, gLe, gLt, gGt, gGe, gCmp, gTru, gBl, gLen, gItems, gFld, gIx, gAdd_int, gSub, gNeg, gTuple, gList, gIsN, gNotN, gPart, gtName, gtTup, gtCons, gtNil, sFor, sFor.go, frz, wipeR, fYes, startI, fnI, isNon, noer, LIM, lastI, dI]
  rw [show (-1 + ((c.length : Int) + 1)).toNat = c.length by omega]
  simp [fnSem, startR, gIsi, ty6, Ty6.is, tru?, gNot, gLe, gLt, gGt, gGe, gCmp, gTru, gBl, gLen, gItems, gFld, gIx, gAdd_int, gSub, gNeg, gTuple, gList, gIsN, gNotN, gPart, gtName, gtTup, gtCons, gtNil, sFor, sFor.go, frz, wipeR, fYes, startI, fnI, isNon, noer, LIM]
theorem bounds_body {m : Nat} {t : Int} {s : Nat} {b : List Int} (hb : b ≠ []) (hl : b.length ≤ 900) (hs : s ≤ 3) (acc : List (List Int)) (ha : acc.length ≤ 900) (S : Store) (x5 x6 x7 x8 x9 : Sl) :
    ∃ y5 y6 y7, B_bounds_of_1 [.fz (.int m), .fz (.int t), .fz (.int s), .ow (dT acc), .fz (.tup (dI b)), x5, x6, x7, x8, x9] S =
    .mk (.nx [.fz (.int m), .fz (.int t), .fz (.int s), .ow (dT (acc ++ [b])), .fz (.tup (dI (nextB t s b))), y5, y6, y7, x8, x9]) S := by
  refine ⟨.fz (.int (lastI b)), .fz (.int (lastI b / b.length)), .fz (.lst (dI (b ++ (List.range s).map fun (k : Nat) => lastI b + lastI b / (b.length : Int) * ((k : Int) + 1)))), ?_⟩
  have hp : 0 < b.length := List.length_pos_iff.mpr hb
  have e1 : ∀ x7, lcL (gtName 8) fYes E_bounds_of_1 [.fz (.int m), .fz (.int t), .fz (.int s), .ow (dT (acc ++ [b])), .fz (.tup (dI b)), .fz (.int (lastI b)), .fz (.int (lastI b / b.length)), x7, .un, x9] (dI ((List.range s).map fun (k : Nat) => (k : Int))) [] S = .ok (dI ((List.range s).map fun (k : Nat) => lastI b + lastI b / (b.length : Int) * ((k : Int) + 1))) S := by
    intro x7
    rw [lc_int (fun k => lastI b + lastI b / (b.length : Int) * (k + 1)) _ fun d hd => ?_]
    · simp [fnSem, startR, gIsi, ty6, Ty6.is, tru?, gNot, gLe, gLt, gGt, gGe, gCmp, gTru, gBl, gLen, gItems, gFld, gIx, gAdd_int, gSub, gNeg, gTuple, gList, gIsN, gNotN, gPart, gtName, gtTup, gtCons, gtNil, sFor, sFor.go, frz, wipeR, fYes, startI, fnI, isNon, noer, LIM]
      rfl
    · obtain ⟨k, hk, rfl⟩ := List.mem_map.mp hd
      have hk := List.mem_range.mp hk
      refine ⟨_, rfl, ?_⟩
      simp (discharger := first | (simp [fnSem, startR, gIsi, ty6, Ty6.is, tru?, gNot, gLe, gLt, gGt, gGe, gCmp, gTru, gBl, gLen, gItems, gFld, gIx, gAdd_int, gSub, gNeg, gTuple, gList, gIsN, gNotN, gPart, gtName, gtTup, gtCons, gtNil, sFor, sFor.go, frz, wipeR, fYes, startI, fnI, isNon, noer, LIM]; done) | omega | (simp [fnSem, startR, gIsi, ty6, Ty6.is, tru?, gNot, gLe, gLt, gGt, gGe, gCmp, gTru, gBl, gLen, gItems, gFld, gIx, gAdd_int, gSub, gNeg, gTuple, gList, gIsN, gNotN, gPart, gtName, gtTup, gtCons, gtNil, sFor, sFor.go, frz, wipeR, fYes, startI, fnI, isNon, noer, LIM]; omega)) [fnSem, startR, gIsi, ty6, Ty6.is, tru?, gNot, gLe, gLt, gGt, gGe, gCmp, gTru, gBl, gLen, gItems, gFld, gIx, gAdd_int, gSub, gNeg, gTuple, gList, gIsN, gNotN, gPart, gtName, gtTup, gtCons, gtNil, sFor, sFor.go, frz, wipeR, fYes, startI, fnI, isNon, noer, LIM, ite_le, ite_lt, gFdiv_ok, gMod_ok, gRange1_ok, gRange2_ok, gPow_ok, gAddL_ok, gAddT_ok, gAdd_int, fLc, rangeD0, ix0, ix1, ix2, gSl_takeL, gSl_dropL, gSl_takeT, gSl_dropT, map_int, E_bounds_of_1, gMulR_ok]
  have e2 : ∀ (l : List Int) x5 x6 x7, lcL (gtName 9) fYes E_bounds_of_2 [.fz (.int m), .fz (.int t), .fz (.int s), .ow (dT (acc ++ [b])), .fz (.tup (dI b)), x5, x6, x7, x8, .un] (dI l) [] S = .ok (dI (l.map (· + t))) S := by
    intro l x5 x6 x7
    exact lc_int (· + t) _ fun d hd => ⟨_, rfl, by simp (discharger := first | (simp [fnSem, startR, gIsi, ty6, Ty6.is, tru?, gNot, gLe, gLt, gGt, gGe, gCmp, gTru, gBl, gLen, gItems, gFld, gIx, gAdd_int, gSub, gNeg, gTuple, gList, gIsN, gNotN, gPart, gtName, gtTup, gtCons, gtNil, sFor, sFor.go, frz, wipeR, fYes, startI, fnI, isNon, noer, LIM]; done) | omega | (simp [fnSem, startR, gIsi, ty6, Ty6.is, tru?, gNot, gLe, gLt, gGt, gGe, gCmp, gTru, gBl, gLen, gItems, gFld, gIx, gAdd_int, gSub, gNeg, gTuple, gList, gIsN, gNotN, gPart, gtName, gtTup, gtCons, gtNil, sFor, sFor.go, frz, wipeR, fYes, startI, fnI, isNon, noer, LIM]; omega)) [fnSem, startR, gIsi, ty6, Ty6.is, tru?, gNot, gLe, gLt, gGt, gGe, gCmp, gTru, gBl, gLen, gItems, gFld, gIx, gAdd_int, gSub, gNeg, gTuple, gList, gIsN, gNotN, gPart, gtName, gtTup, gtCons, gtNil, sFor, sFor.go, frz, wipeR, fYes, startI, fnI, isNon, noer, LIM, ite_le, ite_lt, gFdiv_ok, gMod_ok, gRange1_ok, gRange2_ok, gPow_ok, gAddL_ok, gAddT_ok, gAdd_int, fLc, rangeD0, ix0, ix1, ix2, gSl_takeL, gSl_dropL, gSl_takeT, gSl_dropT, map_int, E_bounds_of_2]⟩
  simp (discharger := first | (simp [fnSem, startR, gIsi, ty6, Ty6.is, tru?, gNot, gLe, gLt, gGt, gGe, gCmp, gTru, gBl, gLen, gItems, gFld, gIx, gAdd_int, gSub, gNeg, gTuple, gList, gIsN, gNotN, gPart, gtName, gtTup, gtCons, gtNil, sFor, sFor.go, frz, wipeR, fYes, startI, fnI, isNon, noer, LIM]; done) | omega | (simp [fnSem, startR, gIsi, ty6, Ty6.is, tru?, gNot, gLe, gLt, gGt, gGe, gCmp, gTru, gBl, gLen, gItems, gFld, gIx, gAdd_int, gSub, gNeg, gTuple, gList, gIsN, gNotN, gPart, gtName, gtTup, gtCons, gtNil, sFor, sFor.go, frz, wipeR, fYes, startI, fnI, isNon, noer, LIM]; omega)) [fnSem, startR, gIsi, ty6, Ty6.is, tru?, gNot, gLe, gLt, gGt, gGe, gCmp, gTru, gBl, gLen, gItems, gFld, gIx, gAdd_int, gSub, gNeg, gTuple, gList, gIsN, gNotN, gPart, gtName, gtTup, gtCons, gtNil, sFor, sFor.go, frz, wipeR, fYes, startI, fnI, isNon, noer, LIM, ite_le, ite_lt, gFdiv_ok, gMod_ok, gRange1_ok, gRange2_ok, gPow_ok, gAddL_ok, gAddT_ok, gAdd_int, fLc, rangeD0, ix0, ix1, ix2, gSl_takeL, gSl_dropL, gSl_takeT, gSl_dropT, map_int, B_bounds_of_1, atI_last hb, e1, e2, nextB]
theorem bounds_while {m : Nat} {t : Int} {s : Nat} (hs1 : 1 ≤ s) (hs : s ≤ 3) (hm : m ≤ 120) (S : Store) : ∀ (n : Nat) (b : List Int) (acc : List (List Int)) (x5 x6 x7 x8 x9 : Sl), b ≠ [] → b.length + 3 * n ≤ 900 → acc.length + n ≤ 900 → m + 1 ≤ b.length + n → ∀ k,
    ∃ y4 y5 y6 y7, sWhile (n + 1 + k) T_bounds_of_1 B_bounds_of_1 [.fz (.int m), .fz (.int t), .fz (.int s), .ow (dT acc), .fz (.tup (dI b)), x5, x6, x7, x8, x9] S =
    .mk (.nx [.fz (.int m), .fz (.int t), .fz (.int s), .ow (dT (acc ++ bgo n m t s b)), y4, y5, y6, y7, x8, x9]) S := by
  intro n
  have e : ∀ (b : List Int) (acc : List D) x5 x6 x7 x8 x9, T_bounds_of_1 [.fz (.int m), .fz (.int t), .fz (.int s), .ow acc, .fz (.tup (dI b)), x5, x6, x7, x8, x9] S = .ok (decide (b.length ≤ m)) S := by
    intros
    simp (discharger := first | (simp [fnSem, startR, gIsi, ty6, Ty6.is, tru?, gNot, gLe, gLt, gGt, gGe, gCmp, gTru, gBl, gLen, gItems, gFld, gIx, gAdd_int, gSub, gNeg, gTuple, gList, gIsN, gNotN, gPart, gtName, gtTup, gtCons, gtNil, sFor, sFor.go, frz, wipeR, fYes, startI, fnI, isNon, noer, LIM]; done) | omega | (simp [fnSem, startR, gIsi, ty6, Ty6.is, tru?, gNot, gLe, gLt, gGt, gGe, gCmp, gTru, gBl, gLen, gItems, gFld, gIx, gAdd_int, gSub, gNeg, gTuple, gList, gIsN, gNotN, gPart, gtName, gtTup, gtCons, gtNil, sFor, sFor.go, frz, wipeR, fYes, startI, fnI, isNon, noer, LIM]; omega)) [fnSem, startR, gIsi, ty6, Ty6.is, tru?, gNot, gLe, gLt, gGt, gGe, gCmp, gTru, gBl, gLen, gItems, gFld, gIx, gAdd_int, gSub, gNeg, gTuple, gList, gIsN, gNotN, gPart, gtName, gtTup, gtCons, gtNil, sFor, sFor.go, frz, wipeR, fYes, startI, fnI, isNon, noer, LIM, ite_le, ite_lt, gFdiv_ok, gMod_ok, gRange1_ok, gRange2_ok, gPow_ok, gAddL_ok, gAddT_ok, gAdd_int, fLc, rangeD0, ix0, ix1, ix2, gSl_takeL, gSl_dropL, gSl_takeT, gSl_dropT, map_int, T_bounds_of_1]
  induction n with
  | zero =>
    intro b acc x5 x6 x7 x8 x9 hb hl ha hn k
    refine ⟨.fz (.tup (dI b)), x5, x6, x7, ?_⟩
    rw [show 0 + 1 + k = k + 1 by omega]
    have : ¬ b.length ≤ m := by omega
    simp [fnSem, startR, gIsi, ty6, Ty6.is, tru?, gNot, gLe, gLt, gGt, gGe, gCmp, gTru, gBl, gLen, gItems, gFld, gIx, gAdd_int, gSub, gNeg, gTuple, gList, gIsN, gNotN, gPart, gtName, gtTup, gtCons, gtNil, sFor, sFor.go, frz, wipeR, fYes, startI, fnI, isNon, noer, LIM, sWhile, e, this, bgo]
  | succ n ih =>
    intro b acc x5 x6 x7 x8 x9 hb hl ha hn k
    rw [show n + 1 + 1 + k = (n + 1 + k) + 1 by omega]
    by_cases h : b.length ≤ m
    · obtain ⟨y5, y6, y7, hbody⟩ := bounds_body (m := m) (t := t) hb (by omega) hs acc (by omega) S x5 x6 x7 x8 x9
      obtain ⟨z4, z5, z6, z7, hw⟩ := ih (nextB t s b) (acc ++ [b]) y5 y6 y7 x8 x9 (by intro z; have := congrArg List.length z; rw [nextB_len] at this; simp [fnSem, startR, gIsi, ty6, Ty6.is, tru?, gNot, gLe, gLt, gGt, gGe, gCmp, gTru, gBl, gLen, gItems, gFld, gIx, gAdd_int, gSub, gNeg, gTuple, gList, gIsN, gNotN, gPart, gtName, gtTup, gtCons, gtNil, sFor, sFor.go, frz, wipeR, fYes, startI, fnI, isNon, noer, LIM] at this; omega) (by rw [nextB_len]; omega) (by simp [fnSem, startR, gIsi, ty6, Ty6.is, tru?, gNot, gLe, gLt, gGt, gGe, gCmp, gTru, gBl, gLen, gItems, gFld, gIx, gAdd_int, gSub, gNeg, gTuple, gList, gIsN, gNotN, gPart, gtName, gtTup, gtCons, gtNil, sFor, sFor.go, frz, wipeR, fYes, startI, fnI, isNon, noer, LIM]; omega) (by rw [nextB_len]; omega) k
      refine ⟨z4, z5, z6, z7, ?_⟩
      simp [fnSem, startR, gIsi, ty6, Ty6.is, tru?, gNot, gLe, gLt, gGt, gGe, gCmp, gTru, gBl, gLen, gItems, gFld, gIx, gAdd_int, gSub, gNeg, gTuple, gList, gIsN, gNotN, gPart, gtName, gtTup, gtCons, gtNil, sFor, sFor.go, frz, wipeR, fYes, startI, fnI, isNon, noer, LIM, sWhile, e, h, hbody, hw, bgo]
    · exact ⟨.fz (.tup (dI b)), x5, x6, x7, by simp [fnSem, startR, gIsi, ty6, Ty6.is, tru?, gNot, gLe, gLt, gGt, gGe, gCmp, gTru, gBl, gLen, gItems, gFld, gIx, gAdd_int, gSub, gNeg, gTuple, gList, gIsN, gNotN, gPart, gtName, gtTup, gtCons, gtNil, sFor, sFor.go, frz, wipeR, fYes, startI, fnI, isNon, noer, LIM, sWhile, e, h, bgo]⟩
def bndL (m : Nat) (t : Int) (s : Nat) : List (List Int) := bgo 150 m t s [t]
theorem e_bounds {m : Nat} {t : Int} {s : Nat} (hs1 : 1 ≤ s) (hs : s ≤ 3) (hm : m ≤ 120) (S : Store) : F_bounds_of [.int m, .int t, .int s] S = .ok (.lst (dT (bndL m t s))) S := by
  obtain ⟨y4, y5, y6, y7, h⟩ := bounds_while (t := t) hs1 hs hm S 150 [t] [] .un .un .un .un .un (by simp [fnSem, startR, gIsi, ty6, Ty6.is, tru?, gNot, gLe, gLt, gGt, gGe, gCmp, gTru, gBl, gLen, gItems, gFld, gIx, gAdd_int, gSub, gNeg, gTuple, gList, gIsN, gNotN, gPart, gtName, gtTup, gtCons, gtNil, sFor, sFor.go, frz, wipeR, fYes, startI, fnI, isNon, noer, LIM]) (by simp [fnSem, startR, gIsi, ty6, Ty6.is, tru?, gNot, gLe, gLt, gGt, gGe, gCmp, gTru, gBl, gLen, gItems, gFld, gIx, gAdd_int, gSub, gNeg, gTuple, gList, gIsN, gNotN, gPart, gtName, gtTup, gtCons, gtNil, sFor, sFor.go, frz, wipeR, fYes, startI, fnI, isNon, noer, LIM]) (by simp [fnSem, startR, gIsi, ty6, Ty6.is, tru?, gNot, gLe, gLt, gGt, gGe, gCmp, gTru, gBl, gLen, gItems, gFld, gIx, gAdd_int, gSub, gNeg, gTuple, gList, gIsN, gNotN, gPart, gtName, gtTup, gtCons, gtNil, sFor, sFor.go, frz, wipeR, fYes, startI, fnI, isNon, noer, LIM]) (by simp [fnSem, startR, gIsi, ty6, Ty6.is, tru?, gNot, gLe, gLt, gGt, gGe, gCmp, gTru, gBl, gLen, gItems, gFld, gIx, gAdd_int, gSub, gNeg, gTuple, gList, gIsN, gNotN, gPart, gtName, gtTup, gtCons, gtNil, sFor, sFor.go, frz, wipeR, fYes, startI, fnI, isNon, noer, LIM]; omega) 849
  simp only [List.nil_append, Nat.reduceAdd] at h
  have e : dI [t] = [.int t] := rfl
  rw [e] at h
  have e : dT [] = [] := rfl
  rw [e] at h
  simp [fnSem, startR, gIsi, ty6, Ty6.is, tru?, gNot, gLe, gLt, gGt, gGe, gCmp, gTru, gBl, gLen, gItems, gFld, gIx, gAdd_int, gSub, gNeg, gTuple, gList, gIsN, gNotN, gPart, gtName, gtTup, gtCons, gtNil, sFor, sFor.go, frz, wipeR, fYes, startI, fnI, isNon, noer, LIM, F_bounds_of, S_bounds_of, h, bndL]
/-! ### the law's bounds -/
end Bx

namespace Bx
open PySem L2
/-! ### tops, sums -/
def pre : Int → List Int → List Int
  | _, [] => []
  | w, x :: xs => (w + x) :: pre (w + x) xs
theorem pre_len : ∀ (w : Int) (l : List Int), (pre w l).length = l.length
  | _, [] => rfl
  | w, x :: xs => by simp [fnSem, startR, gIsi, ty6, Ty6.is, tru?, gNot, gLe, gLt, gGt, gGe, gCmp, gTru, gBl, gLen, gItems, gFld, gIx, gAdd_int, gSub, gNeg, gTuple, gList, gIsN, gNotN, gPart, gtName, gtTup, gtCons, gtNil, sFor, sFor.go, frz, wipeR, fYes, startI, fnI, isNon, noer, LIM, pre, pre_len]
theorem sortI_len (l : List Int) : (sortI l).length = l.length := (sortI_perm l).length_eq
theorem tops_for {x0 : Sl} (S : Store) : ∀ (l acc : List Int) (w : Int) (x3 : Sl), acc.length + l.length ≤ 1000 →
    ∃ y2 y3, sFor.go (gtName 3) B_tops_of_1 (dI l) [x0, .ow (dI acc), .fz (.int w), x3] S = .mk (.nx [x0, .ow (dI (acc ++ pre w l)), y2, y3]) S := by
  intro l
  induction l with
  | nil => exact fun acc w x3 _ => ⟨.fz (.int w), x3, by simp [fnSem, startR, gIsi, ty6, Ty6.is, tru?, gNot, gLe, gLt, gGt, gGe, gCmp, gTru, gBl, gLen, gItems, gFld, gIx, gAdd_int, gSub, gNeg, gTuple, gList, gIsN, gNotN, gPart, gtName, gtTup, gtCons, gtNil, sFor, sFor.go, frz, wipeR, fYes, startI, fnI, isNon, noer, LIM, gSortedRev, gSorted, pre_len, gRev, gSum, pre]⟩
  | cons a l ih =>
    intro acc w x3 h
    simp [fnSem, startR, gIsi, ty6, Ty6.is, tru?, gNot, gLe, gLt, gGt, gGe, gCmp, gTru, gBl, gLen, gItems, gFld, gIx, gAdd_int, gSub, gNeg, gTuple, gList, gIsN, gNotN, gPart, gtName, gtTup, gtCons, gtNil, sFor, sFor.go, frz, wipeR, fYes, startI, fnI, isNon, noer, LIM, gSortedRev, gSorted, pre_len, gRev, gSum] at h
    obtain ⟨y2, y3, hy⟩ := ih (acc ++ [w + a]) (w + a) (.fz (.int a)) (by simp [fnSem, startR, gIsi, ty6, Ty6.is, tru?, gNot, gLe, gLt, gGt, gGe, gCmp, gTru, gBl, gLen, gItems, gFld, gIx, gAdd_int, gSub, gNeg, gTuple, gList, gIsN, gNotN, gPart, gtName, gtTup, gtCons, gtNil, sFor, sFor.go, frz, wipeR, fYes, startI, fnI, isNon, noer, LIM, gSortedRev, gSorted, pre_len, gRev, gSum]; omega)
    refine ⟨y2, y3, ?_⟩
    have hb : B_tops_of_1 [x0, .ow (dI acc), .fz (.int w), .fz (.int a)] S = .mk (.nx [x0, .ow (dI (acc ++ [w + a])), .fz (.int (w + a)), .fz (.int a)]) S := by
      simp (discharger := first | (simp [fnSem, startR, gIsi, ty6, Ty6.is, tru?, gNot, gLe, gLt, gGt, gGe, gCmp, gTru, gBl, gLen, gItems, gFld, gIx, gAdd_int, gSub, gNeg, gTuple, gList, gIsN, gNotN, gPart, gtName, gtTup, gtCons, gtNil, sFor, sFor.go, frz, wipeR, fYes, startI, fnI, isNon, noer, LIM, gSortedRev, gSorted, pre_len, gRev, gSum]; done) | omega | (simp [fnSem, startR, gIsi, ty6, Ty6.is, tru?, gNot, gLe, gLt, gGt, gGe, gCmp, gTru, gBl, gLen, gItems, gFld, gIx, gAdd_int, gSub, gNeg, gTuple, gList, gIsN, gNotN, gPart, gtName, gtTup, gtCons, gtNil, sFor, sFor.go, frz, wipeR, fYes, startI, fnI, isNon, noer, LIM, gSortedRev, gSorted, pre_len, gRev, gSum]; omega)) [fnSem, startR, gIsi, ty6, Ty6.is, tru?, gNot, gLe, gLt, gGt, gGe, gCmp, gTru, gBl, gLen, gItems, gFld, gIx, gAdd_int, gSub, gNeg, gTuple, gList, gIsN, gNotN, gPart, gtName, gtTup, gtCons, gtNil, sFor, sFor.go, frz, wipeR, fYes, startI, fnI, isNon, noer, LIM, gSortedRev, gSorted, pre_len, gRev, gSum, ite_le, ite_lt, gFdiv_ok, gMod_ok, gRange1_ok, gRange2_ok, gPow_ok, gAddL_ok, gAddT_ok, gAdd_int, fLc, rangeD0, ix0, ix1, ix2, gSl_takeL, gSl_dropL, gSl_takeT, gSl_dropT, map_int, B_tops_of_1]
    simp [fnSem, startR, gIsi, ty6, Ty6.is, tru?, gNot, gLe, gLt, gGt, gGe, gCmp, gTru, gBl, gLen, gItems, gFld, gIx, gAdd_int, gSub, gNeg, gTuple, gList, gIsN, gNotN, gPart, gtName, gtTup, gtCons, gtNil, sFor, sFor.go, frz, wipeR, fYes, startI, fnI, isNon, noer, LIM, gSortedRev, gSorted, pre_len, gRev, gSum, dI_cons, hb, hy, pre]
theorem e_tops {l : List Int} (h : l.length ≤ 200) (S : Store) : F_tops_of [.lst (dI l)] S = .ok (.tup (dI (pre 0 (sortI l).reverse))) S := by
  obtain ⟨y2, y3, h⟩ := tops_for (x0 := .fz (.lst (dI l))) S (sortI l).reverse [] 0 .un (by simp [fnSem, startR, gIsi, ty6, Ty6.is, tru?, gNot, gLe, gLt, gGt, gGe, gCmp, gTru, gBl, gLen, gItems, gFld, gIx, gAdd_int, gSub, gNeg, gTuple, gList, gIsN, gNotN, gPart, gtName, gtTup, gtCons, gtNil, sFor, sFor.go, frz, wipeR, fYes, startI, fnI, isNon, noer, LIM, gSortedRev, gSorted, pre_len, gRev, gSum, sortI_len]; omega)
  simp [fnSem, startR, gIsi, ty6, Ty6.is, tru?, gNot, gLe, gLt, gGt, gGe, gCmp, gTru, gBl, gLen, gItems, gFld, gIx, gAdd_int, gSub, gNeg, gTuple, gList, gIsN, gNotN, gPart, gtName, gtTup, gtCons, gtNil, sFor, sFor.go, frz, wipeR, fYes, startI, fnI, isNon, noer, LIM, gSortedRev, gSorted, pre_len, gRev, gSum] at h
  simp (discharger := first | (simp [fnSem, startR, gIsi, ty6, Ty6.is, tru?, gNot, gLe, gLt, gGt, gGe, gCmp, gTru, gBl, gLen, gItems, gFld, gIx, gAdd_int, gSub, gNeg, gTuple, gList, gIsN, gNotN, gPart, gtName, gtTup, gtCons, gtNil, sFor, sFor.go, frz, wipeR, fYes, startI, fnI, isNon, noer, LIM, gSortedRev, gSorted, pre_len, gRev, gSum]; done) | omega | (simp [fnSem, startR, gIsi, ty6, Ty6.is, tru?, gNot, gLe, gLt, gGt, gGe, gCmp, gTru, gBl, gLen, gItems, gFld, gIx, gAdd_int, gSub, gNeg, gTuple, gList, gIsN, gNotN, gPart, gtName, gtTup, gtCons, gtNil, sFor, sFor.go, frz, wipeR, fYes, startI, fnI, isNon, noer, LIM, gSortedRev, gSorted, pre_len, gRev, gSum]; omega)) [fnSem, startR, gIsi, ty6, Ty6.is, tru?, gNot, gLe, gLt, gGt, gGe, gCmp, gTru, gBl, gLen, gItems, gFld, gIx, gAdd_int, gSub, gNeg, gTuple, gList, gIsN, gNotN, gPart, gtName, gtTup, gtCons, gtNil, sFor, sFor.go, frz, wipeR, fYes, startI, fnI, isNon, noer, LIM, gSortedRev, gSorted, pre_len, gRev, gSum, ite_le, ite_lt, gFdiv_ok, gMod_ok, gRange1_ok, gRange2_ok, gPow_ok, gAddL_ok, gAddT_ok, gAdd_int, fLc, rangeD0, ix0, ix1, ix2, gSl_takeL, gSl_dropL, gSl_takeT, gSl_dropT, map_int, F_tops_of, S_tops_of, h]
/-- the told sums -/
def rowD (l b : List Int) : D := .tup [.int b.length, .tup (dI (pre 0 (sortI (l.take b.length)).reverse)), .tup (dI b)]
theorem sums_for {l : List Int} {x1 x2 : Sl} (hl : l.length ≤ 200) (S : Store) : ∀ (B : List (List Int)) (acc : List D) (x4 : Sl), acc.length + B.length ≤ 1000 →
    ∃ y4, sFor.go (gtName 4) B_sums_of_1 (dT B) [.fz (.lst (dI l)), x1, x2, .ow acc, x4] S = .mk (.nx [.fz (.lst (dI l)), x1, x2, .ow (acc ++ B.map (rowD l)), y4]) S := by
  intro B
  induction B with
  | nil => exact fun acc x4 _ => ⟨x4, by simp [fnSem, startR, gIsi, ty6, Ty6.is, tru?, gNot, gLe, gLt, gGt, gGe, gCmp, gTru, gBl, gLen, gItems, gFld, gIx, gAdd_int, gSub, gNeg, gTuple, gList, gIsN, gNotN, gPart, gtName, gtTup, gtCons, gtNil, sFor, sFor.go, frz, wipeR, fYes, startI, fnI, isNon, noer, LIM, gSortedRev, gSorted, pre_len, gRev, gSum, dT]⟩
  | cons b B ih =>
    intro acc x4 h
    simp [fnSem, startR, gIsi, ty6, Ty6.is, tru?, gNot, gLe, gLt, gGt, gGe, gCmp, gTru, gBl, gLen, gItems, gFld, gIx, gAdd_int, gSub, gNeg, gTuple, gList, gIsN, gNotN, gPart, gtName, gtTup, gtCons, gtNil, sFor, sFor.go, frz, wipeR, fYes, startI, fnI, isNon, noer, LIM, gSortedRev, gSorted, pre_len, gRev, gSum] at h
    obtain ⟨y4, hy⟩ := ih (acc ++ [rowD l b]) (.fz (.tup (dI b))) (by simp [fnSem, startR, gIsi, ty6, Ty6.is, tru?, gNot, gLe, gLt, gGt, gGe, gCmp, gTru, gBl, gLen, gItems, gFld, gIx, gAdd_int, gSub, gNeg, gTuple, gList, gIsN, gNotN, gPart, gtName, gtTup, gtCons, gtNil, sFor, sFor.go, frz, wipeR, fYes, startI, fnI, isNon, noer, LIM, gSortedRev, gSorted, pre_len, gRev, gSum]; omega)
    refine ⟨y4, ?_⟩
    have hb : B_sums_of_1 [.fz (.lst (dI l)), x1, x2, .ow acc, .fz (.tup (dI b))] S = .mk (.nx [.fz (.lst (dI l)), x1, x2, .ow (acc ++ [rowD l b]), .fz (.tup (dI b))]) S := by
      simp (discharger := first | (simp [fnSem, startR, gIsi, ty6, Ty6.is, tru?, gNot, gLe, gLt, gGt, gGe, gCmp, gTru, gBl, gLen, gItems, gFld, gIx, gAdd_int, gSub, gNeg, gTuple, gList, gIsN, gNotN, gPart, gtName, gtTup, gtCons, gtNil, sFor, sFor.go, frz, wipeR, fYes, startI, fnI, isNon, noer, LIM, gSortedRev, gSorted, pre_len, gRev, gSum]; done) | omega | (simp [fnSem, startR, gIsi, ty6, Ty6.is, tru?, gNot, gLe, gLt, gGt, gGe, gCmp, gTru, gBl, gLen, gItems, gFld, gIx, gAdd_int, gSub, gNeg, gTuple, gList, gIsN, gNotN, gPart, gtName, gtTup, gtCons, gtNil, sFor, sFor.go, frz, wipeR, fYes, startI, fnI, isNon, noer, LIM, gSortedRev, gSorted, pre_len, gRev, gSum]; omega)) [fnSem, startR, gIsi, ty6, Ty6.is, tru?, gNot, gLe, gLt, gGt, gGe, gCmp, gTru, gBl, gLen, gItems, gFld, gIx, gAdd_int, gSub, gNeg, gTuple, gList, gIsN, gNotN, gPart, gtName, gtTup, gtCons, gtNil, sFor, sFor.go, frz, wipeR, fYes, startI, fnI, isNon, noer, LIM, gSortedRev, gSorted, pre_len, gRev, gSum, ite_le, ite_lt, gFdiv_ok, gMod_ok, gRange1_ok, gRange2_ok, gPow_ok, gAddL_ok, gAddT_ok, gAdd_int, fLc, rangeD0, ix0, ix1, ix2, gSl_takeL, gSl_dropL, gSl_takeT, gSl_dropT, map_int, B_sums_of_1, e_tops, rowD]
    simp [fnSem, startR, gIsi, ty6, Ty6.is, tru?, gNot, gLe, gLt, gGt, gGe, gCmp, gTru, gBl, gLen, gItems, gFld, gIx, gAdd_int, gSub, gNeg, gTuple, gList, gIsN, gNotN, gPart, gtName, gtTup, gtCons, gtNil, sFor, sFor.go, frz, wipeR, fYes, startI, fnI, isNon, noer, LIM, gSortedRev, gSorted, pre_len, gRev, gSum, dT, hb]
    simp [fnSem, startR, gIsi, ty6, Ty6.is, tru?, gNot, gLe, gLt, gGt, gGe, gCmp, gTru, gBl, gLen, gItems, gFld, gIx, gAdd_int, gSub, gNeg, gTuple, gList, gIsN, gNotN, gPart, gtName, gtTup, gtCons, gtNil, sFor, sFor.go, frz, wipeR, fYes, startI, fnI, isNon, noer, LIM, gSortedRev, gSorted, pre_len, gRev, gSum, dT] at hy
    exact hy
theorem bgo_len : ∀ (n m : Nat) (t : Int) (s : Nat) (b : List Int), (bgo n m t s b).length ≤ n
  | 0, _, _, _, _ => by simp [fnSem, startR, gIsi, ty6, Ty6.is, tru?, gNot, gLe, gLt, gGt, gGe, gCmp, gTru, gBl, gLen, gItems, gFld, gIx, gAdd_int, gSub, gNeg, gTuple, gList, gIsN, gNotN, gPart, gtName, gtTup, gtCons, gtNil, sFor, sFor.go, frz, wipeR, fYes, startI, fnI, isNon, noer, LIM, gSortedRev, gSorted, pre_len, gRev, gSum, bgo]
  | n + 1, m, t, s, b => by
    unfold bgo
    split
    · simp [fnSem, startR, gIsi, ty6, Ty6.is, tru?, gNot, gLe, gLt, gGt, gGe, gCmp, gTru, gBl, gLen, gItems, gFld, gIx, gAdd_int, gSub, gNeg, gTuple, gList, gIsN, gNotN, gPart, gtName, gtTup, gtCons, gtNil, sFor, sFor.go, frz, wipeR, fYes, startI, fnI, isNon, noer, LIM, gSortedRev, gSorted, pre_len, gRev, gSum]; exact bgo_len n m t s _
    · simp [fnSem, startR, gIsi, ty6, Ty6.is, tru?, gNot, gLe, gLt, gGt, gGe, gCmp, gTru, gBl, gLen, gItems, gFld, gIx, gAdd_int, gSub, gNeg, gTuple, gList, gIsN, gNotN, gPart, gtName, gtTup, gtCons, gtNil, sFor, sFor.go, frz, wipeR, fYes, startI, fnI, isNon, noer, LIM, gSortedRev, gSorted, pre_len, gRev, gSum]
theorem bnd_len (m : Nat) (t : Int) (s : Nat) : (bndL m t s).length ≤ 150 := bgo_len _ _ _ _ _
def sumsD (l : List Int) (t : Int) (s : Nat) : List D := (bndL l.length t s).map (rowD l)
theorem e_sums_of {l : List Int} {t : Int} {s : Nat} (hl : l.length ≤ 120) (hs1 : 1 ≤ s) (hs : s ≤ 3) (S : Store) : F_sums_of [.lst (dI l), .int t, .int s] S = .ok (.lst (sumsD l t s)) S := by
  have := bnd_len l.length t s
  obtain ⟨y4, h⟩ := sums_for (l := l) (x1 := .fz (.int t)) (x2 := .fz (.int s)) (by omega) S (bndL l.length t s) [] .un (by simp [fnSem, startR, gIsi, ty6, Ty6.is, tru?, gNot, gLe, gLt, gGt, gGe, gCmp, gTru, gBl, gLen, gItems, gFld, gIx, gAdd_int, gSub, gNeg, gTuple, gList, gIsN, gNotN, gPart, gtName, gtTup, gtCons, gtNil, sFor, sFor.go, frz, wipeR, fYes, startI, fnI, isNon, noer, LIM, gSortedRev, gSorted, pre_len, gRev, gSum]; omega)
  simp [fnSem, startR, gIsi, ty6, Ty6.is, tru?, gNot, gLe, gLt, gGt, gGe, gCmp, gTru, gBl, gLen, gItems, gFld, gIx, gAdd_int, gSub, gNeg, gTuple, gList, gIsN, gNotN, gPart, gtName, gtTup, gtCons, gtNil, sFor, sFor.go, frz, wipeR, fYes, startI, fnI, isNon, noer, LIM, gSortedRev, gSorted, pre_len, gRev, gSum] at h
  simp (discharger := first | (simp [fnSem, startR, gIsi, ty6, Ty6.is, tru?, gNot, gLe, gLt, gGt, gGe, gCmp, gTru, gBl, gLen, gItems, gFld, gIx, gAdd_int, gSub, gNeg, gTuple, gList, gIsN, gNotN, gPart, gtName, gtTup, gtCons, gtNil, sFor, sFor.go, frz, wipeR, fYes, startI, fnI, isNon, noer, LIM, gSortedRev, gSorted, pre_len, gRev, gSum]; done) | omega | (simp [fnSem, startR, gIsi, ty6, Ty6.is, tru?, gNot, gLe, gLt, gGt, gGe, gCmp, gTru, gBl, gLen, gItems, gFld, gIx, gAdd_int, gSub, gNeg, gTuple, gList, gIsN, gNotN, gPart, gtName, gtTup, gtCons, gtNil, sFor, sFor.go, frz, wipeR, fYes, startI, fnI, isNon, noer, LIM, gSortedRev, gSorted, pre_len, gRev, gSum]; omega)) [fnSem, startR, gIsi, ty6, Ty6.is, tru?, gNot, gLe, gLt, gGt, gGe, gCmp, gTru, gBl, gLen, gItems, gFld, gIx, gAdd_int, gSub, gNeg, gTuple, gList, gIsN, gNotN, gPart, gtName, gtTup, gtCons, gtNil, sFor, sFor.go, frz, wipeR, fYes, startI, fnI, isNon, noer, LIM, gSortedRev, gSorted, pre_len, gRev, gSum, ite_le, ite_lt, gFdiv_ok, gMod_ok, gRange1_ok, gRange2_ok, gPow_ok, gAddL_ok, gAddT_ok, gAdd_int, fLc, rangeD0, ix0, ix1, ix2, gSl_takeL, gSl_dropL, gSl_takeT, gSl_dropT, map_int, F_sums_of, S_sums_of, e_bounds hs1 hs hl, h, sumsD]
/-! the law's -/
theorem pre_get : ∀ (l : List Int) (w : Int), pre w l = (List.range l.length).map fun k => w + (l.take (k + 1)).sum
  | [], w => rfl
  | x :: l, w => by
    simp only [pre, List.length_cons, List.range_succ_eq_map, List.map_cons, List.map_map, pre_get l (w + x)]
    simp [fnSem, startR, gIsi, ty6, Ty6.is, tru?, gNot, gLe, gLt, gGt, gGe, gCmp, gTru, gBl, gLen, gItems, gFld, gIx, gAdd_int, gSub, gNeg, gTuple, gList, gIsN, gNotN, gPart, gtName, gtTup, gtCons, gtNil, sFor, sFor.go, frz, wipeR, fYes, startI, fnI, isNon, noer, LIM, gSortedRev, gSorted, pre_len, gRev, gSum]
    intro a _
    omega
end Bx

namespace Bx
open PySem L2
/-! ### turns -/
def ovr (a b : List Int) : Int := maxL (0 :: List.zipWith (fun x y => x - y) a b)
theorem getD_get {l : List Int} {j : Nat} (h : j < l.length) : l.getD j 0 = l[j] := by
  rw [List.getD_eq_getElem?_getD, List.getElem?_eq_getElem h]
  rfl
theorem zip_sub : ∀ a b : List Int, (((dI a).zip (dI b)).map fun p => D.tup [p.1, p.2]).map (fun d => match d with | .tup [.int x, .int y] => D.int (x - y) | d => d) = dI (List.zipWith (fun x y => x - y) a b)
  | [], b => by simp [fnSem, startR, gIsi, ty6, Ty6.is, tru?, gNot, gLe, gLt, gGt, gGe, gCmp, gTru, gBl, gLen, gItems, gFld, gIx, gAdd_int, gSub, gNeg, gTuple, gList, gIsN, gNotN, gPart, gtName, gtTup, gtCons, gtNil, sFor, sFor.go, frz, wipeR, fYes, startI, fnI, isNon, noer, LIM, gSortedRev, gSorted, pre_len, gRev, gSum, gZip, gEnumA, gMax]
  | a :: as, [] => by simp [fnSem, startR, gIsi, ty6, Ty6.is, tru?, gNot, gLe, gLt, gGt, gGe, gCmp, gTru, gBl, gLen, gItems, gFld, gIx, gAdd_int, gSub, gNeg, gTuple, gList, gIsN, gNotN, gPart, gtName, gtTup, gtCons, gtNil, sFor, sFor.go, frz, wipeR, fYes, startI, fnI, isNon, noer, LIM, gSortedRev, gSorted, pre_len, gRev, gSum, gZip, gEnumA, gMax]
  | a :: as, b :: bs => by
    rw [dI_cons, dI_cons, List.zip_cons_cons, List.map_cons, List.map_cons, zip_sub as bs]
    rfl
theorem e_over {a b : List Int} (ha : a.length ≤ 200) (S : Store) : F_over [.tup (dI a), .tup (dI b)] S = .ok (.int (ovr a b)) S := by
  have e : lcL (gtTup 2 (gtCons (gtName 2) (gtCons (gtName 3) gtNil))) fYes E_over_1 [.fz (.tup (dI a)), .fz (.tup (dI b)), .un, .un] (((dI a).zip (dI b)).map fun p => .tup [p.1, p.2]) [] S = .ok (dI (List.zipWith (fun x y => x - y) a b)) S := by
    rw [lc_map (fun d => match d with | .tup [.int x, .int y] => D.int (x - y) | d => d) _ _ fun d hd => ?_]
    · rw [zip_sub, List.nil_append]
    · obtain ⟨p, hp, rfl⟩ := List.mem_map.mp hd
      obtain ⟨x, y⟩ := p
      have h1 := List.of_mem_zip hp
      obtain ⟨x', _, e1⟩ := List.mem_map.mp h1.1
      obtain ⟨y', _, e2⟩ := List.mem_map.mp h1.2
      subst e1 e2
      exact ⟨_, rfl, by simp (discharger := first | (simp [fnSem, startR, gIsi, ty6, Ty6.is, tru?, gNot, gLe, gLt, gGt, gGe, gCmp, gTru, gBl, gLen, gItems, gFld, gIx, gAdd_int, gSub, gNeg, gTuple, gList, gIsN, gNotN, gPart, gtName, gtTup, gtCons, gtNil, sFor, sFor.go, frz, wipeR, fYes, startI, fnI, isNon, noer, LIM, gSortedRev, gSorted, pre_len, gRev, gSum, gZip, gEnumA, gMax]; done) | omega | (simp [fnSem, startR, gIsi, ty6, Ty6.is, tru?, gNot, gLe, gLt, gGt, gGe, gCmp, gTru, gBl, gLen, gItems, gFld, gIx, gAdd_int, gSub, gNeg, gTuple, gList, gIsN, gNotN, gPart, gtName, gtTup, gtCons, gtNil, sFor, sFor.go, frz, wipeR, fYes, startI, fnI, isNon, noer, LIM, gSortedRev, gSorted, pre_len, gRev, gSum, gZip, gEnumA, gMax]; omega)) [fnSem, startR, gIsi, ty6, Ty6.is, tru?, gNot, gLe, gLt, gGt, gGe, gCmp, gTru, gBl, gLen, gItems, gFld, gIx, gAdd_int, gSub, gNeg, gTuple, gList, gIsN, gNotN, gPart, gtName, gtTup, gtCons, gtNil, sFor, sFor.go, frz, wipeR, fYes, startI, fnI, isNon, noer, LIM, gSortedRev, gSorted, pre_len, gRev, gSum, gZip, gEnumA, gMax, ite_le, ite_lt, gFdiv_ok, gMod_ok, gRange1_ok, gRange2_ok, gPow_ok, gAddL_ok, gAddT_ok, gAdd_int, fLc, rangeD0, ix0, ix1, ix2, gSl_takeL, gSl_dropL, gSl_takeT, gSl_dropT, map_int, E_over_1]⟩
  have c : ((dI a).zip (dI b)).length ≤ 200 := by simp [fnSem, startR, gIsi, ty6, Ty6.is, tru?, gNot, gLe, gLt, gGt, gGe, gCmp, gTru, gBl, gLen, gItems, gFld, gIx, gAdd_int, gSub, gNeg, gTuple, gList, gIsN, gNotN, gPart, gtName, gtTup, gtCons, gtNil, sFor, sFor.go, frz, wipeR, fYes, startI, fnI, isNon, noer, LIM, gSortedRev, gSorted, pre_len, gRev, gSum, gZip, gEnumA, gMax]; omega
  simp [fnSem, startR, gIsi, ty6, Ty6.is, tru?, gNot, gLe, gLt, gGt, gGe, gCmp, gTru, gBl, gLen, gItems, gFld, gIx, gAdd_int, gSub, gNeg, gTuple, gList, gIsN, gNotN, gPart, gtName, gtTup, gtCons, gtNil, sFor, sFor.go, frz, wipeR, fYes, startI, fnI, isNon, noer, LIM, gSortedRev, gSorted, pre_len, gRev, gSum, gZip, gEnumA, gMax] at c
  have e0 : D.int 0 :: dI (List.zipWith (fun x y => x - y) a b) = dI (0 :: List.zipWith (fun x y => x - y) a b) := rfl
  simp (discharger := first | (simp [fnSem, startR, gIsi, ty6, Ty6.is, tru?, gNot, gLe, gLt, gGt, gGe, gCmp, gTru, gBl, gLen, gItems, gFld, gIx, gAdd_int, gSub, gNeg, gTuple, gList, gIsN, gNotN, gPart, gtName, gtTup, gtCons, gtNil, sFor, sFor.go, frz, wipeR, fYes, startI, fnI, isNon, noer, LIM, gSortedRev, gSorted, pre_len, gRev, gSum, gZip, gEnumA, gMax]; done) | omega | (simp [fnSem, startR, gIsi, ty6, Ty6.is, tru?, gNot, gLe, gLt, gGt, gGe, gCmp, gTru, gBl, gLen, gItems, gFld, gIx, gAdd_int, gSub, gNeg, gTuple, gList, gIsN, gNotN, gPart, gtName, gtTup, gtCons, gtNil, sFor, sFor.go, frz, wipeR, fYes, startI, fnI, isNon, noer, LIM, gSortedRev, gSorted, pre_len, gRev, gSum, gZip, gEnumA, gMax]; omega)) [fnSem, startR, gIsi, ty6, Ty6.is, tru?, gNot, gLe, gLt, gGt, gGe, gCmp, gTru, gBl, gLen, gItems, gFld, gIx, gAdd_int, gSub, gNeg, gTuple, gList, gIsN, gNotN, gPart, gtName, gtTup, gtCons, gtNil, sFor, sFor.go, frz, wipeR, fYes, startI, fnI, isNon, noer, LIM, gSortedRev, gSorted, pre_len, gRev, gSum, gZip, gEnumA, gMax, ite_le, ite_lt, gFdiv_ok, gMod_ok, gRange1_ok, gRange2_ok, gPow_ok, gAddL_ok, gAddT_ok, gAdd_int, fLc, rangeD0, ix0, ix1, ix2, gSl_takeL, gSl_dropL, gSl_takeT, gSl_dropT, map_int, F_over, S_over, e, e0, ovr]
theorem ovr_zero {a b : List Int} (h : a.length = b.length) : ovr a b = 0 ↔ ∀ j, j < a.length → a.getD j 0 ≤ b.getD j 0 := by
  constructor
  · intro e j hj
    have h1 : (List.zipWith (fun x y => x - y) a b)[j]'(by simp [fnSem, startR, gIsi, ty6, Ty6.is, tru?, gNot, gLe, gLt, gGt, gGe, gCmp, gTru, gBl, gLen, gItems, gFld, gIx, gAdd_int, gSub, gNeg, gTuple, gList, gIsN, gNotN, gPart, gtName, gtTup, gtCons, gtNil, sFor, sFor.go, frz, wipeR, fYes, startI, fnI, isNon, noer, LIM, gSortedRev, gSorted, pre_len, gRev, gSum, gZip, gEnumA, gMax]; omega) ∈ (0 :: List.zipWith (fun x y => x - y) a b) := List.mem_cons_of_mem _ (List.getElem_mem _)
    have h2 := maxL_ge _ h1
    unfold ovr at e
    rw [e] at h2
    simp [fnSem, startR, gIsi, ty6, Ty6.is, tru?, gNot, gLe, gLt, gGt, gGe, gCmp, gTru, gBl, gLen, gItems, gFld, gIx, gAdd_int, gSub, gNeg, gTuple, gList, gIsN, gNotN, gPart, gtName, gtTup, gtCons, gtNil, sFor, sFor.go, frz, wipeR, fYes, startI, fnI, isNon, noer, LIM, gSortedRev, gSorted, pre_len, gRev, gSum, gZip, gEnumA, gMax] at h2
    rw [getD_get hj, getD_get (by omega)]
    omega
  · intro k
    have h1 : 0 ≤ ovr a b := maxL_ge _ (List.mem_cons_self ..)
    have h2 := maxL_mem (l := 0 :: List.zipWith (fun x y => x - y) a b) (by simp [fnSem, startR, gIsi, ty6, Ty6.is, tru?, gNot, gLe, gLt, gGt, gGe, gCmp, gTru, gBl, gLen, gItems, gFld, gIx, gAdd_int, gSub, gNeg, gTuple, gList, gIsN, gNotN, gPart, gtName, gtTup, gtCons, gtNil, sFor, sFor.go, frz, wipeR, fYes, startI, fnI, isNon, noer, LIM, gSortedRev, gSorted, pre_len, gRev, gSum, gZip, gEnumA, gMax])
    unfold ovr at h1 ⊢
    rcases List.mem_cons.mp h2 with z | z
    · exact z
    · obtain ⟨j, hj, e⟩ := List.getElem_of_mem z
      have hj2 : j < a.length := by simp [fnSem, startR, gIsi, ty6, Ty6.is, tru?, gNot, gLe, gLt, gGt, gGe, gCmp, gTru, gBl, gLen, gItems, gFld, gIx, gAdd_int, gSub, gNeg, gTuple, gList, gIsN, gNotN, gPart, gtName, gtTup, gtCons, gtNil, sFor, sFor.go, frz, wipeR, fYes, startI, fnI, isNon, noer, LIM, gSortedRev, gSorted, pre_len, gRev, gSum, gZip, gEnumA, gMax] at hj; omega
      have := k j hj2
      rw [getD_get hj2, getD_get (by omega)] at this
      simp [fnSem, startR, gIsi, ty6, Ty6.is, tru?, gNot, gLe, gLt, gGt, gGe, gCmp, gTru, gBl, gLen, gItems, gFld, gIx, gAdd_int, gSub, gNeg, gTuple, gList, gIsN, gNotN, gPart, gtName, gtTup, gtCons, gtNil, sFor, sFor.go, frz, wipeR, fYes, startI, fnI, isNon, noer, LIM, gSortedRev, gSorted, pre_len, gRev, gSum, gZip, gEnumA, gMax] at e
      omega
def topsL (l b : List Int) : List Int := pre 0 (sortI (l.take b.length)).reverse
def fits (l b : List Int) : Bool := decide (ovr (topsL l b) b = 0)
def fstF (l : List Int) : Nat → List (List Int) → Option Nat
  | _, [] => none
  | k, b :: B => if fits l b then some k else fstF l (k + 1) B
def resD : Option Nat → D
  | none => .non
  | some k => .int ((k : Int) + 1)
theorem rowD_eq (l b : List Int) : rowD l b = .tup [.int b.length, .tup (dI (topsL l b)), .tup (dI b)] := rfl
theorem topsL_len (l b : List Int) : (topsL l b).length = min b.length l.length := by
  unfold topsL
  simp [fnSem, startR, gIsi, ty6, Ty6.is, tru?, gNot, gLe, gLt, gGt, gGe, gCmp, gTru, gBl, gLen, gItems, gFld, gIx, gAdd_int, gSub, gNeg, gTuple, gList, gIsN, gNotN, gPart, gtName, gtTup, gtCons, gtNil, sFor, sFor.go, frz, wipeR, fYes, startI, fnI, isNon, noer, LIM, gSortedRev, gSorted, pre_len, gRev, gSum, gZip, gEnumA, gMax, sortI_len]
theorem turns_for {l : List Int} {x0 x1 x2 : Sl} (hl : l.length ≤ 200) (S : Store) : ∀ (B : List (List Int)) (k : Nat) (x3 x4 : Sl),
    ∃ y3 y4, sFor.go (gtTup 2 (gtCons (gtName 3) (gtCons (gtName 4) gtNil))) B_turns_of_1 (((B.map (rowD l)).zipIdx k).map fun p => .tup [.int p.2, p.1]) [x0, x1, x2, x3, x4] S =
      (match fstF l k B with
      | none => .mk (.nx [x0, x1, x2, y3, y4]) S
      | some j => .mk (.rt (.int ((j : Int) + 1))) S) := by
  intro B
  induction B with
  | nil => exact fun k x3 x4 => ⟨x3, x4, by simp [fnSem, startR, gIsi, ty6, Ty6.is, tru?, gNot, gLe, gLt, gGt, gGe, gCmp, gTru, gBl, gLen, gItems, gFld, gIx, gAdd_int, gSub, gNeg, gTuple, gList, gIsN, gNotN, gPart, gtName, gtTup, gtCons, gtNil, sFor, sFor.go, frz, wipeR, fYes, startI, fnI, isNon, noer, LIM, gSortedRev, gSorted, pre_len, gRev, gSum, gZip, gEnumA, gMax, fstF]⟩
  | cons b B ih =>
    intro k x3 x4
    have ht := topsL_len l b
    have hb : B_turns_of_1 [x0, x1, x2, .fz (.int k), .fz (rowD l b)] S = if fits l b then .mk (.rt (.int ((k : Int) + 1))) S else .mk (.nx [x0, x1, x2, .fz (.int k), .fz (rowD l b)]) S := by
      rw [rowD_eq]
      simp (discharger := first | (simp [fnSem, startR, gIsi, ty6, Ty6.is, tru?, gNot, gLe, gLt, gGt, gGe, gCmp, gTru, gBl, gLen, gItems, gFld, gIx, gAdd_int, gSub, gNeg, gTuple, gList, gIsN, gNotN, gPart, gtName, gtTup, gtCons, gtNil, sFor, sFor.go, frz, wipeR, fYes, startI, fnI, isNon, noer, LIM, gSortedRev, gSorted, pre_len, gRev, gSum, gZip, gEnumA, gMax]; done) | omega | (simp [fnSem, startR, gIsi, ty6, Ty6.is, tru?, gNot, gLe, gLt, gGt, gGe, gCmp, gTru, gBl, gLen, gItems, gFld, gIx, gAdd_int, gSub, gNeg, gTuple, gList, gIsN, gNotN, gPart, gtName, gtTup, gtCons, gtNil, sFor, sFor.go, frz, wipeR, fYes, startI, fnI, isNon, noer, LIM, gSortedRev, gSorted, pre_len, gRev, gSum, gZip, gEnumA, gMax]; omega)) [fnSem, startR, gIsi, ty6, Ty6.is, tru?, gNot, gLe, gLt, gGt, gGe, gCmp, gTru, gBl, gLen, gItems, gFld, gIx, gAdd_int, gSub, gNeg, gTuple, gList, gIsN, gNotN, gPart, gtName, gtTup, gtCons, gtNil, sFor, sFor.go, frz, wipeR, fYes, startI, fnI, isNon, noer, LIM, gSortedRev, gSorted, pre_len, gRev, gSum, gZip, gEnumA, gMax, ite_le, ite_lt, gFdiv_ok, gMod_ok, gRange1_ok, gRange2_ok, gPow_ok, gAddL_ok, gAddT_ok, gAdd_int, fLc, rangeD0, ix0, ix1, ix2, gSl_takeL, gSl_dropL, gSl_takeT, gSl_dropT, map_int, B_turns_of_1, e_over, fits]
    obtain ⟨y3, y4, hy⟩ := ih (k + 1) (.fz (.int k)) (.fz (rowD l b))
    refine ⟨y3, y4, ?_⟩
    simp only [List.map_cons, List.zipIdx_cons]
    by_cases hf : fits l b
    · simp [fnSem, startR, gIsi, ty6, Ty6.is, tru?, gNot, gLe, gLt, gGt, gGe, gCmp, gTru, gBl, gLen, gItems, gFld, gIx, gAdd_int, gSub, gNeg, gTuple, gList, gIsN, gNotN, gPart, gtName, gtTup, gtCons, gtNil, sFor, sFor.go, frz, wipeR, fYes, startI, fnI, isNon, noer, LIM, gSortedRev, gSorted, pre_len, gRev, gSum, gZip, gEnumA, gMax, hb, hf, fstF]
    · simp [fnSem, startR, gIsi, ty6, Ty6.is, tru?, gNot, gLe, gLt, gGt, gGe, gCmp, gTru, gBl, gLen, gItems, gFld, gIx, gAdd_int, gSub, gNeg, gTuple, gList, gIsN, gNotN, gPart, gtName, gtTup, gtCons, gtNil, sFor, sFor.go, frz, wipeR, fYes, startI, fnI, isNon, noer, LIM, gSortedRev, gSorted, pre_len, gRev, gSum, gZip, gEnumA, gMax, hb, hf, fstF]
      exact hy
def turnsO (l : List Int) (t : Int) (s : Nat) : Option Nat := fstF l 0 (bndL l.length t s)
theorem e_turns_of {l : List Int} {t : Int} {s : Nat} (hl : l.length ≤ 120) (hs1 : 1 ≤ s) (hs : s ≤ 3) (S : Store) : F_turns_of [.lst (dI l), .int t, .int s] S = .ok (resD (turnsO (sortI l) t s)) S := by
  obtain ⟨y3, y4, h⟩ := turns_for (l := sortI l) (x0 := .fz (.lst (dI l))) (x1 := .fz (.int t)) (x2 := .fz (.int s)) (by rw [sortI_len]; omega) S (bndL (sortI l).length t s) 0 .un .un
  have e := e_sums_of (l := sortI l) (t := t) (s := s) (by rw [sortI_len]; exact hl) hs1 hs S
  unfold sumsD at e
  simp (discharger := first | (simp [fnSem, startR, gIsi, ty6, Ty6.is, tru?, gNot, gLe, gLt, gGt, gGe, gCmp, gTru, gBl, gLen, gItems, gFld, gIx, gAdd_int, gSub, gNeg, gTuple, gList, gIsN, gNotN, gPart, gtName, gtTup, gtCons, gtNil, sFor, sFor.go, frz, wipeR, fYes, startI, fnI, isNon, noer, LIM, gSortedRev, gSorted, pre_len, gRev, gSum, gZip, gEnumA, gMax]; done) | omega | (simp [fnSem, startR, gIsi, ty6, Ty6.is, tru?, gNot, gLe, gLt, gGt, gGe, gCmp, gTru, gBl, gLen, gItems, gFld, gIx, gAdd_int, gSub, gNeg, gTuple, gList, gIsN, gNotN, gPart, gtName, gtTup, gtCons, gtNil, sFor, sFor.go, frz, wipeR, fYes, startI, fnI, isNon, noer, LIM, gSortedRev, gSorted, pre_len, gRev, gSum, gZip, gEnumA, gMax]; omega)) [fnSem, startR, gIsi, ty6, Ty6.is, tru?, gNot, gLe, gLt, gGt, gGe, gCmp, gTru, gBl, gLen, gItems, gFld, gIx, gAdd_int, gSub, gNeg, gTuple, gList, gIsN, gNotN, gPart, gtName, gtTup, gtCons, gtNil, sFor, sFor.go, frz, wipeR, fYes, startI, fnI, isNon, noer, LIM, gSortedRev, gSorted, pre_len, gRev, gSum, gZip, gEnumA, gMax, ite_le, ite_lt, gFdiv_ok, gMod_ok, gRange1_ok, gRange2_ok, gPow_ok, gAddL_ok, gAddT_ok, gAdd_int, fLc, rangeD0, ix0, ix1, ix2, gSl_takeL, gSl_dropL, gSl_takeT, gSl_dropT, map_int, F_turns_of, S_turns_of, e, h]
  unfold turnsO
  cases fstF (sortI l) 0 (bndL (sortI l).length t s) <;> simp [fnSem, startR, gIsi, ty6, Ty6.is, tru?, gNot, gLe, gLt, gGt, gGe, gCmp, gTru, gBl, gLen, gItems, gFld, gIx, gAdd_int, gSub, gNeg, gTuple, gList, gIsN, gNotN, gPart, gtName, gtTup, gtCons, gtNil, sFor, sFor.go, frz, wipeR, fYes, startI, fnI, isNon, noer, LIM, gSortedRev, gSorted, pre_len, gRev, gSum, gZip, gEnumA, gMax, resD]

end Bx

namespace Bx
open PySem L2
/-! ### the law's turns -/
theorem bgo_mem : ∀ (n m : Nat) (t : Int) (s : Nat) (b c : List Int), c ∈ bgo n m t s b → c.length ≤ m
  | 0, _, _, _, _, _ => by simp [fnSem, startR, gIsi, ty6, Ty6.is, tru?, gNot, gLe, gLt, gGt, gGe, gCmp, gTru, gBl, gLen, gItems, gFld, gIx, gAdd_int, gSub, gNeg, gTuple, gList, gIsN, gNotN, gPart, gtName, gtTup, gtCons, gtNil, sFor, sFor.go, frz, wipeR, fYes, startI, fnI, isNon, noer, LIM, gSortedRev, gSorted, pre_len, gRev, gSum, gZip, gEnumA, gMax, bgo]
  | n + 1, m, t, s, b, c => by
    unfold bgo
    split
    · rename_i h
      intro hc
      rcases List.mem_cons.mp hc with rfl | hc
      · exact h
      · exact bgo_mem n m t s _ c hc
    · simp [fnSem, startR, gIsi, ty6, Ty6.is, tru?, gNot, gLe, gLt, gGt, gGe, gCmp, gTru, gBl, gLen, gItems, gFld, gIx, gAdd_int, gSub, gNeg, gTuple, gList, gIsN, gNotN, gPart, gtName, gtTup, gtCons, gtNil, sFor, sFor.go, frz, wipeR, fYes, startI, fnI, isNon, noer, LIM, gSortedRev, gSorted, pre_len, gRev, gSum, gZip, gEnumA, gMax]
theorem bnd_mem {m : Nat} {t : Int} {s : Nat} {b : List Int} (h : b ∈ bndL m t s) : b.length ≤ m := bgo_mem _ _ _ _ _ _ h
theorem fits_filter {l b : List Int} (h : b.length ≤ l.length) : (((List.range b.length).map fun (k : Nat) => (k : Int)).filter fun j => decide (b.getD j.toNat 0 < (topsL l b).getD j.toNat 0)) = [] ↔ fits l b = true := by
  have ht := topsL_len l b
  unfold fits
  rw [decide_eq_true_iff, ovr_zero (by omega), List.filter_eq_nil_iff]
  constructor
  · intro k j hj
    have := k (j : Int) (List.mem_map.mpr ⟨j, List.mem_range.mpr (by omega), rfl⟩)
    simp [fnSem, startR, gIsi, ty6, Ty6.is, tru?, gNot, gLe, gLt, gGt, gGe, gCmp, gTru, gBl, gLen, gItems, gFld, gIx, gAdd_int, gSub, gNeg, gTuple, gList, gIsN, gNotN, gPart, gtName, gtTup, gtCons, gtNil, sFor, sFor.go, frz, wipeR, fYes, startI, fnI, isNon, noer, LIM, gSortedRev, gSorted, pre_len, gRev, gSum, gZip, gEnumA, gMax] at this
    simpa [fnSem, startR, gIsi, ty6, Ty6.is, tru?, gNot, gLe, gLt, gGt, gGe, gCmp, gTru, gBl, gLen, gItems, gFld, gIx, gAdd_int, gSub, gNeg, gTuple, gList, gIsN, gNotN, gPart, gtName, gtTup, gtCons, gtNil, sFor, sFor.go, frz, wipeR, fYes, startI, fnI, isNon, noer, LIM, gSortedRev, gSorted, pre_len, gRev, gSum, gZip, gEnumA, gMax] using this
  · intro k j hj
    obtain ⟨i, hi, rfl⟩ := List.mem_map.mp hj
    have := k i (by have := List.mem_range.mp hi; omega)
    simp [fnSem, startR, gIsi, ty6, Ty6.is, tru?, gNot, gLe, gLt, gGt, gGe, gCmp, gTru, gBl, gLen, gItems, gFld, gIx, gAdd_int, gSub, gNeg, gTuple, gList, gIsN, gNotN, gPart, gtName, gtTup, gtCons, gtNil, sFor, sFor.go, frz, wipeR, fYes, startI, fnI, isNon, noer, LIM, gSortedRev, gSorted, pre_len, gRev, gSum, gZip, gEnumA, gMax] at this ⊢
    exact this
/-- what is left -/
def leftL (bx : List Int) (s : Nat) (w : Bool) : List Int := if w then (sortI bx).drop s else sortI bx
def who (w : Bool) : D := .str (if w then "striker" else "taker")
theorem leftL_sorted (bx : List Int) (s : Nat) (w : Bool) : (leftL bx s w).Pairwise (· ≤ ·) := by
  unfold leftL
  split
  · exact (sortI_sorted bx).sublist (List.drop_sublist _ _)
  · exact sortI_sorted bx
theorem leftL_len (bx : List Int) (s : Nat) (w : Bool) : (leftL bx s w).length ≤ bx.length := by
  unfold leftL
  split <;> simp [fnSem, startR, gIsi, ty6, Ty6.is, tru?, gNot, gLe, gLt, gGt, gGe, gCmp, gTru, gBl, gLen, gItems, gFld, gIx, gAdd_int, gSub, gNeg, gTuple, gList, gIsN, gNotN, gPart, gtName, gtTup, gtCons, gtNil, sFor, sFor.go, frz, wipeR, fYes, startI, fnI, isNon, noer, LIM, gSortedRev, gSorted, pre_len, gRev, gSum, gZip, gEnumA, gMax, sortI_len]
theorem sort_left (bx : List Int) (s : Nat) (w : Bool) : sortI (leftL bx s w) = leftL bx s w := (sortI_is (.refl _) (leftL_sorted bx s w)).symm
theorem ok_taker : PyData.strOk "taker" = true := by decide +kernel
theorem ok_striker : PyData.strOk "striker" = true := by decide +kernel
theorem who_eq (w : Bool) (S : Store) : gEq (who w) (.str "striker") S = .ok (.bl w) S := by
  unfold who
  cases w
  · exact (gEq_str ok_taker ok_striker S).trans (by congr)
  · exact (gEq_str ok_striker ok_striker S).trans (by simp [fnSem, startR, gIsi, ty6, Ty6.is, tru?, gNot, gLe, gLt, gGt, gGe, gCmp, gTru, gBl, gLen, gItems, gFld, gIx, gAdd_int, gSub, gNeg, gTuple, gList, gIsN, gNotN, gPart, gtName, gtTup, gtCons, gtNil, sFor, sFor.go, frz, wipeR, fYes, startI, fnI, isNon, noer, LIM, gSortedRev, gSorted, pre_len, gRev, gSum, gZip, gEnumA, gMax])
end Bx

namespace Bx
open PySem L2
/-! ### the questions -/
theorem e_left (bx : List Int) (s : Nat) (w : Bool) (S : Store) : F_left_for [.tup (dI bx), .int s, who w] S = .ok (.lst (dI (leftL bx s w))) S := by
  have hc := who_eq w S
  cases w
  · simp (discharger := first | (simp [fnSem, startR, gIsi, ty6, Ty6.is, tru?, gNot, gLe, gLt, gGt, gGe, gCmp, gTru, gBl, gLen, gItems, gFld, gIx, gAdd_int, gSub, gNeg, gTuple, gList, gIsN, gNotN, gPart, gtName, gtTup, gtCons, gtNil, sFor, sFor.go, frz, wipeR, fYes, startI, fnI, isNon, noer, LIM, gSortedRev, gSorted, pre_len, gRev, gSum, gZip, gEnumA, gMax]; done) | omega | (simp [fnSem, startR, gIsi, ty6, Ty6.is, tru?, gNot, gLe, gLt, gGt, gGe, gCmp, gTru, gBl, gLen, gItems, gFld, gIx, gAdd_int, gSub, gNeg, gTuple, gList, gIsN, gNotN, gPart, gtName, gtTup, gtCons, gtNil, sFor, sFor.go, frz, wipeR, fYes, startI, fnI, isNon, noer, LIM, gSortedRev, gSorted, pre_len, gRev, gSum, gZip, gEnumA, gMax]; omega)) [fnSem, startR, gIsi, ty6, Ty6.is, tru?, gNot, gLe, gLt, gGt, gGe, gCmp, gTru, gBl, gLen, gItems, gFld, gIx, gAdd_int, gSub, gNeg, gTuple, gList, gIsN, gNotN, gPart, gtName, gtTup, gtCons, gtNil, sFor, sFor.go, frz, wipeR, fYes, startI, fnI, isNon, noer, LIM, gSortedRev, gSorted, pre_len, gRev, gSum, gZip, gEnumA, gMax, ite_le, ite_lt, gFdiv_ok, gMod_ok, gRange1_ok, gRange2_ok, gPow_ok, gAddL_ok, gAddT_ok, gAdd_int, fLc, rangeD0, ix0, ix1, ix2, gSl_takeL, gSl_dropL, gSl_takeT, gSl_dropT, map_int, F_left_for, S_left_for, hc, leftL]
  · simp (discharger := first | (simp [fnSem, startR, gIsi, ty6, Ty6.is, tru?, gNot, gLe, gLt, gGt, gGe, gCmp, gTru, gBl, gLen, gItems, gFld, gIx, gAdd_int, gSub, gNeg, gTuple, gList, gIsN, gNotN, gPart, gtName, gtTup, gtCons, gtNil, sFor, sFor.go, frz, wipeR, fYes, startI, fnI, isNon, noer, LIM, gSortedRev, gSorted, pre_len, gRev, gSum, gZip, gEnumA, gMax]; done) | omega | (simp [fnSem, startR, gIsi, ty6, Ty6.is, tru?, gNot, gLe, gLt, gGt, gGe, gCmp, gTru, gBl, gLen, gItems, gFld, gIx, gAdd_int, gSub, gNeg, gTuple, gList, gIsN, gNotN, gPart, gtName, gtTup, gtCons, gtNil, sFor, sFor.go, frz, wipeR, fYes, startI, fnI, isNon, noer, LIM, gSortedRev, gSorted, pre_len, gRev, gSum, gZip, gEnumA, gMax]; omega)) [fnSem, startR, gIsi, ty6, Ty6.is, tru?, gNot, gLe, gLt, gGt, gGe, gCmp, gTru, gBl, gLen, gItems, gFld, gIx, gAdd_int, gSub, gNeg, gTuple, gList, gIsN, gNotN, gPart, gtName, gtTup, gtCons, gtNil, sFor, sFor.go, frz, wipeR, fYes, startI, fnI, isNon, noer, LIM, gSortedRev, gSorted, pre_len, gRev, gSum, gZip, gEnumA, gMax, ite_le, ite_lt, gFdiv_ok, gMod_ok, gRange1_ok, gRange2_ok, gPow_ok, gAddL_ok, gAddT_ok, gAdd_int, fLc, rangeD0, ix0, ix1, ix2, gSl_takeL, gSl_dropL, gSl_takeT, gSl_dropT, map_int, F_left_for, S_left_for, hc, leftL]
theorem e_turns_by {bx : List Int} {t : Int} {s : Nat} (w : Bool) (hl : bx.length ≤ 120) (hs1 : 1 ≤ s) (hs : s ≤ 3) (S : Store) : F_turns_by [.tup (dI bx), .int t, .int s, who w] S = .ok (resD (turnsO (leftL bx s w) t s)) S := by
  have hn := leftL_len bx s w
  have e := e_turns_of (l := leftL bx s w) (t := t) (s := s) (by omega) hs1 hs S
  rw [sort_left] at e
  simp [fnSem, startR, gIsi, ty6, Ty6.is, tru?, gNot, gLe, gLt, gGt, gGe, gCmp, gTru, gBl, gLen, gItems, gFld, gIx, gAdd_int, gSub, gNeg, gTuple, gList, gIsN, gNotN, gPart, gtName, gtTup, gtCons, gtNil, sFor, sFor.go, frz, wipeR, fYes, startI, fnI, isNon, noer, LIM, gSortedRev, gSorted, pre_len, gRev, gSum, gZip, gEnumA, gMax, F_turns_by, S_turns_by, e_left, e]
theorem resD_non (o : Option Nat) (S : Store) : gIsN (resD o) .non S = .ok (.bl o.isNone) S := by cases o <;> rfl
theorem resD_notN (o : Option Nat) (S : Store) : gNotN (resD o) .non S = .ok (.bl o.isSome) S := by cases o <;> rfl
def winD (o : Option Nat) : D := .str (if o.isNone then "striker" else "taker")
theorem e_winner_by {bx : List Int} {t : Int} {s : Nat} (w : Bool) (hl : bx.length ≤ 120) (hs1 : 1 ≤ s) (hs : s ≤ 3) (S : Store) : F_winner_by [.tup (dI bx), .int t, .int s, who w] S = .ok (winD (turnsO (leftL bx s w) t s)) S := by
  have e := e_turns_by (t := t) w hl hs1 hs S
  simp only [F_winner_by, S_winner_by]
  cases h : turnsO (leftL bx s w) t s <;> simp [fnSem, startR, gIsi, ty6, Ty6.is, tru?, gNot, gLe, gLt, gGt, gGe, gCmp, gTru, gBl, gLen, gItems, gFld, gIx, gAdd_int, gSub, gNeg, gTuple, gList, gIsN, gNotN, gPart, gtName, gtTup, gtCons, gtNil, sFor, sFor.go, frz, wipeR, fYes, startI, fnI, isNon, noer, LIM, gSortedRev, gSorted, pre_len, gRev, gSum, gZip, gEnumA, gMax, e, h, resD, winD]

end Bx

namespace Bx
open PySem L2
/-! ### the draws -/
theorem pick4 {a b c d v : Int} (h0 : 0 ≤ v) (h : v < 4) : ∃ x, atI [D.int a, D.int b, D.int c, D.int d] v = some (.int x) ∧ (x = a ∨ x = b ∨ x = c ∨ x = d) := by
  have : v = 0 ∨ v = 1 ∨ v = 2 ∨ v = 3 := by omega
  rcases this with rfl | rfl | rfl | rfl
  · exact ⟨a, rfl, .inl rfl⟩
  · exact ⟨b, rfl, .inr (.inl rfl)⟩
  · exact ⟨c, rfl, .inr (.inr (.inl rfl))⟩
  · exact ⟨d, rfl, .inr (.inr (.inr rfl))⟩
theorem pick3 {a b c v : Int} (h0 : 0 ≤ v) (h : v < 3) : ∃ x, atI [D.int a, D.int b, D.int c] v = some (.int x) ∧ (x = a ∨ x = b ∨ x = c) := by
  have : v = 0 ∨ v = 1 ∨ v = 2 := by omega
  rcases this with rfl | rfl | rfl
  · exact ⟨a, rfl, .inl rfl⟩
  · exact ⟨b, rfl, .inr (.inl rfl)⟩
  · exact ⟨c, rfl, .inr (.inr rfl)⟩
theorem mix_for (S : Store) {x0 x1 : Sl} : ∀ (l : List Int) (s : Int) (x3 : Sl), ∃ s' y3, sFor.go (gtName 3) B_law_mix_1 (dI l) [x0, x1, .fz (.int s), x3] S = .mk (.nx [x0, x1, .fz (.int s'), y3]) S := by
  intro l
  induction l with
  | nil => exact fun s x3 => ⟨s, x3, by simp [fnSem, startR, gIsi, ty6, Ty6.is, tru?, gNot, gLe, gLt, gGt, gGe, gCmp, gTru, gBl, gLen, gItems, gFld, gIx, gAdd_int, gSub, gNeg, gTuple, gList, gIsN, gNotN, gPart, gtName, gtTup, gtCons, gtNil, sFor, sFor.go, frz, wipeR, fYes, startI, fnI, isNon, noer, LIM, gSortedRev, gSorted, pre_len, gRev, gSum, gZip, gEnumA, gMax, gInt, gMin]⟩
  | cons a l ih =>
    intro s x3
    obtain ⟨s', y3, h⟩ := ih ((s * 48271 + a % 2147483629 + 1) % 2147483647) (.fz (.int a))
    have hb : B_law_mix_1 [x0, x1, .fz (.int s), .fz (.int a)] S = .mk (.nx [x0, x1, .fz (.int ((s * 48271 + a % 2147483629 + 1) % 2147483647)), .fz (.int a)]) S := by
      simp (discharger := first | (simp [fnSem, startR, gIsi, ty6, Ty6.is, tru?, gNot, gLe, gLt, gGt, gGe, gCmp, gTru, gBl, gLen, gItems, gFld, gIx, gAdd_int, gSub, gNeg, gTuple, gList, gIsN, gNotN, gPart, gtName, gtTup, gtCons, gtNil, sFor, sFor.go, frz, wipeR, fYes, startI, fnI, isNon, noer, LIM, gSortedRev, gSorted, pre_len, gRev, gSum, gZip, gEnumA, gMax, gInt, gMin]; done) | omega | (simp [fnSem, startR, gIsi, ty6, Ty6.is, tru?, gNot, gLe, gLt, gGt, gGe, gCmp, gTru, gBl, gLen, gItems, gFld, gIx, gAdd_int, gSub, gNeg, gTuple, gList, gIsN, gNotN, gPart, gtName, gtTup, gtCons, gtNil, sFor, sFor.go, frz, wipeR, fYes, startI, fnI, isNon, noer, LIM, gSortedRev, gSorted, pre_len, gRev, gSum, gZip, gEnumA, gMax, gInt, gMin]; omega)) [fnSem, startR, gIsi, ty6, Ty6.is, tru?, gNot, gLe, gLt, gGt, gGe, gCmp, gTru, gBl, gLen, gItems, gFld, gIx, gAdd_int, gSub, gNeg, gTuple, gList, gIsN, gNotN, gPart, gtName, gtTup, gtCons, gtNil, sFor, sFor.go, frz, wipeR, fYes, startI, fnI, isNon, noer, LIM, gSortedRev, gSorted, pre_len, gRev, gSum, gZip, gEnumA, gMax, gInt, gMin, ite_le, ite_lt, gFdiv_ok, gMod_ok, gRange1_ok, gRange2_ok, gPow_ok, gAddL_ok, gAddT_ok, gAdd_int, fLc, rangeD0, ix0, ix1, ix2, gSl_takeL, gSl_dropL, gSl_takeT, gSl_dropT, map_int, B_law_mix_1, gMulR_ok]
    exact ⟨s', y3, by simp [fnSem, startR, gIsi, ty6, Ty6.is, tru?, gNot, gLe, gLt, gGt, gGe, gCmp, gTru, gBl, gLen, gItems, gFld, gIx, gAdd_int, gSub, gNeg, gTuple, gList, gIsN, gNotN, gPart, gtName, gtTup, gtCons, gtNil, sFor, sFor.go, frz, wipeR, fYes, startI, fnI, isNon, noer, LIM, gSortedRev, gSorted, pre_len, gRev, gSum, gZip, gEnumA, gMax, gInt, gMin, dI_cons, hb, h]⟩
theorem e_mix {ns : List Int} (hn : ns.length ≤ 63) (k : Int) : ∃ S', F_law_mix [.scr ns, .int k] [] = .ok (.ref 0) S' ∧ Src S' := by
  obtain ⟨s', y3, h⟩ := mix_for [] (x0 := .fz (.scr ns)) (x1 := .fz (.int k)) ns k .un
  refine ⟨[.src s' ns 0], ?_, s', 0, ns, rfl, by omega⟩
  simp (discharger := first | (simp [fnSem, startR, gIsi, ty6, Ty6.is, tru?, gNot, gLe, gLt, gGt, gGe, gCmp, gTru, gBl, gLen, gItems, gFld, gIx, gAdd_int, gSub, gNeg, gTuple, gList, gIsN, gNotN, gPart, gtName, gtTup, gtCons, gtNil, sFor, sFor.go, frz, wipeR, fYes, startI, fnI, isNon, noer, LIM, gSortedRev, gSorted, pre_len, gRev, gSum, gZip, gEnumA, gMax, gInt, gMin]; done) | omega | (simp [fnSem, startR, gIsi, ty6, Ty6.is, tru?, gNot, gLe, gLt, gGt, gGe, gCmp, gTru, gBl, gLen, gItems, gFld, gIx, gAdd_int, gSub, gNeg, gTuple, gList, gIsN, gNotN, gPart, gtName, gtTup, gtCons, gtNil, sFor, sFor.go, frz, wipeR, fYes, startI, fnI, isNon, noer, LIM, gSortedRev, gSorted, pre_len, gRev, gSum, gZip, gEnumA, gMax, gInt, gMin]; omega)) [fnSem, startR, gIsi, ty6, Ty6.is, tru?, gNot, gLe, gLt, gGt, gGe, gCmp, gTru, gBl, gLen, gItems, gFld, gIx, gAdd_int, gSub, gNeg, gTuple, gList, gIsN, gNotN, gPart, gtName, gtTup, gtCons, gtNil, sFor, sFor.go, frz, wipeR, fYes, startI, fnI, isNon, noer, LIM, gSortedRev, gSorted, pre_len, gRev, gSum, gZip, gEnumA, gMax, gInt, gMin, ite_le, ite_lt, gFdiv_ok, gMod_ok, gRange1_ok, gRange2_ok, gPow_ok, gAddL_ok, gAddT_ok, gAdd_int, fLc, rangeD0, ix0, ix1, ix2, gSl_takeL, gSl_dropL, gSl_takeT, gSl_dropT, map_int, F_law_mix, S_law_mix, h, srcOf]
def Gm.row (g : Gm) : D := .lst [.tup (dI g.bx), .int g.tk, .int g.st]
end Bx

namespace Bx
open PySem L2
def errOf {α : Type} : R α → Option Exc
  | .er x _ => some x
  | _ => none
theorem errOf_some {α : Type} {r : R α} {x : Exc} (h : errOf r = some x) : ∃ S', r = .er x S' := by
  cases r with
  | er y S => cases h; exact ⟨S, rfl⟩
  | ok a S => cases h
  | no => cases h
/-- the game of the law -/
def gmN (n : Int) : D := .ins "Game" ["held"] [.tup [.tup [.int (n + 4), .int (n + 4)], .int n, .int 1]]
def xs13 : List Exc := [⟨"BadBoxes", none⟩, ⟨"BadTake", none⟩, ⟨"BadStrike", none⟩, ⟨"BadGame", none⟩, ⟨"BadFirst", none⟩, ⟨"BadTurns", none⟩, ⟨"TooLarge", none⟩, ⟨"BadMany", none⟩, ⟨"BadMoves", some [("index", .int 1)]⟩, ⟨"NotTurn", none⟩, ⟨"BadTaking", none⟩, ⟨"BadStriking", none⟩, ⟨"InvalidText", some [("word", .int 2), ("line", .int 2)]⟩]
theorem do_all (s i : Int) (cs : List Int) : ([1, 2, 3, 4, 5, 6, 7, 8, 9] : List Int).map (fun n => ([0, 1, 2, 3, 4, 5, 6, 7, 8, 9, 10, 11, 12] : List Int).map fun k => errOf (F_law_do [.int k, .int n, gmN n] [.src s cs i])) = List.replicate 9 (xs13.map some) := by kernel_rfl
theorem do_8 (S : Store) : ([1, 2, 3, 4, 5, 6, 7, 8, 9] : List Int).map (fun n => F_law_do [.int 8, .int n, gmN n] S) = List.replicate 9 (.er ⟨"BadMoves", some [("index", .int 1)]⟩ S) := by kernel_rfl
theorem do_12 (S : Store) : ([1, 2, 3, 4, 5, 6, 7, 8, 9] : List Int).map (fun n => F_law_do [.int 12, .int n, gmN n] S) = List.replicate 9 (.er ⟨"InvalidText", some [("word", .int 2), ("line", .int 2)]⟩ S) := by kernel_rfl
theorem which_all (S : Store) : xs13.map (fun x => F_law_which x S) = ([0, 1, 2, 3, 4, 5, 6, 7, 8, 9, 10, 11, 12] : List Int).map fun k => .ok (.lst [.int k]) S := by kernel_rfl
theorem mk_all (x0 x1 x3 x4 x5 x6 : Sl) (S : Store) : ([1, 2, 3, 4, 5, 6, 7, 8, 9] : List Int).map (fun n => fMake "Game" F_Game_init (fCons (fTup (fCons (fBin gAdd (fVar 2) (fC (.int 4))) (fCons (fBin gAdd (fVar 2) (fC (.int 4))) fNil))) (fCons (fVar 2) (fCons (fC (.int 1)) fNil))) [x0, x1, .fz (.int n), x3, x4, x5, x6] S) = ([1, 2, 3, 4, 5, 6, 7, 8, 9] : List Int).map fun n => .ok (gmN n) S := by kernel_rfl
theorem nine {α : Type} {f g : Int → α} (h : ([1, 2, 3, 4, 5, 6, 7, 8, 9] : List Int).map f = ([1, 2, 3, 4, 5, 6, 7, 8, 9] : List Int).map g) {n : Int} (h1 : 1 ≤ n) (h9 : n ≤ 9) : f n = g n := by
  simp only [List.map_cons, List.map_nil, List.cons.injEq, and_true] at h
  have : n = 1 ∨ n = 2 ∨ n = 3 ∨ n = 4 ∨ n = 5 ∨ n = 6 ∨ n = 7 ∨ n = 8 ∨ n = 9 := by omega
  obtain ⟨a1, a2, a3, a4, a5, a6, a7, a8, a9⟩ := h
  rcases this with rfl | rfl | rfl | rfl | rfl | rfl | rfl | rfl | rfl <;> assumption
def xk (k : Int) : Exc := xs13.getD k.toNat ⟨"", none⟩
theorem e_mk {n : Int} (h1 : 1 ≤ n) (h9 : n ≤ 9) (x0 x1 x3 x4 x5 x6 : Sl) (S : Store) : fMake "Game" F_Game_init (fCons (fTup (fCons (fBin gAdd (fVar 2) (fC (.int 4))) (fCons (fBin gAdd (fVar 2) (fC (.int 4))) fNil))) (fCons (fVar 2) (fCons (fC (.int 1)) fNil))) [x0, x1, .fz (.int n), x3, x4, x5, x6] S = .ok (gmN n) S := nine (mk_all x0 x1 x3 x4 x5 x6 S) h1 h9
theorem e_do8 {n : Int} (h1 : 1 ≤ n) (h9 : n ≤ 9) (S : Store) : F_law_do [.int 8, .int n, gmN n] S = .er ⟨"BadMoves", some [("index", .int 1)]⟩ S := nine (α := R D) (f := fun n => F_law_do [.int 8, .int n, gmN n] S) (g := fun _ => .er ⟨"BadMoves", some [("index", .int 1)]⟩ S) (do_8 S) h1 h9
theorem e_do12 {n : Int} (h1 : 1 ≤ n) (h9 : n ≤ 9) (S : Store) : F_law_do [.int 12, .int n, gmN n] S = .er ⟨"InvalidText", some [("word", .int 2), ("line", .int 2)]⟩ S := nine (α := R D) (f := fun n => F_law_do [.int 12, .int n, gmN n] S) (g := fun _ => .er ⟨"InvalidText", some [("word", .int 2), ("line", .int 2)]⟩ S) (do_12 S) h1 h9
theorem e_do {n k : Int} {S : Store} (h1 : 1 ≤ n) (h9 : n ≤ 9) (k0 : 0 ≤ k) (k12 : k < 13) (hS : Src S) : ∃ S', F_law_do [.int k, .int n, gmN n] S = .er (xk k) S' := by
  obtain ⟨s, i, cs, rfl, _⟩ := hS
  have h := nine (g := fun _ => xs13.map some) (do_all s i cs) h1 h9
  refine errOf_some ?_
  have : k = 0 ∨ k = 1 ∨ k = 2 ∨ k = 3 ∨ k = 4 ∨ k = 5 ∨ k = 6 ∨ k = 7 ∨ k = 8 ∨ k = 9 ∨ k = 10 ∨ k = 11 ∨ k = 12 := by omega
  simp only [List.map_cons, List.map_nil, List.cons.injEq, and_true, xs13] at h
  obtain ⟨a0, a1, a2, a3, a4, a5, a6, a7, a8, a9, a10, a11, a12⟩ := h
  rcases this with rfl | rfl | rfl | rfl | rfl | rfl | rfl | rfl | rfl | rfl | rfl | rfl | rfl
  · exact a0
  · exact a1
  · exact a2
  · exact a3
  · exact a4
  · exact a5
  · exact a6
  · exact a7
  · exact a8
  · exact a9
  · exact a10
  · exact a11
  · exact a12
def tab13 : List (Str × Bool) := [("BadBoxes", true), ("BadTake", true), ("BadStrike", true), ("BadGame", true), ("BadFirst", true), ("BadTurns", true), ("TooLarge", true), ("BadMany", true), ("BadMoves", true), ("NotTurn", true), ("BadTaking", true), ("BadStriking", true), ("InvalidText", true)]
theorem e_which {k : Int} (k0 : 0 ≤ k) (k12 : k < 13) (S : Store) : F_law_which (xk k) S = .ok (.lst [.int k]) S ∧ tab13.lookup (xk k).cls = some true := by
  have : k = 0 ∨ k = 1 ∨ k = 2 ∨ k = 3 ∨ k = 4 ∨ k = 5 ∨ k = 6 ∨ k = 7 ∨ k = 8 ∨ k = 9 ∨ k = 10 ∨ k = 11 ∨ k = 12 := by omega
  have h := which_all S
  simp only [List.map_cons, List.map_nil, List.cons.injEq, and_true, xs13] at h
  obtain ⟨a0, a1, a2, a3, a4, a5, a6, a7, a8, a9, a10, a11, a12⟩ := h
  rcases this with rfl | rfl | rfl | rfl | rfl | rfl | rfl | rfl | rfl | rfl | rfl | rfl | rfl
  · exact ⟨a0, rfl⟩
  · exact ⟨a1, rfl⟩
  · exact ⟨a2, rfl⟩
  · exact ⟨a3, rfl⟩
  · exact ⟨a4, rfl⟩
  · exact ⟨a5, rfl⟩
  · exact ⟨a6, rfl⟩
  · exact ⟨a7, rfl⟩
  · exact ⟨a8, rfl⟩
  · exact ⟨a9, rfl⟩
  · exact ⟨a10, rfl⟩
  · exact ⟨a11, rfl⟩
  · exact ⟨a12, rfl⟩
theorem try_which {a0 a1 : D} {n k : Int} {S S3 : Store} {x : Exc} (hd : F_law_do [.int k, .int n, gmN n] S = .er x S3) (hl : tab13.lookup x.cls = some true) (hw : F_law_which x S3 = .ok (.lst [.int k]) S3) :
    sTryAs (sExp (fUn F_law_do (fCons (fVar 4) (fCons (fVar 2) (fCons (fVar 3) fNil))))) 6 tab13 (sSet 5 (fMk (fHot 6 F_law_which))) [.fz a0, .fz a1, .fz (.int n), .fz (gmN n), .fz (.int k), .fz (.lst []), .un] S =
      .mk (.nx [.fz a0, .fz a1, .fz (.int n), .fz (gmN n), .fz (.int k), .fz (.lst [.int k]), .un]) S3 := by
  have e1 : (sExp (fUn F_law_do (fCons (fVar 4) (fCons (fVar 2) (fCons (fVar 3) fNil))))) [.fz a0, .fz a1, .fz (.int n), .fz (gmN n), .fz (.int k), .fz (.lst []), .un] S = .mk (.xr x [.fz a0, .fz a1, .fz (.int n), .fz (gmN n), .fz (.int k), .fz (.lst []), .un]) S3 := by
    simp [fnSem, startR, gIsi, ty6, Ty6.is, tru?, gNot, gLe, gLt, gGt, gGe, gCmp, gTru, gBl, gLen, gItems, gFld, gIx, gAdd_int, gSub, gNeg, gTuple, gList, gIsN, gNotN, gPart, gtName, gtTup, gtCons, gtNil, sFor, sFor.go, frz, wipeR, fYes, startI, fnI, isNon, noer, LIM, gSortedRev, gSorted, pre_len, gRev, gSum, gZip, gEnumA, gMax, gInt, gMin, hd]
  unfold sTryAs
  rw [e1]
  show (match tab13.lookup x.cls with | some true => _ | some false => _ | none => _) = _
  rw [hl]
  simp [fnSem, startR, gIsi, ty6, Ty6.is, tru?, gNot, gLe, gLt, gGt, gGe, gCmp, gTru, gBl, gLen, gItems, gFld, gIx, gAdd_int, gSub, gNeg, gTuple, gList, gIsN, gNotN, gPart, gtName, gtTup, gtCons, gtNil, sFor, sFor.go, frz, wipeR, fYes, startI, fnI, isNon, noer, LIM, gSortedRev, gSorted, pre_len, gRev, gSum, gZip, gEnumA, gMax, gInt, gMin, hw, undoX, notEx]
theorem try_moves {a0 a1 a4 a5 : D} {n : Int} {S : Store} (hd : F_law_do [.int 8, .int n, gmN n] S = .er ⟨"BadMoves", some [("index", .int 1)]⟩ S) :
    sTryAs (sExp (fUn F_law_do (fCons (fC (.int 8)) (fCons (fVar 2) (fCons (fVar 3) fNil))))) 6 [("BadMoves", true)] (sIf (fUn gBl (fBin gNe (fXf 6 "BadMoves" "index") (fC (.int 1)))) (sRet (fC (.bl false))) sNil) [.fz a0, .fz a1, .fz (.int n), .fz (gmN n), .fz a4, .fz a5, .un] S =
      .mk (.nx [.fz a0, .fz a1, .fz (.int n), .fz (gmN n), .fz a4, .fz a5, .un]) S := by
  have e1 : (sExp (fUn F_law_do (fCons (fC (.int 8)) (fCons (fVar 2) (fCons (fVar 3) fNil))))) [.fz a0, .fz a1, .fz (.int n), .fz (gmN n), .fz a4, .fz a5, .un] S = .mk (.xr ⟨"BadMoves", some [("index", .int 1)]⟩ [.fz a0, .fz a1, .fz (.int n), .fz (gmN n), .fz a4, .fz a5, .un]) S := by
    simp [fnSem, startR, gIsi, ty6, Ty6.is, tru?, gNot, gLe, gLt, gGt, gGe, gCmp, gTru, gBl, gLen, gItems, gFld, gIx, gAdd_int, gSub, gNeg, gTuple, gList, gIsN, gNotN, gPart, gtName, gtTup, gtCons, gtNil, sFor, sFor.go, frz, wipeR, fYes, startI, fnI, isNon, noer, LIM, gSortedRev, gSorted, pre_len, gRev, gSum, gZip, gEnumA, gMax, gInt, gMin, hd]
  unfold sTryAs
  rw [e1]
  kernel_rfl
theorem try_text {a0 a1 a4 a5 : D} {n : Int} {S : Store} (hd : F_law_do [.int 12, .int n, gmN n] S = .er ⟨"InvalidText", some [("word", .int 2), ("line", .int 2)]⟩ S) :
    sTryAs (sExp (fUn F_law_do (fCons (fC (.int 12)) (fCons (fVar 2) (fCons (fVar 3) fNil))))) 6 [("InvalidText", true)] (sRet (fBin gEq (fTup (fCons (fXf 6 "InvalidText" "line") (fCons (fXf 6 "InvalidText" "word") fNil))) (fTup (fCons (fC (.int 2)) (fCons (fC (.int 2)) fNil))))) [.fz a0, .fz a1, .fz (.int n), .fz (gmN n), .fz a4, .fz a5, .un] S =
      .mk (.rt (.bl true)) S := by
  have e1 : (sExp (fUn F_law_do (fCons (fC (.int 12)) (fCons (fVar 2) (fCons (fVar 3) fNil))))) [.fz a0, .fz a1, .fz (.int n), .fz (gmN n), .fz a4, .fz a5, .un] S = .mk (.xr ⟨"InvalidText", some [("word", .int 2), ("line", .int 2)]⟩ [.fz a0, .fz a1, .fz (.int n), .fz (gmN n), .fz a4, .fz a5, .un]) S := by
    simp [fnSem, startR, gIsi, ty6, Ty6.is, tru?, gNot, gLe, gLt, gGt, gGe, gCmp, gTru, gBl, gLen, gItems, gFld, gIx, gAdd_int, gSub, gNeg, gTuple, gList, gIsN, gNotN, gPart, gtName, gtTup, gtCons, gtNil, sFor, sFor.go, frz, wipeR, fYes, startI, fnI, isNon, noer, LIM, gSortedRev, gSorted, pre_len, gRev, gSum, gZip, gEnumA, gMax, gInt, gMin, hd]
  unfold sTryAs
  rw [e1]
  kernel_rfl
theorem ne_told (k : Int) (S : Store) : gNe (.lst [.int k]) (.lst [.int k]) S = .ok (.bl false) S := gNe_same (k := 1) (pl_lst fun d hd => by
  obtain rfl : d = .int k := by simpa [fnSem, startR, gIsi, ty6, Ty6.is, tru?, gNot, gLe, gLt, gGt, gGe, gCmp, gTru, gBl, gLen, gItems, gFld, gIx, gAdd_int, gSub, gNeg, gTuple, gList, gIsN, gNotN, gPart, gtName, gtTup, gtCons, gtNil, sFor, sFor.go, frz, wipeR, fYes, startI, fnI, isNon, noer, LIM, gSortedRev, gSorted, pre_len, gRev, gSum, gZip, gEnumA, gMax, gInt, gMin] using hd
  exact pl_int) (by decide) S
theorem sem_law (ns : List Int) (hn : ns.length ≤ 63) : ∃ S', F_law [.scr ns] [] = .ok (.bl true) S' := by
  obtain ⟨S0, e0, h0⟩ := e_mix hn 13
  obtain ⟨v, S1, e1, l1, u1, h1⟩ := e_next h0 (b := 9) (by omega) (by omega)
  obtain ⟨k, S2, e2, l2, u2, h2⟩ := e_next h1 (b := 13) (by omega) (by omega)
  obtain ⟨n, hnv⟩ : ∃ n : Int, n = 1 + v := ⟨_, rfl⟩
  have n1 : 1 ≤ n := by omega
  have n9 : n ≤ 9 := by omega
  obtain ⟨S3, e3⟩ := e_do n1 n9 l2 u2 h2
  obtain ⟨w3, t3⟩ := e_which l2 u2 S3
  refine ⟨S3, fn_rt ?_⟩
  show S_law [.fz (.scr ns), .un, .un, .un, .un, .un, .un] [] = _
  unfold S_law
  refine set_go (d := .ref 0) (S1 := S0) (by simp [fnSem, startR, gIsi, ty6, Ty6.is, tru?, gNot, gLe, gLt, gGt, gGe, gCmp, gTru, gBl, gLen, gItems, gFld, gIx, gAdd_int, gSub, gNeg, gTuple, gList, gIsN, gNotN, gPart, gtName, gtTup, gtCons, gtNil, sFor, sFor.go, frz, wipeR, fYes, startI, fnI, isNon, noer, LIM, gSortedRev, gSorted, pre_len, gRev, gSum, gZip, gEnumA, gMax, gInt, gMin, e0]) (by simp [fnSem, startR, gIsi, ty6, Ty6.is, tru?, gNot, gLe, gLt, gGt, gGe, gCmp, gTru, gBl, gLen, gItems, gFld, gIx, gAdd_int, gSub, gNeg, gTuple, gList, gIsN, gNotN, gPart, gtName, gtTup, gtCons, gtNil, sFor, sFor.go, frz, wipeR, fYes, startI, fnI, isNon, noer, LIM, gSortedRev, gSorted, pre_len, gRev, gSum, gZip, gEnumA, gMax, gInt, gMin]) ?_
  refine set_go (d := .int n) (S1 := S1) (by simp [fnSem, startR, gIsi, ty6, Ty6.is, tru?, gNot, gLe, gLt, gGt, gGe, gCmp, gTru, gBl, gLen, gItems, gFld, gIx, gAdd_int, gSub, gNeg, gTuple, gList, gIsN, gNotN, gPart, gtName, gtTup, gtCons, gtNil, sFor, sFor.go, frz, wipeR, fYes, startI, fnI, isNon, noer, LIM, gSortedRev, gSorted, pre_len, gRev, gSum, gZip, gEnumA, gMax, gInt, gMin, e1, gAdd_int, hnv]) (by simp [fnSem, startR, gIsi, ty6, Ty6.is, tru?, gNot, gLe, gLt, gGt, gGe, gCmp, gTru, gBl, gLen, gItems, gFld, gIx, gAdd_int, gSub, gNeg, gTuple, gList, gIsN, gNotN, gPart, gtName, gtTup, gtCons, gtNil, sFor, sFor.go, frz, wipeR, fYes, startI, fnI, isNon, noer, LIM, gSortedRev, gSorted, pre_len, gRev, gSum, gZip, gEnumA, gMax, gInt, gMin]) ?_
  refine set_go (d := gmN n) (S1 := S1) (e_mk n1 n9 _ _ _ _ _ _ S1) (by simp [fnSem, startR, gIsi, ty6, Ty6.is, tru?, gNot, gLe, gLt, gGt, gGe, gCmp, gTru, gBl, gLen, gItems, gFld, gIx, gAdd_int, gSub, gNeg, gTuple, gList, gIsN, gNotN, gPart, gtName, gtTup, gtCons, gtNil, sFor, sFor.go, frz, wipeR, fYes, startI, fnI, isNon, noer, LIM, gSortedRev, gSorted, pre_len, gRev, gSum, gZip, gEnumA, gMax, gInt, gMin]) ?_
  refine set_go (d := .int k) (S1 := S2) (by simp [fnSem, startR, gIsi, ty6, Ty6.is, tru?, gNot, gLe, gLt, gGt, gGe, gCmp, gTru, gBl, gLen, gItems, gFld, gIx, gAdd_int, gSub, gNeg, gTuple, gList, gIsN, gNotN, gPart, gtName, gtTup, gtCons, gtNil, sFor, sFor.go, frz, wipeR, fYes, startI, fnI, isNon, noer, LIM, gSortedRev, gSorted, pre_len, gRev, gSum, gZip, gEnumA, gMax, gInt, gMin, e2]) (by simp [fnSem, startR, gIsi, ty6, Ty6.is, tru?, gNot, gLe, gLt, gGt, gGe, gCmp, gTru, gBl, gLen, gItems, gFld, gIx, gAdd_int, gSub, gNeg, gTuple, gList, gIsN, gNotN, gPart, gtName, gtTup, gtCons, gtNil, sFor, sFor.go, frz, wipeR, fYes, startI, fnI, isNon, noer, LIM, gSortedRev, gSorted, pre_len, gRev, gSum, gZip, gEnumA, gMax, gInt, gMin]) ?_
  refine set_go (d := .lst []) (S1 := S2) (by simp [fnSem, startR, gIsi, ty6, Ty6.is, tru?, gNot, gLe, gLt, gGt, gGe, gCmp, gTru, gBl, gLen, gItems, gFld, gIx, gAdd_int, gSub, gNeg, gTuple, gList, gIsN, gNotN, gPart, gtName, gtTup, gtCons, gtNil, sFor, sFor.go, frz, wipeR, fYes, startI, fnI, isNon, noer, LIM, gSortedRev, gSorted, pre_len, gRev, gSum, gZip, gEnumA, gMax, gInt, gMin]) (by simp [fnSem, startR, gIsi, ty6, Ty6.is, tru?, gNot, gLe, gLt, gGt, gGe, gCmp, gTru, gBl, gLen, gItems, gFld, gIx, gAdd_int, gSub, gNeg, gTuple, gList, gIsN, gNotN, gPart, gtName, gtTup, gtCons, gtNil, sFor, sFor.go, frz, wipeR, fYes, startI, fnI, isNon, noer, LIM, gSortedRev, gSorted, pre_len, gRev, gSum, gZip, gEnumA, gMax, gInt, gMin]) ?_
  refine seq_go (try_which e3 t3 w3) ?_
  refine seq_go (ρ1 := [.fz (.scr ns), .fz (.ref 0), .fz (.int n), .fz (gmN n), .fz (.int k), .fz (.lst [.int k]), .un]) (S1 := S3) (by simp [fnSem, startR, gIsi, ty6, Ty6.is, tru?, gNot, gLe, gLt, gGt, gGe, gCmp, gTru, gBl, gLen, gItems, gFld, gIx, gAdd_int, gSub, gNeg, gTuple, gList, gIsN, gNotN, gPart, gtName, gtTup, gtCons, gtNil, sFor, sFor.go, frz, wipeR, fYes, startI, fnI, isNon, noer, LIM, gSortedRev, gSorted, pre_len, gRev, gSum, gZip, gEnumA, gMax, gInt, gMin, ne_told, gBl]) ?_
  refine seq_go (try_moves (e_do8 n1 n9 S3)) ?_
  exact seq_rt (try_text (e_do12 n1 n9 S3))

end Bx

namespace Bx
open PySem L2
theorem law_end {P : Program} {w : World} {K : PySem.W.Frag} {mg : Str → Option Value} {fa C CM : Addr} (hmg : mg "law" = some (.ref fa)) (T : ∀ base : Heap, Txt w K mg base (txO K mg w) C CM) :
    ∃ fd : FuncData, (∀ (s : Shared) (u : Value), BindsTo s fd ⟨[u], []⟩ [("_law_script", u)]) ∧ ∀ base : Heap, K.In base → base.Ns mainGlobals mg → FnOk P w K mg base (L2N.CX P w) 9 fa fd ["_law_script"] (spD K mg (txO K mg w) 1 F_law) := by
  obtain ⟨fa', fd, hm, hF, hb⟩ := (T default).d_law
  cases hmg.symm.trans hm
  refine ⟨fd, ?_, fun base _ _ => ok_law hF (T base)⟩
  obtain ⟨oc, od, kV, doc, pm, an, cdv, ct, osl, rfl, lk, hcd⟩ := hF.ex
  exact fun s u => .of_eq rfl
end Bx
open PySem PySem.W PyProof.Rows
set_option maxRecDepth 100000 in
set_option maxHeartbeats 0 in
theorem PySem.Challenge.cw_boxtaker_k13_errors_apart_holds : PySem.Challenge.rw_boxtaker_k13_errors_apart.Holds := by
  w_on; o_law; k_head; (case hw => w_witness2)
  k_fill
  refine Bx.law_walk (l := PySem.Challenge.rw_boxtaker_k13_errors_apart) (k := 9) (x := "_law_script") (sem := Bx.F_law) rfl rfl ⟨rfl, by decide, by decide⟩ (fun w h Y => PySem.W.kIn_of Y) Bx.sem_law ?F
  case F =>
    intro w mg fa h KX G hmg
    refine' Bx.law_end hmg ?T
    case T =>
     intro base
     refine' Bx.Txt.mk ?tk ?g_Game ?cl ?na_held ?nt ?ins ?mks ?kC ?p_boxes ?p_take ?p_strike ?m_init ?m_eq ?g_Match ?clM ?nm_game ?nm_stands ?nm_made ?mksM ?kM ?mM_init ?mM_check_turn ?mM_go ?mM_takes ?mM_strikes ?b_sorted ?b_tuple ?b_max ?b_enumerate ?b_len ?b_zip ?b_int ?b_isinstance ?b_list ?b_sum ?b_bool ?b_str ?b_range ?b_min ?b_ValueError ?c_MOST_BOXES ?c_MOST_SIZE ?c_MOST_STRIKE ?c_MOST_TURNS ?c_MOST_TAKINGS ?c_MOST_MOVES ?c_MOST_MANY ?c_MOST_FIGURES ?k_OTHER ?e_BoxError ?e_BadBoxes ?e_BadTake ?e_BadStrike ?e_BadGame ?e_BadFirst ?e_BadTurns ?e_TooLarge ?e_BadMany ?a_BadMoves ?e_NotTurn ?e_BadTaking ?e_BadStriking ?a_InvalidText ?h_BadBoxes ?h_BadFirst ?h_BadGame ?h_BadMany ?h_BadMoves ?h_BadStrike ?h_BadStriking ?h_BadTake ?h_BadTaking ?h_BadTurns ?h_BoxError ?h_InvalidText ?h_NotTurn ?h_TooLarge ?x_BadBoxes_BoxError ?x_BadFirst_BoxError ?x_BadGame_BoxError ?x_BadMany_BoxError ?x_BadMoves_BadMoves ?x_BadMoves_BoxError ?x_BadStrike_BoxError ?x_BadStriking_BoxError ?x_BadTake_BoxError ?x_BadTaking_BoxError ?x_BadTurns_BoxError ?x_InvalidText_BoxError ?x_InvalidText_InvalidText ?x_NotTurn_BoxError ?x_TooLarge_BoxError ?xa_BadBoxes ?xa_BadTake ?xa_BadStrike ?xa_BadGame ?xa_BadFirst ?xa_BadTurns ?xa_TooLarge ?xa_BadMany ?xa_BadMoves ?xa_NotTurn ?xa_BadTaking ?xa_BadStriking ?xa_InvalidText ?pr_BadBoxes ?pr_BadFirst ?pr_BadGame ?pr_BadMany ?pr_BadMoves ?pr_BadStrike ?pr_BadStriking ?pr_BadTake ?pr_BadTaking ?pr_BadTurns ?pr_InvalidText ?pr_NotTurn ?pr_TooLarge ?pv_ValueError ?d_wall ?d_is_integer ?d_is_from ?d_check_boxes ?d_check_take ?d_check_strike ?d_check_game ?d_check_first ?d_bounds_of ?d_tops_of ?d_sums_of ?d_over ?d_turns_of ?d_left_for ?d_turns_by ?d_winner_by ?d_check_asked ?d_winner ?d_in_turns ?d_open_boxes ?d_sizes_of ?d_without ?d_all_takings ?d_is_winning ?d_many_takings ?d_is_taking ?d_is_striking ?d_is_move ?d_behind ?d_has_won ?d_turn_behind ?d_winner_now ?d_judge ?d_greatest_equal ?d_number_at ?d_words_at ?d_read_one ?d_read_game ?d_law_mix ?d_law_next ?d_law_which ?d_law_early ?d_law_do ?d_law
     (case tk => exact ⟨rfl, rfl, rfl⟩)
     (case g_Game => refine' PySem.W.mg_of KX G ?_; k_is)
     (case cl => refine' ⟨?_, ?_, ?_, ?_⟩ <;> k_is)
     (case na_held => refine' (show PySem.W.findIn _ _ _ = some none from ?_); k_is)
     (case nt => k_is)
     (case ins => refine' Bx.ins_mk ⟨?_, ?_, ?_, ?_⟩ ?_ ?_ ?_ ?_ ?_ ?_ <;> k_is)
     (case mks => k_is)
     (case kC => k_is)
     (case p_boxes => refine' Bx.prop_mk ?a ?g ?t ?r ?l ?c ?k ?hb; (case a => k_is); (case g => k_is); (case t => k_is); (case r => k_is); (case l => k_is); (case c => k_is); (case k => k_is); (case hb => exact fun _ _ _ _ _ _ us hl => match us, hl with | [_], _ => rfl))
     (case p_take => refine' Bx.prop_mk ?a ?g ?t ?r ?l ?c ?k ?hb; (case a => k_is); (case g => k_is); (case t => k_is); (case r => k_is); (case l => k_is); (case c => k_is); (case k => k_is); (case hb => exact fun _ _ _ _ _ _ us hl => match us, hl with | [_], _ => rfl))
     (case p_strike => refine' Bx.prop_mk ?a ?g ?t ?r ?l ?c ?k ?hb; (case a => k_is); (case g => k_is); (case t => k_is); (case r => k_is); (case l => k_is); (case c => k_is); (case k => k_is); (case hb => exact fun _ _ _ _ _ _ us hl => match us, hl with | [_], _ => rfl))
     (case m_init => refine' Bx.meth_mk ?a ?i ?l ?c ?k ?hb; (case a => k_is); (case i => k_is); (case l => k_is); (case c => k_is); (case k => k_is); (case hb => exact fun _ _ _ _ _ _ us hl => match us, hl with | [_, _, _, _], _ => rfl))
     (case m_eq => refine' Bx.meth_mk ?a ?i ?l ?c ?k ?hb; (case a => k_is); (case i => k_is); (case l => k_is); (case c => k_is); (case k => k_is); (case hb => exact fun _ _ _ _ _ _ us hl => match us, hl with | [_, _], _ => rfl))
     (case g_Match => refine' PySem.W.mg_of KX G ?_; k_is)
     (case clM => refine' ⟨?_, ?_, ?_, ?_⟩ <;> k_is)
     (case nm_game => refine' (show PySem.W.findIn _ _ _ = some none from ?_); k_is)
     (case nm_stands => refine' (show PySem.W.findIn _ _ _ = some none from ?_); k_is)
     (case nm_made => refine' (show PySem.W.findIn _ _ _ = some none from ?_); k_is)
     (case mksM => k_is)
     (case kM => k_is)
     (case mM_init => refine' Bx.meth_mk ?a ?i ?l ?c ?k ?hb; (case a => k_is); (case i => k_is); (case l => k_is); (case c => k_is); (case k => k_is); (case hb => exact fun _ _ _ _ _ _ us hl => match us, hl with | [_, _, _], _ => rfl))
     (case mM_check_turn => refine' Bx.meth_mk ?a ?i ?l ?c ?k ?hb; (case a => k_is); (case i => k_is); (case l => k_is); (case c => k_is); (case k => k_is); (case hb => exact fun _ _ _ _ _ _ us hl => match us, hl with | [_, _], _ => rfl))
     (case mM_go => refine' Bx.meth_mk ?a ?i ?l ?c ?k ?hb; (case a => k_is); (case i => k_is); (case l => k_is); (case c => k_is); (case k => k_is); (case hb => exact fun _ _ _ _ _ _ us hl => match us, hl with | [_, _], _ => rfl))
     (case mM_takes => refine' Bx.meth_mk ?a ?i ?l ?c ?k ?hb; (case a => k_is); (case i => k_is); (case l => k_is); (case c => k_is); (case k => k_is); (case hb => exact fun _ _ _ _ _ _ us hl => match us, hl with | [_, _], _ => rfl))
     (case mM_strikes => refine' Bx.meth_mk ?a ?i ?l ?c ?k ?hb; (case a => k_is); (case i => k_is); (case l => k_is); (case c => k_is); (case k => k_is); (case hb => exact fun _ _ _ _ _ _ us hl => match us, hl with | [_, _], _ => rfl))
     (case b_sorted => refine' PySem.W.mg_none_of KX G ?_; k_is)
     (case b_tuple => refine' PySem.W.mg_none_of KX G ?_; k_is)
     (case b_max => refine' PySem.W.mg_none_of KX G ?_; k_is)
     (case b_enumerate => refine' PySem.W.mg_none_of KX G ?_; k_is)
     (case b_len => refine' PySem.W.mg_none_of KX G ?_; k_is)
     (case b_zip => refine' PySem.W.mg_none_of KX G ?_; k_is)
     (case b_int => refine' PySem.W.mg_none_of KX G ?_; k_is)
     (case b_isinstance => refine' PySem.W.mg_none_of KX G ?_; k_is)
     (case b_list => refine' PySem.W.mg_none_of KX G ?_; k_is)
     (case b_sum => refine' PySem.W.mg_none_of KX G ?_; k_is)
     (case b_bool => refine' PySem.W.mg_none_of KX G ?_; k_is)
     (case b_str => refine' PySem.W.mg_none_of KX G ?_; k_is)
     (case b_range => refine' PySem.W.mg_none_of KX G ?_; k_is)
     (case b_min => refine' PySem.W.mg_none_of KX G ?_; k_is)
     (case b_ValueError => refine' PySem.W.mg_none_of KX G ?_; k_is)
     (case c_MOST_BOXES => refine' Bx.int_mk KX G ?a; (case a => k_is))
     (case c_MOST_SIZE => refine' Bx.int_mk KX G ?a; (case a => k_is))
     (case c_MOST_STRIKE => refine' Bx.int_mk KX G ?a; (case a => k_is))
     (case c_MOST_TURNS => refine' Bx.int_mk KX G ?a; (case a => k_is))
     (case c_MOST_TAKINGS => refine' Bx.int_mk KX G ?a; (case a => k_is))
     (case c_MOST_MOVES => refine' Bx.int_mk KX G ?a; (case a => k_is))
     (case c_MOST_MANY => refine' Bx.int_mk KX G ?a; (case a => k_is))
     (case c_MOST_FIGURES => refine' Bx.int_mk KX G ?a; (case a => k_is))
     (case k_OTHER => refine' Bx.dct_mk (w := w) KX G ?a ?l ?kl ?e1 ?e2 ?r1 ?r2; (case a => k_is); (case l => k_is); (case kl => exact ⟨⟨_, _, rfl, rfl⟩, ⟨_, _, rfl, rfl⟩, trivial⟩); (case e1 => k_is); (case e2 => k_is); (case r1 => exact ⟨_, rfl⟩); (case r2 => exact ⟨_, rfl⟩))
     (case e_BoxError => refine' Bx.exc_mk KX G ?a ?e ?k ?b ?t; (case a => k_is); (case e => k_exc); (case k => k_is); (case b => k_is); (case t => k_is))
     (case e_BadBoxes => refine' Bx.exc_mk KX G ?a ?e ?k ?b ?t; (case a => k_is); (case e => k_exc); (case k => k_is); (case b => k_is); (case t => k_is))
     (case e_BadTake => refine' Bx.exc_mk KX G ?a ?e ?k ?b ?t; (case a => k_is); (case e => k_exc); (case k => k_is); (case b => k_is); (case t => k_is))
     (case e_BadStrike => refine' Bx.exc_mk KX G ?a ?e ?k ?b ?t; (case a => k_is); (case e => k_exc); (case k => k_is); (case b => k_is); (case t => k_is))
     (case e_BadGame => refine' Bx.exc_mk KX G ?a ?e ?k ?b ?t; (case a => k_is); (case e => k_exc); (case k => k_is); (case b => k_is); (case t => k_is))
     (case e_BadFirst => refine' Bx.exc_mk KX G ?a ?e ?k ?b ?t; (case a => k_is); (case e => k_exc); (case k => k_is); (case b => k_is); (case t => k_is))
     (case e_BadTurns => refine' Bx.exc_mk KX G ?a ?e ?k ?b ?t; (case a => k_is); (case e => k_exc); (case k => k_is); (case b => k_is); (case t => k_is))
     (case e_TooLarge => refine' Bx.exc_mk KX G ?a ?e ?k ?b ?t; (case a => k_is); (case e => k_exc); (case k => k_is); (case b => k_is); (case t => k_is))
     (case e_BadMany => refine' Bx.exc_mk KX G ?a ?e ?k ?b ?t; (case a => k_is); (case e => k_exc); (case k => k_is); (case b => k_is); (case t => k_is))
     (case a_BadMoves => refine' ⟨_, PySem.W.mg_of KX G ?a, Bx.oex_mk ?l ?oq ?sa ?e ?t ?k, Bx.meth_mk ?m ?mi ?ml ?mc ?mk ?hb, Bx.all1 ?n1, ⟨?ga, ?gg, ?ec, ?hd⟩⟩; (case a => k_is); (case l => k_is); (case oq => exact rfl); (case sa => k_is); (case e => k_is); (case t => k_is); (case k => k_is); (case m => k_is); (case mi => k_is); (case ml => k_is); (case mc => k_is); (case mk => k_is); (case n1 => k_is); (case ga => k_is); (case gg => k_is); (case ec => k_is); (case hd => k_is); (case hb => exact fun _ _ _ _ _ _ us hl => match us, hl with | [_, _], _ => rfl))
     (case e_NotTurn => refine' Bx.exc_mk KX G ?a ?e ?k ?b ?t; (case a => k_is); (case e => k_exc); (case k => k_is); (case b => k_is); (case t => k_is))
     (case e_BadTaking => refine' Bx.exc_mk KX G ?a ?e ?k ?b ?t; (case a => k_is); (case e => k_exc); (case k => k_is); (case b => k_is); (case t => k_is))
     (case e_BadStriking => refine' Bx.exc_mk KX G ?a ?e ?k ?b ?t; (case a => k_is); (case e => k_exc); (case k => k_is); (case b => k_is); (case t => k_is))
     (case a_InvalidText => refine' ⟨_, PySem.W.mg_of KX G ?a, Bx.oex_mk ?l ?oq ?sa ?e ?t ?k, Bx.meth_mk ?m ?mi ?ml ?mc ?mk ?hb, Bx.all2 ?n1 ?n2, ⟨?ga, ?gg, ?ec, ?hd⟩⟩; (case a => k_is); (case l => k_is); (case oq => exact rfl); (case sa => k_is); (case e => k_is); (case t => k_is); (case k => k_is); (case m => k_is); (case mi => k_is); (case ml => k_is); (case mc => k_is); (case mk => k_is); (case n1 => k_is); (case n2 => k_is); (case ga => k_is); (case gg => k_is); (case ec => k_is); (case hd => k_is); (case hb => exact fun _ _ _ _ _ _ us hl => match us, hl with | [_, _, _], _ => rfl))
     (case h_BadBoxes => refine' Bx.at_mk KX G ?a; (case a => k_is))
     (case h_BadFirst => refine' Bx.at_mk KX G ?a; (case a => k_is))
     (case h_BadGame => refine' Bx.at_mk KX G ?a; (case a => k_is))
     (case h_BadMany => refine' Bx.at_mk KX G ?a; (case a => k_is))
     (case h_BadMoves => refine' Bx.at_mk KX G ?a; (case a => k_is))
     (case h_BadStrike => refine' Bx.at_mk KX G ?a; (case a => k_is))
     (case h_BadStriking => refine' Bx.at_mk KX G ?a; (case a => k_is))
     (case h_BadTake => refine' Bx.at_mk KX G ?a; (case a => k_is))
     (case h_BadTaking => refine' Bx.at_mk KX G ?a; (case a => k_is))
     (case h_BadTurns => refine' Bx.at_mk KX G ?a; (case a => k_is))
     (case h_BoxError => refine' Bx.at_mk KX G ?a; (case a => k_is))
     (case h_InvalidText => refine' Bx.at_mk KX G ?a; (case a => k_is))
     (case h_NotTurn => refine' Bx.at_mk KX G ?a; (case a => k_is))
     (case h_TooLarge => refine' Bx.at_mk KX G ?a; (case a => k_is))
     (case x_BadBoxes_BoxError => refine' Bx.sub_mk KX G ?a ?b ?c ?d ?e ?f; (case a => k_is); (case b => k_is); (case c => k_is); (case d => k_is); (case e => k_is); (case f => k_is))
     (case x_BadFirst_BoxError => refine' Bx.sub_mk KX G ?a ?b ?c ?d ?e ?f; (case a => k_is); (case b => k_is); (case c => k_is); (case d => k_is); (case e => k_is); (case f => k_is))
     (case x_BadGame_BoxError => refine' Bx.sub_mk KX G ?a ?b ?c ?d ?e ?f; (case a => k_is); (case b => k_is); (case c => k_is); (case d => k_is); (case e => k_is); (case f => k_is))
     (case x_BadMany_BoxError => refine' Bx.sub_mk KX G ?a ?b ?c ?d ?e ?f; (case a => k_is); (case b => k_is); (case c => k_is); (case d => k_is); (case e => k_is); (case f => k_is))
     (case x_BadMoves_BadMoves => refine' Bx.sub_mk KX G ?a ?b ?c ?d ?e ?f; (case a => k_is); (case b => k_is); (case c => k_is); (case d => k_is); (case e => k_is); (case f => k_is))
     (case x_BadMoves_BoxError => refine' Bx.sub_mk KX G ?a ?b ?c ?d ?e ?f; (case a => k_is); (case b => k_is); (case c => k_is); (case d => k_is); (case e => k_is); (case f => k_is))
     (case x_BadStrike_BoxError => refine' Bx.sub_mk KX G ?a ?b ?c ?d ?e ?f; (case a => k_is); (case b => k_is); (case c => k_is); (case d => k_is); (case e => k_is); (case f => k_is))
     (case x_BadStriking_BoxError => refine' Bx.sub_mk KX G ?a ?b ?c ?d ?e ?f; (case a => k_is); (case b => k_is); (case c => k_is); (case d => k_is); (case e => k_is); (case f => k_is))
     (case x_BadTake_BoxError => refine' Bx.sub_mk KX G ?a ?b ?c ?d ?e ?f; (case a => k_is); (case b => k_is); (case c => k_is); (case d => k_is); (case e => k_is); (case f => k_is))
     (case x_BadTaking_BoxError => refine' Bx.sub_mk KX G ?a ?b ?c ?d ?e ?f; (case a => k_is); (case b => k_is); (case c => k_is); (case d => k_is); (case e => k_is); (case f => k_is))
     (case x_BadTurns_BoxError => refine' Bx.sub_mk KX G ?a ?b ?c ?d ?e ?f; (case a => k_is); (case b => k_is); (case c => k_is); (case d => k_is); (case e => k_is); (case f => k_is))
     (case x_InvalidText_BoxError => refine' Bx.sub_mk KX G ?a ?b ?c ?d ?e ?f; (case a => k_is); (case b => k_is); (case c => k_is); (case d => k_is); (case e => k_is); (case f => k_is))
     (case x_InvalidText_InvalidText => refine' Bx.sub_mk KX G ?a ?b ?c ?d ?e ?f; (case a => k_is); (case b => k_is); (case c => k_is); (case d => k_is); (case e => k_is); (case f => k_is))
     (case x_NotTurn_BoxError => refine' Bx.sub_mk KX G ?a ?b ?c ?d ?e ?f; (case a => k_is); (case b => k_is); (case c => k_is); (case d => k_is); (case e => k_is); (case f => k_is))
     (case x_TooLarge_BoxError => refine' Bx.sub_mk KX G ?a ?b ?c ?d ?e ?f; (case a => k_is); (case b => k_is); (case c => k_is); (case d => k_is); (case e => k_is); (case f => k_is))
     (case xa_BadBoxes => refine' Bx.excAt_mk KX G ?a ⟨?e1, ?e2, ?e3, ?e4, ?e5, ?e6, ?e7, ?e8⟩; (case a => k_is); (case e1 => k_is); (case e2 => k_is); (case e3 => k_is); (case e4 => k_is); (case e5 => k_is); (case e6 => k_is); (case e7 => k_is); (case e8 => k_is))
     (case xa_BadTake => refine' Bx.excAt_mk KX G ?a ⟨?e1, ?e2, ?e3, ?e4, ?e5, ?e6, ?e7, ?e8⟩; (case a => k_is); (case e1 => k_is); (case e2 => k_is); (case e3 => k_is); (case e4 => k_is); (case e5 => k_is); (case e6 => k_is); (case e7 => k_is); (case e8 => k_is))
     (case xa_BadStrike => refine' Bx.excAt_mk KX G ?a ⟨?e1, ?e2, ?e3, ?e4, ?e5, ?e6, ?e7, ?e8⟩; (case a => k_is); (case e1 => k_is); (case e2 => k_is); (case e3 => k_is); (case e4 => k_is); (case e5 => k_is); (case e6 => k_is); (case e7 => k_is); (case e8 => k_is))
     (case xa_BadGame => refine' Bx.excAt_mk KX G ?a ⟨?e1, ?e2, ?e3, ?e4, ?e5, ?e6, ?e7, ?e8⟩; (case a => k_is); (case e1 => k_is); (case e2 => k_is); (case e3 => k_is); (case e4 => k_is); (case e5 => k_is); (case e6 => k_is); (case e7 => k_is); (case e8 => k_is))
     (case xa_BadFirst => refine' Bx.excAt_mk KX G ?a ⟨?e1, ?e2, ?e3, ?e4, ?e5, ?e6, ?e7, ?e8⟩; (case a => k_is); (case e1 => k_is); (case e2 => k_is); (case e3 => k_is); (case e4 => k_is); (case e5 => k_is); (case e6 => k_is); (case e7 => k_is); (case e8 => k_is))
     (case xa_BadTurns => refine' Bx.excAt_mk KX G ?a ⟨?e1, ?e2, ?e3, ?e4, ?e5, ?e6, ?e7, ?e8⟩; (case a => k_is); (case e1 => k_is); (case e2 => k_is); (case e3 => k_is); (case e4 => k_is); (case e5 => k_is); (case e6 => k_is); (case e7 => k_is); (case e8 => k_is))
     (case xa_TooLarge => refine' Bx.excAt_mk KX G ?a ⟨?e1, ?e2, ?e3, ?e4, ?e5, ?e6, ?e7, ?e8⟩; (case a => k_is); (case e1 => k_is); (case e2 => k_is); (case e3 => k_is); (case e4 => k_is); (case e5 => k_is); (case e6 => k_is); (case e7 => k_is); (case e8 => k_is))
     (case xa_BadMany => refine' Bx.excAt_mk KX G ?a ⟨?e1, ?e2, ?e3, ?e4, ?e5, ?e6, ?e7, ?e8⟩; (case a => k_is); (case e1 => k_is); (case e2 => k_is); (case e3 => k_is); (case e4 => k_is); (case e5 => k_is); (case e6 => k_is); (case e7 => k_is); (case e8 => k_is))
     (case xa_BadMoves => refine' Bx.excAt_mk KX G ?a ⟨?e1, ?e2, ?e3, ?e4, ?e5, ?e6, ?e7, ?e8⟩; (case a => k_is); (case e1 => k_is); (case e2 => k_is); (case e3 => k_is); (case e4 => k_is); (case e5 => k_is); (case e6 => k_is); (case e7 => k_is); (case e8 => k_is))
     (case xa_NotTurn => refine' Bx.excAt_mk KX G ?a ⟨?e1, ?e2, ?e3, ?e4, ?e5, ?e6, ?e7, ?e8⟩; (case a => k_is); (case e1 => k_is); (case e2 => k_is); (case e3 => k_is); (case e4 => k_is); (case e5 => k_is); (case e6 => k_is); (case e7 => k_is); (case e8 => k_is))
     (case xa_BadTaking => refine' Bx.excAt_mk KX G ?a ⟨?e1, ?e2, ?e3, ?e4, ?e5, ?e6, ?e7, ?e8⟩; (case a => k_is); (case e1 => k_is); (case e2 => k_is); (case e3 => k_is); (case e4 => k_is); (case e5 => k_is); (case e6 => k_is); (case e7 => k_is); (case e8 => k_is))
     (case xa_BadStriking => refine' Bx.excAt_mk KX G ?a ⟨?e1, ?e2, ?e3, ?e4, ?e5, ?e6, ?e7, ?e8⟩; (case a => k_is); (case e1 => k_is); (case e2 => k_is); (case e3 => k_is); (case e4 => k_is); (case e5 => k_is); (case e6 => k_is); (case e7 => k_is); (case e8 => k_is))
     (case xa_InvalidText => refine' Bx.excAt_mk KX G ?a ⟨?e1, ?e2, ?e3, ?e4, ?e5, ?e6, ?e7, ?e8⟩; (case a => k_is); (case e1 => k_is); (case e2 => k_is); (case e3 => k_is); (case e4 => k_is); (case e5 => k_is); (case e6 => k_is); (case e7 => k_is); (case e8 => k_is))
     (case pr_BadBoxes => refine' ⟨Bx.pair_mk KX G ?a0 ?b0 ?c0 ?t0 ?s0 ?v0, Bx.pair_mk KX G ?a1 ?b1 ?c1 ?t1 ?s1 ?v1, Bx.pair_mk KX G ?a2 ?b2 ?c2 ?t2 ?s2 ?v2, Bx.pair_mk KX G ?a3 ?b3 ?c3 ?t3 ?s3 ?v3, Bx.pair_mk KX G ?a4 ?b4 ?c4 ?t4 ?s4 ?v4, Bx.pair_mk KX G ?a5 ?b5 ?c5 ?t5 ?s5 ?v5, Bx.pair_mk KX G ?a6 ?b6 ?c6 ?t6 ?s6 ?v6, Bx.pair_mk KX G ?a7 ?b7 ?c7 ?t7 ?s7 ?v7, Bx.pair_mk KX G ?a8 ?b8 ?c8 ?t8 ?s8 ?v8, Bx.pair_mk KX G ?a9 ?b9 ?c9 ?t9 ?s9 ?v9, Bx.pair_mk KX G ?a10 ?b10 ?c10 ?t10 ?s10 ?v10, Bx.pair_mk KX G ?a11 ?b11 ?c11 ?t11 ?s11 ?v11, Bx.pair_mk KX G ?a12 ?b12 ?c12 ?t12 ?s12 ?v12⟩; (case a0 => k_is); (case b0 => k_is); (case c0 => k_is); (case t0 => k_is); (case s0 => k_is); (case v0 => first | exact fun _ => rfl | exact fun z => absurd z (by decide)); (case a1 => k_is); (case b1 => k_is); (case c1 => k_is); (case t1 => k_is); (case s1 => k_is); (case v1 => first | exact fun _ => rfl | exact fun z => absurd z (by decide)); (case a2 => k_is); (case b2 => k_is); (case c2 => k_is); (case t2 => k_is); (case s2 => k_is); (case v2 => first | exact fun _ => rfl | exact fun z => absurd z (by decide)); (case a3 => k_is); (case b3 => k_is); (case c3 => k_is); (case t3 => k_is); (case s3 => k_is); (case v3 => first | exact fun _ => rfl | exact fun z => absurd z (by decide)); (case a4 => k_is); (case b4 => k_is); (case c4 => k_is); (case t4 => k_is); (case s4 => k_is); (case v4 => first | exact fun _ => rfl | exact fun z => absurd z (by decide)); (case a5 => k_is); (case b5 => k_is); (case c5 => k_is); (case t5 => k_is); (case s5 => k_is); (case v5 => first | exact fun _ => rfl | exact fun z => absurd z (by decide)); (case a6 => k_is); (case b6 => k_is); (case c6 => k_is); (case t6 => k_is); (case s6 => k_is); (case v6 => first | exact fun _ => rfl | exact fun z => absurd z (by decide)); (case a7 => k_is); (case b7 => k_is); (case c7 => k_is); (case t7 => k_is); (case s7 => k_is); (case v7 => first | exact fun _ => rfl | exact fun z => absurd z (by decide)); (case a8 => k_is); (case b8 => k_is); (case c8 => k_is); (case t8 => k_is); (case s8 => k_is); (case v8 => first | exact fun _ => rfl | exact fun z => absurd z (by decide)); (case a9 => k_is); (case b9 => k_is); (case c9 => k_is); (case t9 => k_is); (case s9 => k_is); (case v9 => first | exact fun _ => rfl | exact fun z => absurd z (by decide)); (case a10 => k_is); (case b10 => k_is); (case c10 => k_is); (case t10 => k_is); (case s10 => k_is); (case v10 => first | exact fun _ => rfl | exact fun z => absurd z (by decide)); (case a11 => k_is); (case b11 => k_is); (case c11 => k_is); (case t11 => k_is); (case s11 => k_is); (case v11 => first | exact fun _ => rfl | exact fun z => absurd z (by decide)); (case a12 => k_is); (case b12 => k_is); (case c12 => k_is); (case t12 => k_is); (case s12 => k_is); (case v12 => first | exact fun _ => rfl | exact fun z => absurd z (by decide)))
     (case pr_BadFirst => refine' ⟨Bx.pair_mk KX G ?a0 ?b0 ?c0 ?t0 ?s0 ?v0, Bx.pair_mk KX G ?a1 ?b1 ?c1 ?t1 ?s1 ?v1, Bx.pair_mk KX G ?a2 ?b2 ?c2 ?t2 ?s2 ?v2, Bx.pair_mk KX G ?a3 ?b3 ?c3 ?t3 ?s3 ?v3, Bx.pair_mk KX G ?a4 ?b4 ?c4 ?t4 ?s4 ?v4, Bx.pair_mk KX G ?a5 ?b5 ?c5 ?t5 ?s5 ?v5, Bx.pair_mk KX G ?a6 ?b6 ?c6 ?t6 ?s6 ?v6, Bx.pair_mk KX G ?a7 ?b7 ?c7 ?t7 ?s7 ?v7, Bx.pair_mk KX G ?a8 ?b8 ?c8 ?t8 ?s8 ?v8, Bx.pair_mk KX G ?a9 ?b9 ?c9 ?t9 ?s9 ?v9, Bx.pair_mk KX G ?a10 ?b10 ?c10 ?t10 ?s10 ?v10, Bx.pair_mk KX G ?a11 ?b11 ?c11 ?t11 ?s11 ?v11, Bx.pair_mk KX G ?a12 ?b12 ?c12 ?t12 ?s12 ?v12⟩; (case a0 => k_is); (case b0 => k_is); (case c0 => k_is); (case t0 => k_is); (case s0 => k_is); (case v0 => first | exact fun _ => rfl | exact fun z => absurd z (by decide)); (case a1 => k_is); (case b1 => k_is); (case c1 => k_is); (case t1 => k_is); (case s1 => k_is); (case v1 => first | exact fun _ => rfl | exact fun z => absurd z (by decide)); (case a2 => k_is); (case b2 => k_is); (case c2 => k_is); (case t2 => k_is); (case s2 => k_is); (case v2 => first | exact fun _ => rfl | exact fun z => absurd z (by decide)); (case a3 => k_is); (case b3 => k_is); (case c3 => k_is); (case t3 => k_is); (case s3 => k_is); (case v3 => first | exact fun _ => rfl | exact fun z => absurd z (by decide)); (case a4 => k_is); (case b4 => k_is); (case c4 => k_is); (case t4 => k_is); (case s4 => k_is); (case v4 => first | exact fun _ => rfl | exact fun z => absurd z (by decide)); (case a5 => k_is); (case b5 => k_is); (case c5 => k_is); (case t5 => k_is); (case s5 => k_is); (case v5 => first | exact fun _ => rfl | exact fun z => absurd z (by decide)); (case a6 => k_is); (case b6 => k_is); (case c6 => k_is); (case t6 => k_is); (case s6 => k_is); (case v6 => first | exact fun _ => rfl | exact fun z => absurd z (by decide)); (case a7 => k_is); (case b7 => k_is); (case c7 => k_is); (case t7 => k_is); (case s7 => k_is); (case v7 => first | exact fun _ => rfl | exact fun z => absurd z (by decide)); (case a8 => k_is); (case b8 => k_is); (case c8 => k_is); (case t8 => k_is); (case s8 => k_is); (case v8 => first | exact fun _ => rfl | exact fun z => absurd z (by decide)); (case a9 => k_is); (case b9 => k_is); (case c9 => k_is); (case t9 => k_is); (case s9 => k_is); (case v9 => first | exact fun _ => rfl | exact fun z => absurd z (by decide)); (case a10 => k_is); (case b10 => k_is); (case c10 => k_is); (case t10 => k_is); (case s10 => k_is); (case v10 => first | exact fun _ => rfl | exact fun z => absurd z (by decide)); (case a11 => k_is); (case b11 => k_is); (case c11 => k_is); (case t11 => k_is); (case s11 => k_is); (case v11 => first | exact fun _ => rfl | exact fun z => absurd z (by decide)); (case a12 => k_is); (case b12 => k_is); (case c12 => k_is); (case t12 => k_is); (case s12 => k_is); (case v12 => first | exact fun _ => rfl | exact fun z => absurd z (by decide)))
     (case pr_BadGame => refine' ⟨Bx.pair_mk KX G ?a0 ?b0 ?c0 ?t0 ?s0 ?v0, Bx.pair_mk KX G ?a1 ?b1 ?c1 ?t1 ?s1 ?v1, Bx.pair_mk KX G ?a2 ?b2 ?c2 ?t2 ?s2 ?v2, Bx.pair_mk KX G ?a3 ?b3 ?c3 ?t3 ?s3 ?v3, Bx.pair_mk KX G ?a4 ?b4 ?c4 ?t4 ?s4 ?v4, Bx.pair_mk KX G ?a5 ?b5 ?c5 ?t5 ?s5 ?v5, Bx.pair_mk KX G ?a6 ?b6 ?c6 ?t6 ?s6 ?v6, Bx.pair_mk KX G ?a7 ?b7 ?c7 ?t7 ?s7 ?v7, Bx.pair_mk KX G ?a8 ?b8 ?c8 ?t8 ?s8 ?v8, Bx.pair_mk KX G ?a9 ?b9 ?c9 ?t9 ?s9 ?v9, Bx.pair_mk KX G ?a10 ?b10 ?c10 ?t10 ?s10 ?v10, Bx.pair_mk KX G ?a11 ?b11 ?c11 ?t11 ?s11 ?v11, Bx.pair_mk KX G ?a12 ?b12 ?c12 ?t12 ?s12 ?v12⟩; (case a0 => k_is); (case b0 => k_is); (case c0 => k_is); (case t0 => k_is); (case s0 => k_is); (case v0 => first | exact fun _ => rfl | exact fun z => absurd z (by decide)); (case a1 => k_is); (case b1 => k_is); (case c1 => k_is); (case t1 => k_is); (case s1 => k_is); (case v1 => first | exact fun _ => rfl | exact fun z => absurd z (by decide)); (case a2 => k_is); (case b2 => k_is); (case c2 => k_is); (case t2 => k_is); (case s2 => k_is); (case v2 => first | exact fun _ => rfl | exact fun z => absurd z (by decide)); (case a3 => k_is); (case b3 => k_is); (case c3 => k_is); (case t3 => k_is); (case s3 => k_is); (case v3 => first | exact fun _ => rfl | exact fun z => absurd z (by decide)); (case a4 => k_is); (case b4 => k_is); (case c4 => k_is); (case t4 => k_is); (case s4 => k_is); (case v4 => first | exact fun _ => rfl | exact fun z => absurd z (by decide)); (case a5 => k_is); (case b5 => k_is); (case c5 => k_is); (case t5 => k_is); (case s5 => k_is); (case v5 => first | exact fun _ => rfl | exact fun z => absurd z (by decide)); (case a6 => k_is); (case b6 => k_is); (case c6 => k_is); (case t6 => k_is); (case s6 => k_is); (case v6 => first | exact fun _ => rfl | exact fun z => absurd z (by decide)); (case a7 => k_is); (case b7 => k_is); (case c7 => k_is); (case t7 => k_is); (case s7 => k_is); (case v7 => first | exact fun _ => rfl | exact fun z => absurd z (by decide)); (case a8 => k_is); (case b8 => k_is); (case c8 => k_is); (case t8 => k_is); (case s8 => k_is); (case v8 => first | exact fun _ => rfl | exact fun z => absurd z (by decide)); (case a9 => k_is); (case b9 => k_is); (case c9 => k_is); (case t9 => k_is); (case s9 => k_is); (case v9 => first | exact fun _ => rfl | exact fun z => absurd z (by decide)); (case a10 => k_is); (case b10 => k_is); (case c10 => k_is); (case t10 => k_is); (case s10 => k_is); (case v10 => first | exact fun _ => rfl | exact fun z => absurd z (by decide)); (case a11 => k_is); (case b11 => k_is); (case c11 => k_is); (case t11 => k_is); (case s11 => k_is); (case v11 => first | exact fun _ => rfl | exact fun z => absurd z (by decide)); (case a12 => k_is); (case b12 => k_is); (case c12 => k_is); (case t12 => k_is); (case s12 => k_is); (case v12 => first | exact fun _ => rfl | exact fun z => absurd z (by decide)))
     (case pr_BadMany => refine' ⟨Bx.pair_mk KX G ?a0 ?b0 ?c0 ?t0 ?s0 ?v0, Bx.pair_mk KX G ?a1 ?b1 ?c1 ?t1 ?s1 ?v1, Bx.pair_mk KX G ?a2 ?b2 ?c2 ?t2 ?s2 ?v2, Bx.pair_mk KX G ?a3 ?b3 ?c3 ?t3 ?s3 ?v3, Bx.pair_mk KX G ?a4 ?b4 ?c4 ?t4 ?s4 ?v4, Bx.pair_mk KX G ?a5 ?b5 ?c5 ?t5 ?s5 ?v5, Bx.pair_mk KX G ?a6 ?b6 ?c6 ?t6 ?s6 ?v6, Bx.pair_mk KX G ?a7 ?b7 ?c7 ?t7 ?s7 ?v7, Bx.pair_mk KX G ?a8 ?b8 ?c8 ?t8 ?s8 ?v8, Bx.pair_mk KX G ?a9 ?b9 ?c9 ?t9 ?s9 ?v9, Bx.pair_mk KX G ?a10 ?b10 ?c10 ?t10 ?s10 ?v10, Bx.pair_mk KX G ?a11 ?b11 ?c11 ?t11 ?s11 ?v11, Bx.pair_mk KX G ?a12 ?b12 ?c12 ?t12 ?s12 ?v12⟩; (case a0 => k_is); (case b0 => k_is); (case c0 => k_is); (case t0 => k_is); (case s0 => k_is); (case v0 => first | exact fun _ => rfl | exact fun z => absurd z (by decide)); (case a1 => k_is); (case b1 => k_is); (case c1 => k_is); (case t1 => k_is); (case s1 => k_is); (case v1 => first | exact fun _ => rfl | exact fun z => absurd z (by decide)); (case a2 => k_is); (case b2 => k_is); (case c2 => k_is); (case t2 => k_is); (case s2 => k_is); (case v2 => first | exact fun _ => rfl | exact fun z => absurd z (by decide)); (case a3 => k_is); (case b3 => k_is); (case c3 => k_is); (case t3 => k_is); (case s3 => k_is); (case v3 => first | exact fun _ => rfl | exact fun z => absurd z (by decide)); (case a4 => k_is); (case b4 => k_is); (case c4 => k_is); (case t4 => k_is); (case s4 => k_is); (case v4 => first | exact fun _ => rfl | exact fun z => absurd z (by decide)); (case a5 => k_is); (case b5 => k_is); (case c5 => k_is); (case t5 => k_is); (case s5 => k_is); (case v5 => first | exact fun _ => rfl | exact fun z => absurd z (by decide)); (case a6 => k_is); (case b6 => k_is); (case c6 => k_is); (case t6 => k_is); (case s6 => k_is); (case v6 => first | exact fun _ => rfl | exact fun z => absurd z (by decide)); (case a7 => k_is); (case b7 => k_is); (case c7 => k_is); (case t7 => k_is); (case s7 => k_is); (case v7 => first | exact fun _ => rfl | exact fun z => absurd z (by decide)); (case a8 => k_is); (case b8 => k_is); (case c8 => k_is); (case t8 => k_is); (case s8 => k_is); (case v8 => first | exact fun _ => rfl | exact fun z => absurd z (by decide)); (case a9 => k_is); (case b9 => k_is); (case c9 => k_is); (case t9 => k_is); (case s9 => k_is); (case v9 => first | exact fun _ => rfl | exact fun z => absurd z (by decide)); (case a10 => k_is); (case b10 => k_is); (case c10 => k_is); (case t10 => k_is); (case s10 => k_is); (case v10 => first | exact fun _ => rfl | exact fun z => absurd z (by decide)); (case a11 => k_is); (case b11 => k_is); (case c11 => k_is); (case t11 => k_is); (case s11 => k_is); (case v11 => first | exact fun _ => rfl | exact fun z => absurd z (by decide)); (case a12 => k_is); (case b12 => k_is); (case c12 => k_is); (case t12 => k_is); (case s12 => k_is); (case v12 => first | exact fun _ => rfl | exact fun z => absurd z (by decide)))
     (case pr_BadMoves => refine' ⟨Bx.pair_mk KX G ?a0 ?b0 ?c0 ?t0 ?s0 ?v0, Bx.pair_mk KX G ?a1 ?b1 ?c1 ?t1 ?s1 ?v1, Bx.pair_mk KX G ?a2 ?b2 ?c2 ?t2 ?s2 ?v2, Bx.pair_mk KX G ?a3 ?b3 ?c3 ?t3 ?s3 ?v3, Bx.pair_mk KX G ?a4 ?b4 ?c4 ?t4 ?s4 ?v4, Bx.pair_mk KX G ?a5 ?b5 ?c5 ?t5 ?s5 ?v5, Bx.pair_mk KX G ?a6 ?b6 ?c6 ?t6 ?s6 ?v6, Bx.pair_mk KX G ?a7 ?b7 ?c7 ?t7 ?s7 ?v7, Bx.pair_mk KX G ?a8 ?b8 ?c8 ?t8 ?s8 ?v8, Bx.pair_mk KX G ?a9 ?b9 ?c9 ?t9 ?s9 ?v9, Bx.pair_mk KX G ?a10 ?b10 ?c10 ?t10 ?s10 ?v10, Bx.pair_mk KX G ?a11 ?b11 ?c11 ?t11 ?s11 ?v11, Bx.pair_mk KX G ?a12 ?b12 ?c12 ?t12 ?s12 ?v12⟩; (case a0 => k_is); (case b0 => k_is); (case c0 => k_is); (case t0 => k_is); (case s0 => k_is); (case v0 => first | exact fun _ => rfl | exact fun z => absurd z (by decide)); (case a1 => k_is); (case b1 => k_is); (case c1 => k_is); (case t1 => k_is); (case s1 => k_is); (case v1 => first | exact fun _ => rfl | exact fun z => absurd z (by decide)); (case a2 => k_is); (case b2 => k_is); (case c2 => k_is); (case t2 => k_is); (case s2 => k_is); (case v2 => first | exact fun _ => rfl | exact fun z => absurd z (by decide)); (case a3 => k_is); (case b3 => k_is); (case c3 => k_is); (case t3 => k_is); (case s3 => k_is); (case v3 => first | exact fun _ => rfl | exact fun z => absurd z (by decide)); (case a4 => k_is); (case b4 => k_is); (case c4 => k_is); (case t4 => k_is); (case s4 => k_is); (case v4 => first | exact fun _ => rfl | exact fun z => absurd z (by decide)); (case a5 => k_is); (case b5 => k_is); (case c5 => k_is); (case t5 => k_is); (case s5 => k_is); (case v5 => first | exact fun _ => rfl | exact fun z => absurd z (by decide)); (case a6 => k_is); (case b6 => k_is); (case c6 => k_is); (case t6 => k_is); (case s6 => k_is); (case v6 => first | exact fun _ => rfl | exact fun z => absurd z (by decide)); (case a7 => k_is); (case b7 => k_is); (case c7 => k_is); (case t7 => k_is); (case s7 => k_is); (case v7 => first | exact fun _ => rfl | exact fun z => absurd z (by decide)); (case a8 => k_is); (case b8 => k_is); (case c8 => k_is); (case t8 => k_is); (case s8 => k_is); (case v8 => first | exact fun _ => rfl | exact fun z => absurd z (by decide)); (case a9 => k_is); (case b9 => k_is); (case c9 => k_is); (case t9 => k_is); (case s9 => k_is); (case v9 => first | exact fun _ => rfl | exact fun z => absurd z (by decide)); (case a10 => k_is); (case b10 => k_is); (case c10 => k_is); (case t10 => k_is); (case s10 => k_is); (case v10 => first | exact fun _ => rfl | exact fun z => absurd z (by decide)); (case a11 => k_is); (case b11 => k_is); (case c11 => k_is); (case t11 => k_is); (case s11 => k_is); (case v11 => first | exact fun _ => rfl | exact fun z => absurd z (by decide)); (case a12 => k_is); (case b12 => k_is); (case c12 => k_is); (case t12 => k_is); (case s12 => k_is); (case v12 => first | exact fun _ => rfl | exact fun z => absurd z (by decide)))
     (case pr_BadStrike => refine' ⟨Bx.pair_mk KX G ?a0 ?b0 ?c0 ?t0 ?s0 ?v0, Bx.pair_mk KX G ?a1 ?b1 ?c1 ?t1 ?s1 ?v1, Bx.pair_mk KX G ?a2 ?b2 ?c2 ?t2 ?s2 ?v2, Bx.pair_mk KX G ?a3 ?b3 ?c3 ?t3 ?s3 ?v3, Bx.pair_mk KX G ?a4 ?b4 ?c4 ?t4 ?s4 ?v4, Bx.pair_mk KX G ?a5 ?b5 ?c5 ?t5 ?s5 ?v5, Bx.pair_mk KX G ?a6 ?b6 ?c6 ?t6 ?s6 ?v6, Bx.pair_mk KX G ?a7 ?b7 ?c7 ?t7 ?s7 ?v7, Bx.pair_mk KX G ?a8 ?b8 ?c8 ?t8 ?s8 ?v8, Bx.pair_mk KX G ?a9 ?b9 ?c9 ?t9 ?s9 ?v9, Bx.pair_mk KX G ?a10 ?b10 ?c10 ?t10 ?s10 ?v10, Bx.pair_mk KX G ?a11 ?b11 ?c11 ?t11 ?s11 ?v11, Bx.pair_mk KX G ?a12 ?b12 ?c12 ?t12 ?s12 ?v12⟩; (case a0 => k_is); (case b0 => k_is); (case c0 => k_is); (case t0 => k_is); (case s0 => k_is); (case v0 => first | exact fun _ => rfl | exact fun z => absurd z (by decide)); (case a1 => k_is); (case b1 => k_is); (case c1 => k_is); (case t1 => k_is); (case s1 => k_is); (case v1 => first | exact fun _ => rfl | exact fun z => absurd z (by decide)); (case a2 => k_is); (case b2 => k_is); (case c2 => k_is); (case t2 => k_is); (case s2 => k_is); (case v2 => first | exact fun _ => rfl | exact fun z => absurd z (by decide)); (case a3 => k_is); (case b3 => k_is); (case c3 => k_is); (case t3 => k_is); (case s3 => k_is); (case v3 => first | exact fun _ => rfl | exact fun z => absurd z (by decide)); (case a4 => k_is); (case b4 => k_is); (case c4 => k_is); (case t4 => k_is); (case s4 => k_is); (case v4 => first | exact fun _ => rfl | exact fun z => absurd z (by decide)); (case a5 => k_is); (case b5 => k_is); (case c5 => k_is); (case t5 => k_is); (case s5 => k_is); (case v5 => first | exact fun _ => rfl | exact fun z => absurd z (by decide)); (case a6 => k_is); (case b6 => k_is); (case c6 => k_is); (case t6 => k_is); (case s6 => k_is); (case v6 => first | exact fun _ => rfl | exact fun z => absurd z (by decide)); (case a7 => k_is); (case b7 => k_is); (case c7 => k_is); (case t7 => k_is); (case s7 => k_is); (case v7 => first | exact fun _ => rfl | exact fun z => absurd z (by decide)); (case a8 => k_is); (case b8 => k_is); (case c8 => k_is); (case t8 => k_is); (case s8 => k_is); (case v8 => first | exact fun _ => rfl | exact fun z => absurd z (by decide)); (case a9 => k_is); (case b9 => k_is); (case c9 => k_is); (case t9 => k_is); (case s9 => k_is); (case v9 => first | exact fun _ => rfl | exact fun z => absurd z (by decide)); (case a10 => k_is); (case b10 => k_is); (case c10 => k_is); (case t10 => k_is); (case s10 => k_is); (case v10 => first | exact fun _ => rfl | exact fun z => absurd z (by decide)); (case a11 => k_is); (case b11 => k_is); (case c11 => k_is); (case t11 => k_is); (case s11 => k_is); (case v11 => first | exact fun _ => rfl | exact fun z => absurd z (by decide)); (case a12 => k_is); (case b12 => k_is); (case c12 => k_is); (case t12 => k_is); (case s12 => k_is); (case v12 => first | exact fun _ => rfl | exact fun z => absurd z (by decide)))
     (case pr_BadStriking => refine' ⟨Bx.pair_mk KX G ?a0 ?b0 ?c0 ?t0 ?s0 ?v0, Bx.pair_mk KX G ?a1 ?b1 ?c1 ?t1 ?s1 ?v1, Bx.pair_mk KX G ?a2 ?b2 ?c2 ?t2 ?s2 ?v2, Bx.pair_mk KX G ?a3 ?b3 ?c3 ?t3 ?s3 ?v3, Bx.pair_mk KX G ?a4 ?b4 ?c4 ?t4 ?s4 ?v4, Bx.pair_mk KX G ?a5 ?b5 ?c5 ?t5 ?s5 ?v5, Bx.pair_mk KX G ?a6 ?b6 ?c6 ?t6 ?s6 ?v6, Bx.pair_mk KX G ?a7 ?b7 ?c7 ?t7 ?s7 ?v7, Bx.pair_mk KX G ?a8 ?b8 ?c8 ?t8 ?s8 ?v8, Bx.pair_mk KX G ?a9 ?b9 ?c9 ?t9 ?s9 ?v9, Bx.pair_mk KX G ?a10 ?b10 ?c10 ?t10 ?s10 ?v10, Bx.pair_mk KX G ?a11 ?b11 ?c11 ?t11 ?s11 ?v11, Bx.pair_mk KX G ?a12 ?b12 ?c12 ?t12 ?s12 ?v12⟩; (case a0 => k_is); (case b0 => k_is); (case c0 => k_is); (case t0 => k_is); (case s0 => k_is); (case v0 => first | exact fun _ => rfl | exact fun z => absurd z (by decide)); (case a1 => k_is); (case b1 => k_is); (case c1 => k_is); (case t1 => k_is); (case s1 => k_is); (case v1 => first | exact fun _ => rfl | exact fun z => absurd z (by decide)); (case a2 => k_is); (case b2 => k_is); (case c2 => k_is); (case t2 => k_is); (case s2 => k_is); (case v2 => first | exact fun _ => rfl | exact fun z => absurd z (by decide)); (case a3 => k_is); (case b3 => k_is); (case c3 => k_is); (case t3 => k_is); (case s3 => k_is); (case v3 => first | exact fun _ => rfl | exact fun z => absurd z (by decide)); (case a4 => k_is); (case b4 => k_is); (case c4 => k_is); (case t4 => k_is); (case s4 => k_is); (case v4 => first | exact fun _ => rfl | exact fun z => absurd z (by decide)); (case a5 => k_is); (case b5 => k_is); (case c5 => k_is); (case t5 => k_is); (case s5 => k_is); (case v5 => first | exact fun _ => rfl | exact fun z => absurd z (by decide)); (case a6 => k_is); (case b6 => k_is); (case c6 => k_is); (case t6 => k_is); (case s6 => k_is); (case v6 => first | exact fun _ => rfl | exact fun z => absurd z (by decide)); (case a7 => k_is); (case b7 => k_is); (case c7 => k_is); (case t7 => k_is); (case s7 => k_is); (case v7 => first | exact fun _ => rfl | exact fun z => absurd z (by decide)); (case a8 => k_is); (case b8 => k_is); (case c8 => k_is); (case t8 => k_is); (case s8 => k_is); (case v8 => first | exact fun _ => rfl | exact fun z => absurd z (by decide)); (case a9 => k_is); (case b9 => k_is); (case c9 => k_is); (case t9 => k_is); (case s9 => k_is); (case v9 => first | exact fun _ => rfl | exact fun z => absurd z (by decide)); (case a10 => k_is); (case b10 => k_is); (case c10 => k_is); (case t10 => k_is); (case s10 => k_is); (case v10 => first | exact fun _ => rfl | exact fun z => absurd z (by decide)); (case a11 => k_is); (case b11 => k_is); (case c11 => k_is); (case t11 => k_is); (case s11 => k_is); (case v11 => first | exact fun _ => rfl | exact fun z => absurd z (by decide)); (case a12 => k_is); (case b12 => k_is); (case c12 => k_is); (case t12 => k_is); (case s12 => k_is); (case v12 => first | exact fun _ => rfl | exact fun z => absurd z (by decide)))
     (case pr_BadTake => refine' ⟨Bx.pair_mk KX G ?a0 ?b0 ?c0 ?t0 ?s0 ?v0, Bx.pair_mk KX G ?a1 ?b1 ?c1 ?t1 ?s1 ?v1, Bx.pair_mk KX G ?a2 ?b2 ?c2 ?t2 ?s2 ?v2, Bx.pair_mk KX G ?a3 ?b3 ?c3 ?t3 ?s3 ?v3, Bx.pair_mk KX G ?a4 ?b4 ?c4 ?t4 ?s4 ?v4, Bx.pair_mk KX G ?a5 ?b5 ?c5 ?t5 ?s5 ?v5, Bx.pair_mk KX G ?a6 ?b6 ?c6 ?t6 ?s6 ?v6, Bx.pair_mk KX G ?a7 ?b7 ?c7 ?t7 ?s7 ?v7, Bx.pair_mk KX G ?a8 ?b8 ?c8 ?t8 ?s8 ?v8, Bx.pair_mk KX G ?a9 ?b9 ?c9 ?t9 ?s9 ?v9, Bx.pair_mk KX G ?a10 ?b10 ?c10 ?t10 ?s10 ?v10, Bx.pair_mk KX G ?a11 ?b11 ?c11 ?t11 ?s11 ?v11, Bx.pair_mk KX G ?a12 ?b12 ?c12 ?t12 ?s12 ?v12⟩; (case a0 => k_is); (case b0 => k_is); (case c0 => k_is); (case t0 => k_is); (case s0 => k_is); (case v0 => first | exact fun _ => rfl | exact fun z => absurd z (by decide)); (case a1 => k_is); (case b1 => k_is); (case c1 => k_is); (case t1 => k_is); (case s1 => k_is); (case v1 => first | exact fun _ => rfl | exact fun z => absurd z (by decide)); (case a2 => k_is); (case b2 => k_is); (case c2 => k_is); (case t2 => k_is); (case s2 => k_is); (case v2 => first | exact fun _ => rfl | exact fun z => absurd z (by decide)); (case a3 => k_is); (case b3 => k_is); (case c3 => k_is); (case t3 => k_is); (case s3 => k_is); (case v3 => first | exact fun _ => rfl | exact fun z => absurd z (by decide)); (case a4 => k_is); (case b4 => k_is); (case c4 => k_is); (case t4 => k_is); (case s4 => k_is); (case v4 => first | exact fun _ => rfl | exact fun z => absurd z (by decide)); (case a5 => k_is); (case b5 => k_is); (case c5 => k_is); (case t5 => k_is); (case s5 => k_is); (case v5 => first | exact fun _ => rfl | exact fun z => absurd z (by decide)); (case a6 => k_is); (case b6 => k_is); (case c6 => k_is); (case t6 => k_is); (case s6 => k_is); (case v6 => first | exact fun _ => rfl | exact fun z => absurd z (by decide)); (case a7 => k_is); (case b7 => k_is); (case c7 => k_is); (case t7 => k_is); (case s7 => k_is); (case v7 => first | exact fun _ => rfl | exact fun z => absurd z (by decide)); (case a8 => k_is); (case b8 => k_is); (case c8 => k_is); (case t8 => k_is); (case s8 => k_is); (case v8 => first | exact fun _ => rfl | exact fun z => absurd z (by decide)); (case a9 => k_is); (case b9 => k_is); (case c9 => k_is); (case t9 => k_is); (case s9 => k_is); (case v9 => first | exact fun _ => rfl | exact fun z => absurd z (by decide)); (case a10 => k_is); (case b10 => k_is); (case c10 => k_is); (case t10 => k_is); (case s10 => k_is); (case v10 => first | exact fun _ => rfl | exact fun z => absurd z (by decide)); (case a11 => k_is); (case b11 => k_is); (case c11 => k_is); (case t11 => k_is); (case s11 => k_is); (case v11 => first | exact fun _ => rfl | exact fun z => absurd z (by decide)); (case a12 => k_is); (case b12 => k_is); (case c12 => k_is); (case t12 => k_is); (case s12 => k_is); (case v12 => first | exact fun _ => rfl | exact fun z => absurd z (by decide)))
     (case pr_BadTaking => refine' ⟨Bx.pair_mk KX G ?a0 ?b0 ?c0 ?t0 ?s0 ?v0, Bx.pair_mk KX G ?a1 ?b1 ?c1 ?t1 ?s1 ?v1, Bx.pair_mk KX G ?a2 ?b2 ?c2 ?t2 ?s2 ?v2, Bx.pair_mk KX G ?a3 ?b3 ?c3 ?t3 ?s3 ?v3, Bx.pair_mk KX G ?a4 ?b4 ?c4 ?t4 ?s4 ?v4, Bx.pair_mk KX G ?a5 ?b5 ?c5 ?t5 ?s5 ?v5, Bx.pair_mk KX G ?a6 ?b6 ?c6 ?t6 ?s6 ?v6, Bx.pair_mk KX G ?a7 ?b7 ?c7 ?t7 ?s7 ?v7, Bx.pair_mk KX G ?a8 ?b8 ?c8 ?t8 ?s8 ?v8, Bx.pair_mk KX G ?a9 ?b9 ?c9 ?t9 ?s9 ?v9, Bx.pair_mk KX G ?a10 ?b10 ?c10 ?t10 ?s10 ?v10, Bx.pair_mk KX G ?a11 ?b11 ?c11 ?t11 ?s11 ?v11, Bx.pair_mk KX G ?a12 ?b12 ?c12 ?t12 ?s12 ?v12⟩; (case a0 => k_is); (case b0 => k_is); (case c0 => k_is); (case t0 => k_is); (case s0 => k_is); (case v0 => first | exact fun _ => rfl | exact fun z => absurd z (by decide)); (case a1 => k_is); (case b1 => k_is); (case c1 => k_is); (case t1 => k_is); (case s1 => k_is); (case v1 => first | exact fun _ => rfl | exact fun z => absurd z (by decide)); (case a2 => k_is); (case b2 => k_is); (case c2 => k_is); (case t2 => k_is); (case s2 => k_is); (case v2 => first | exact fun _ => rfl | exact fun z => absurd z (by decide)); (case a3 => k_is); (case b3 => k_is); (case c3 => k_is); (case t3 => k_is); (case s3 => k_is); (case v3 => first | exact fun _ => rfl | exact fun z => absurd z (by decide)); (case a4 => k_is); (case b4 => k_is); (case c4 => k_is); (case t4 => k_is); (case s4 => k_is); (case v4 => first | exact fun _ => rfl | exact fun z => absurd z (by decide)); (case a5 => k_is); (case b5 => k_is); (case c5 => k_is); (case t5 => k_is); (case s5 => k_is); (case v5 => first | exact fun _ => rfl | exact fun z => absurd z (by decide)); (case a6 => k_is); (case b6 => k_is); (case c6 => k_is); (case t6 => k_is); (case s6 => k_is); (case v6 => first | exact fun _ => rfl | exact fun z => absurd z (by decide)); (case a7 => k_is); (case b7 => k_is); (case c7 => k_is); (case t7 => k_is); (case s7 => k_is); (case v7 => first | exact fun _ => rfl | exact fun z => absurd z (by decide)); (case a8 => k_is); (case b8 => k_is); (case c8 => k_is); (case t8 => k_is); (case s8 => k_is); (case v8 => first | exact fun _ => rfl | exact fun z => absurd z (by decide)); (case a9 => k_is); (case b9 => k_is); (case c9 => k_is); (case t9 => k_is); (case s9 => k_is); (case v9 => first | exact fun _ => rfl | exact fun z => absurd z (by decide)); (case a10 => k_is); (case b10 => k_is); (case c10 => k_is); (case t10 => k_is); (case s10 => k_is); (case v10 => first | exact fun _ => rfl | exact fun z => absurd z (by decide)); (case a11 => k_is); (case b11 => k_is); (case c11 => k_is); (case t11 => k_is); (case s11 => k_is); (case v11 => first | exact fun _ => rfl | exact fun z => absurd z (by decide)); (case a12 => k_is); (case b12 => k_is); (case c12 => k_is); (case t12 => k_is); (case s12 => k_is); (case v12 => first | exact fun _ => rfl | exact fun z => absurd z (by decide)))
     (case pr_BadTurns => refine' ⟨Bx.pair_mk KX G ?a0 ?b0 ?c0 ?t0 ?s0 ?v0, Bx.pair_mk KX G ?a1 ?b1 ?c1 ?t1 ?s1 ?v1, Bx.pair_mk KX G ?a2 ?b2 ?c2 ?t2 ?s2 ?v2, Bx.pair_mk KX G ?a3 ?b3 ?c3 ?t3 ?s3 ?v3, Bx.pair_mk KX G ?a4 ?b4 ?c4 ?t4 ?s4 ?v4, Bx.pair_mk KX G ?a5 ?b5 ?c5 ?t5 ?s5 ?v5, Bx.pair_mk KX G ?a6 ?b6 ?c6 ?t6 ?s6 ?v6, Bx.pair_mk KX G ?a7 ?b7 ?c7 ?t7 ?s7 ?v7, Bx.pair_mk KX G ?a8 ?b8 ?c8 ?t8 ?s8 ?v8, Bx.pair_mk KX G ?a9 ?b9 ?c9 ?t9 ?s9 ?v9, Bx.pair_mk KX G ?a10 ?b10 ?c10 ?t10 ?s10 ?v10, Bx.pair_mk KX G ?a11 ?b11 ?c11 ?t11 ?s11 ?v11, Bx.pair_mk KX G ?a12 ?b12 ?c12 ?t12 ?s12 ?v12⟩; (case a0 => k_is); (case b0 => k_is); (case c0 => k_is); (case t0 => k_is); (case s0 => k_is); (case v0 => first | exact fun _ => rfl | exact fun z => absurd z (by decide)); (case a1 => k_is); (case b1 => k_is); (case c1 => k_is); (case t1 => k_is); (case s1 => k_is); (case v1 => first | exact fun _ => rfl | exact fun z => absurd z (by decide)); (case a2 => k_is); (case b2 => k_is); (case c2 => k_is); (case t2 => k_is); (case s2 => k_is); (case v2 => first | exact fun _ => rfl | exact fun z => absurd z (by decide)); (case a3 => k_is); (case b3 => k_is); (case c3 => k_is); (case t3 => k_is); (case s3 => k_is); (case v3 => first | exact fun _ => rfl | exact fun z => absurd z (by decide)); (case a4 => k_is); (case b4 => k_is); (case c4 => k_is); (case t4 => k_is); (case s4 => k_is); (case v4 => first | exact fun _ => rfl | exact fun z => absurd z (by decide)); (case a5 => k_is); (case b5 => k_is); (case c5 => k_is); (case t5 => k_is); (case s5 => k_is); (case v5 => first | exact fun _ => rfl | exact fun z => absurd z (by decide)); (case a6 => k_is); (case b6 => k_is); (case c6 => k_is); (case t6 => k_is); (case s6 => k_is); (case v6 => first | exact fun _ => rfl | exact fun z => absurd z (by decide)); (case a7 => k_is); (case b7 => k_is); (case c7 => k_is); (case t7 => k_is); (case s7 => k_is); (case v7 => first | exact fun _ => rfl | exact fun z => absurd z (by decide)); (case a8 => k_is); (case b8 => k_is); (case c8 => k_is); (case t8 => k_is); (case s8 => k_is); (case v8 => first | exact fun _ => rfl | exact fun z => absurd z (by decide)); (case a9 => k_is); (case b9 => k_is); (case c9 => k_is); (case t9 => k_is); (case s9 => k_is); (case v9 => first | exact fun _ => rfl | exact fun z => absurd z (by decide)); (case a10 => k_is); (case b10 => k_is); (case c10 => k_is); (case t10 => k_is); (case s10 => k_is); (case v10 => first | exact fun _ => rfl | exact fun z => absurd z (by decide)); (case a11 => k_is); (case b11 => k_is); (case c11 => k_is); (case t11 => k_is); (case s11 => k_is); (case v11 => first | exact fun _ => rfl | exact fun z => absurd z (by decide)); (case a12 => k_is); (case b12 => k_is); (case c12 => k_is); (case t12 => k_is); (case s12 => k_is); (case v12 => first | exact fun _ => rfl | exact fun z => absurd z (by decide)))
     (case pr_InvalidText => refine' ⟨Bx.pair_mk KX G ?a0 ?b0 ?c0 ?t0 ?s0 ?v0, Bx.pair_mk KX G ?a1 ?b1 ?c1 ?t1 ?s1 ?v1, Bx.pair_mk KX G ?a2 ?b2 ?c2 ?t2 ?s2 ?v2, Bx.pair_mk KX G ?a3 ?b3 ?c3 ?t3 ?s3 ?v3, Bx.pair_mk KX G ?a4 ?b4 ?c4 ?t4 ?s4 ?v4, Bx.pair_mk KX G ?a5 ?b5 ?c5 ?t5 ?s5 ?v5, Bx.pair_mk KX G ?a6 ?b6 ?c6 ?t6 ?s6 ?v6, Bx.pair_mk KX G ?a7 ?b7 ?c7 ?t7 ?s7 ?v7, Bx.pair_mk KX G ?a8 ?b8 ?c8 ?t8 ?s8 ?v8, Bx.pair_mk KX G ?a9 ?b9 ?c9 ?t9 ?s9 ?v9, Bx.pair_mk KX G ?a10 ?b10 ?c10 ?t10 ?s10 ?v10, Bx.pair_mk KX G ?a11 ?b11 ?c11 ?t11 ?s11 ?v11, Bx.pair_mk KX G ?a12 ?b12 ?c12 ?t12 ?s12 ?v12⟩; (case a0 => k_is); (case b0 => k_is); (case c0 => k_is); (case t0 => k_is); (case s0 => k_is); (case v0 => first | exact fun _ => rfl | exact fun z => absurd z (by decide)); (case a1 => k_is); (case b1 => k_is); (case c1 => k_is); (case t1 => k_is); (case s1 => k_is); (case v1 => first | exact fun _ => rfl | exact fun z => absurd z (by decide)); (case a2 => k_is); (case b2 => k_is); (case c2 => k_is); (case t2 => k_is); (case s2 => k_is); (case v2 => first | exact fun _ => rfl | exact fun z => absurd z (by decide)); (case a3 => k_is); (case b3 => k_is); (case c3 => k_is); (case t3 => k_is); (case s3 => k_is); (case v3 => first | exact fun _ => rfl | exact fun z => absurd z (by decide)); (case a4 => k_is); (case b4 => k_is); (case c4 => k_is); (case t4 => k_is); (case s4 => k_is); (case v4 => first | exact fun _ => rfl | exact fun z => absurd z (by decide)); (case a5 => k_is); (case b5 => k_is); (case c5 => k_is); (case t5 => k_is); (case s5 => k_is); (case v5 => first | exact fun _ => rfl | exact fun z => absurd z (by decide)); (case a6 => k_is); (case b6 => k_is); (case c6 => k_is); (case t6 => k_is); (case s6 => k_is); (case v6 => first | exact fun _ => rfl | exact fun z => absurd z (by decide)); (case a7 => k_is); (case b7 => k_is); (case c7 => k_is); (case t7 => k_is); (case s7 => k_is); (case v7 => first | exact fun _ => rfl | exact fun z => absurd z (by decide)); (case a8 => k_is); (case b8 => k_is); (case c8 => k_is); (case t8 => k_is); (case s8 => k_is); (case v8 => first | exact fun _ => rfl | exact fun z => absurd z (by decide)); (case a9 => k_is); (case b9 => k_is); (case c9 => k_is); (case t9 => k_is); (case s9 => k_is); (case v9 => first | exact fun _ => rfl | exact fun z => absurd z (by decide)); (case a10 => k_is); (case b10 => k_is); (case c10 => k_is); (case t10 => k_is); (case s10 => k_is); (case v10 => first | exact fun _ => rfl | exact fun z => absurd z (by decide)); (case a11 => k_is); (case b11 => k_is); (case c11 => k_is); (case t11 => k_is); (case s11 => k_is); (case v11 => first | exact fun _ => rfl | exact fun z => absurd z (by decide)); (case a12 => k_is); (case b12 => k_is); (case c12 => k_is); (case t12 => k_is); (case s12 => k_is); (case v12 => first | exact fun _ => rfl | exact fun z => absurd z (by decide)))
     (case pr_NotTurn => refine' ⟨Bx.pair_mk KX G ?a0 ?b0 ?c0 ?t0 ?s0 ?v0, Bx.pair_mk KX G ?a1 ?b1 ?c1 ?t1 ?s1 ?v1, Bx.pair_mk KX G ?a2 ?b2 ?c2 ?t2 ?s2 ?v2, Bx.pair_mk KX G ?a3 ?b3 ?c3 ?t3 ?s3 ?v3, Bx.pair_mk KX G ?a4 ?b4 ?c4 ?t4 ?s4 ?v4, Bx.pair_mk KX G ?a5 ?b5 ?c5 ?t5 ?s5 ?v5, Bx.pair_mk KX G ?a6 ?b6 ?c6 ?t6 ?s6 ?v6, Bx.pair_mk KX G ?a7 ?b7 ?c7 ?t7 ?s7 ?v7, Bx.pair_mk KX G ?a8 ?b8 ?c8 ?t8 ?s8 ?v8, Bx.pair_mk KX G ?a9 ?b9 ?c9 ?t9 ?s9 ?v9, Bx.pair_mk KX G ?a10 ?b10 ?c10 ?t10 ?s10 ?v10, Bx.pair_mk KX G ?a11 ?b11 ?c11 ?t11 ?s11 ?v11, Bx.pair_mk KX G ?a12 ?b12 ?c12 ?t12 ?s12 ?v12⟩; (case a0 => k_is); (case b0 => k_is); (case c0 => k_is); (case t0 => k_is); (case s0 => k_is); (case v0 => first | exact fun _ => rfl | exact fun z => absurd z (by decide)); (case a1 => k_is); (case b1 => k_is); (case c1 => k_is); (case t1 => k_is); (case s1 => k_is); (case v1 => first | exact fun _ => rfl | exact fun z => absurd z (by decide)); (case a2 => k_is); (case b2 => k_is); (case c2 => k_is); (case t2 => k_is); (case s2 => k_is); (case v2 => first | exact fun _ => rfl | exact fun z => absurd z (by decide)); (case a3 => k_is); (case b3 => k_is); (case c3 => k_is); (case t3 => k_is); (case s3 => k_is); (case v3 => first | exact fun _ => rfl | exact fun z => absurd z (by decide)); (case a4 => k_is); (case b4 => k_is); (case c4 => k_is); (case t4 => k_is); (case s4 => k_is); (case v4 => first | exact fun _ => rfl | exact fun z => absurd z (by decide)); (case a5 => k_is); (case b5 => k_is); (case c5 => k_is); (case t5 => k_is); (case s5 => k_is); (case v5 => first | exact fun _ => rfl | exact fun z => absurd z (by decide)); (case a6 => k_is); (case b6 => k_is); (case c6 => k_is); (case t6 => k_is); (case s6 => k_is); (case v6 => first | exact fun _ => rfl | exact fun z => absurd z (by decide)); (case a7 => k_is); (case b7 => k_is); (case c7 => k_is); (case t7 => k_is); (case s7 => k_is); (case v7 => first | exact fun _ => rfl | exact fun z => absurd z (by decide)); (case a8 => k_is); (case b8 => k_is); (case c8 => k_is); (case t8 => k_is); (case s8 => k_is); (case v8 => first | exact fun _ => rfl | exact fun z => absurd z (by decide)); (case a9 => k_is); (case b9 => k_is); (case c9 => k_is); (case t9 => k_is); (case s9 => k_is); (case v9 => first | exact fun _ => rfl | exact fun z => absurd z (by decide)); (case a10 => k_is); (case b10 => k_is); (case c10 => k_is); (case t10 => k_is); (case s10 => k_is); (case v10 => first | exact fun _ => rfl | exact fun z => absurd z (by decide)); (case a11 => k_is); (case b11 => k_is); (case c11 => k_is); (case t11 => k_is); (case s11 => k_is); (case v11 => first | exact fun _ => rfl | exact fun z => absurd z (by decide)); (case a12 => k_is); (case b12 => k_is); (case c12 => k_is); (case t12 => k_is); (case s12 => k_is); (case v12 => first | exact fun _ => rfl | exact fun z => absurd z (by decide)))
     (case pr_TooLarge => refine' ⟨Bx.pair_mk KX G ?a0 ?b0 ?c0 ?t0 ?s0 ?v0, Bx.pair_mk KX G ?a1 ?b1 ?c1 ?t1 ?s1 ?v1, Bx.pair_mk KX G ?a2 ?b2 ?c2 ?t2 ?s2 ?v2, Bx.pair_mk KX G ?a3 ?b3 ?c3 ?t3 ?s3 ?v3, Bx.pair_mk KX G ?a4 ?b4 ?c4 ?t4 ?s4 ?v4, Bx.pair_mk KX G ?a5 ?b5 ?c5 ?t5 ?s5 ?v5, Bx.pair_mk KX G ?a6 ?b6 ?c6 ?t6 ?s6 ?v6, Bx.pair_mk KX G ?a7 ?b7 ?c7 ?t7 ?s7 ?v7, Bx.pair_mk KX G ?a8 ?b8 ?c8 ?t8 ?s8 ?v8, Bx.pair_mk KX G ?a9 ?b9 ?c9 ?t9 ?s9 ?v9, Bx.pair_mk KX G ?a10 ?b10 ?c10 ?t10 ?s10 ?v10, Bx.pair_mk KX G ?a11 ?b11 ?c11 ?t11 ?s11 ?v11, Bx.pair_mk KX G ?a12 ?b12 ?c12 ?t12 ?s12 ?v12⟩; (case a0 => k_is); (case b0 => k_is); (case c0 => k_is); (case t0 => k_is); (case s0 => k_is); (case v0 => first | exact fun _ => rfl | exact fun z => absurd z (by decide)); (case a1 => k_is); (case b1 => k_is); (case c1 => k_is); (case t1 => k_is); (case s1 => k_is); (case v1 => first | exact fun _ => rfl | exact fun z => absurd z (by decide)); (case a2 => k_is); (case b2 => k_is); (case c2 => k_is); (case t2 => k_is); (case s2 => k_is); (case v2 => first | exact fun _ => rfl | exact fun z => absurd z (by decide)); (case a3 => k_is); (case b3 => k_is); (case c3 => k_is); (case t3 => k_is); (case s3 => k_is); (case v3 => first | exact fun _ => rfl | exact fun z => absurd z (by decide)); (case a4 => k_is); (case b4 => k_is); (case c4 => k_is); (case t4 => k_is); (case s4 => k_is); (case v4 => first | exact fun _ => rfl | exact fun z => absurd z (by decide)); (case a5 => k_is); (case b5 => k_is); (case c5 => k_is); (case t5 => k_is); (case s5 => k_is); (case v5 => first | exact fun _ => rfl | exact fun z => absurd z (by decide)); (case a6 => k_is); (case b6 => k_is); (case c6 => k_is); (case t6 => k_is); (case s6 => k_is); (case v6 => first | exact fun _ => rfl | exact fun z => absurd z (by decide)); (case a7 => k_is); (case b7 => k_is); (case c7 => k_is); (case t7 => k_is); (case s7 => k_is); (case v7 => first | exact fun _ => rfl | exact fun z => absurd z (by decide)); (case a8 => k_is); (case b8 => k_is); (case c8 => k_is); (case t8 => k_is); (case s8 => k_is); (case v8 => first | exact fun _ => rfl | exact fun z => absurd z (by decide)); (case a9 => k_is); (case b9 => k_is); (case c9 => k_is); (case t9 => k_is); (case s9 => k_is); (case v9 => first | exact fun _ => rfl | exact fun z => absurd z (by decide)); (case a10 => k_is); (case b10 => k_is); (case c10 => k_is); (case t10 => k_is); (case s10 => k_is); (case v10 => first | exact fun _ => rfl | exact fun z => absurd z (by decide)); (case a11 => k_is); (case b11 => k_is); (case c11 => k_is); (case t11 => k_is); (case s11 => k_is); (case v11 => first | exact fun _ => rfl | exact fun z => absurd z (by decide)); (case a12 => k_is); (case b12 => k_is); (case c12 => k_is); (case t12 => k_is); (case s12 => k_is); (case v12 => first | exact fun _ => rfl | exact fun z => absurd z (by decide)))
     (case pv_ValueError => refine' ⟨Bx.pve_mk KX G ?a0 ?s0, Bx.pve_mk KX G ?a1 ?s1, Bx.pve_mk KX G ?a2 ?s2, Bx.pve_mk KX G ?a3 ?s3, Bx.pve_mk KX G ?a4 ?s4, Bx.pve_mk KX G ?a5 ?s5, Bx.pve_mk KX G ?a6 ?s6, Bx.pve_mk KX G ?a7 ?s7, Bx.pve_mk KX G ?a8 ?s8, Bx.pve_mk KX G ?a9 ?s9, Bx.pve_mk KX G ?a10 ?s10, Bx.pve_mk KX G ?a11 ?s11, Bx.pve_mk KX G ?a12 ?s12⟩; (case a0 => k_is); (case s0 => k_is); (case a1 => k_is); (case s1 => k_is); (case a2 => k_is); (case s2 => k_is); (case a3 => k_is); (case s3 => k_is); (case a4 => k_is); (case s4 => k_is); (case a5 => k_is); (case s5 => k_is); (case a6 => k_is); (case s6 => k_is); (case a7 => k_is); (case s7 => k_is); (case a8 => k_is); (case s8 => k_is); (case a9 => k_is); (case s9 => k_is); (case a10 => k_is); (case s10 => k_is); (case a11 => k_is); (case s11 => k_is); (case a12 => k_is); (case s12 => k_is))
     (case d_wall => refine' Bx.def_mk KX G ?a ?l ?c ?k ?hb; (case a => k_is); (case l => k_is); (case c => k_is); (case k => k_is); (case hb => exact fun _ _ _ _ _ _ us hl => match us, hl with | [_], _ => rfl))
     (case d_is_integer => refine' Bx.def_mk KX G ?a ?l ?c ?k ?hb; (case a => k_is); (case l => k_is); (case c => k_is); (case k => k_is); (case hb => exact fun _ _ _ _ _ _ us hl => match us, hl with | [_], _ => rfl))
     (case d_is_from => refine' Bx.def_mk KX G ?a ?l ?c ?k ?hb; (case a => k_is); (case l => k_is); (case c => k_is); (case k => k_is); (case hb => exact fun _ _ _ _ _ _ us hl => match us, hl with | [_, _, _], _ => rfl))
     (case d_check_boxes => refine' Bx.def_mk KX G ?a ?l ?c ?k ?hb; (case a => k_is); (case l => k_is); (case c => k_is); (case k => k_is); (case hb => exact fun _ _ _ _ _ _ us hl => match us, hl with | [_], _ => rfl))
     (case d_check_take => refine' Bx.def_mk KX G ?a ?l ?c ?k ?hb; (case a => k_is); (case l => k_is); (case c => k_is); (case k => k_is); (case hb => exact fun _ _ _ _ _ _ us hl => match us, hl with | [_], _ => rfl))
     (case d_check_strike => refine' Bx.def_mk KX G ?a ?l ?c ?k ?hb; (case a => k_is); (case l => k_is); (case c => k_is); (case k => k_is); (case hb => exact fun _ _ _ _ _ _ us hl => match us, hl with | [_], _ => rfl))
     (case d_check_game => refine' Bx.def_mk KX G ?a ?l ?c ?k ?hb; (case a => k_is); (case l => k_is); (case c => k_is); (case k => k_is); (case hb => exact fun _ _ _ _ _ _ us hl => match us, hl with | [_], _ => rfl))
     (case d_check_first => refine' Bx.def_mk KX G ?a ?l ?c ?k ?hb; (case a => k_is); (case l => k_is); (case c => k_is); (case k => k_is); (case hb => exact fun _ _ _ _ _ _ us hl => match us, hl with | [_], _ => rfl))
     (case d_bounds_of => refine' Bx.def_mk KX G ?a ?l ?c ?k ?hb; (case a => k_is); (case l => k_is); (case c => k_is); (case k => k_is); (case hb => exact fun _ _ _ _ _ _ us hl => match us, hl with | [_, _, _], _ => rfl))
     (case d_tops_of => refine' Bx.def_mk KX G ?a ?l ?c ?k ?hb; (case a => k_is); (case l => k_is); (case c => k_is); (case k => k_is); (case hb => exact fun _ _ _ _ _ _ us hl => match us, hl with | [_], _ => rfl))
     (case d_sums_of => refine' Bx.def_mk KX G ?a ?l ?c ?k ?hb; (case a => k_is); (case l => k_is); (case c => k_is); (case k => k_is); (case hb => exact fun _ _ _ _ _ _ us hl => match us, hl with | [_, _, _], _ => rfl))
     (case d_over => refine' Bx.def_mk KX G ?a ?l ?c ?k ?hb; (case a => k_is); (case l => k_is); (case c => k_is); (case k => k_is); (case hb => exact fun _ _ _ _ _ _ us hl => match us, hl with | [_, _], _ => rfl))
     (case d_turns_of => refine' Bx.def_mk KX G ?a ?l ?c ?k ?hb; (case a => k_is); (case l => k_is); (case c => k_is); (case k => k_is); (case hb => exact fun _ _ _ _ _ _ us hl => match us, hl with | [_, _, _], _ => rfl))
     (case d_left_for => refine' Bx.def_mk KX G ?a ?l ?c ?k ?hb; (case a => k_is); (case l => k_is); (case c => k_is); (case k => k_is); (case hb => exact fun _ _ _ _ _ _ us hl => match us, hl with | [_, _, _], _ => rfl))
     (case d_turns_by => refine' Bx.def_mk KX G ?a ?l ?c ?k ?hb; (case a => k_is); (case l => k_is); (case c => k_is); (case k => k_is); (case hb => exact fun _ _ _ _ _ _ us hl => match us, hl with | [_, _, _, _], _ => rfl))
     (case d_winner_by => refine' Bx.def_mk KX G ?a ?l ?c ?k ?hb; (case a => k_is); (case l => k_is); (case c => k_is); (case k => k_is); (case hb => exact fun _ _ _ _ _ _ us hl => match us, hl with | [_, _, _, _], _ => rfl))
     (case d_check_asked => refine' Bx.def_mk KX G ?a ?l ?c ?k ?hb; (case a => k_is); (case l => k_is); (case c => k_is); (case k => k_is); (case hb => exact fun _ _ _ _ _ _ us hl => match us, hl with | [_, _], _ => rfl))
     (case d_winner => refine' Bx.def_mk KX G ?a ?l ?c ?k ?hb; (case a => k_is); (case l => k_is); (case c => k_is); (case k => k_is); (case hb => exact fun _ _ _ _ _ _ us hl => match us, hl with | [_, _], _ => rfl))
     (case d_in_turns => refine' Bx.def_mk KX G ?a ?l ?c ?k ?hb; (case a => k_is); (case l => k_is); (case c => k_is); (case k => k_is); (case hb => exact fun _ _ _ _ _ _ us hl => match us, hl with | [_, _, _], _ => rfl))
     (case d_open_boxes => refine' Bx.def_mk KX G ?a ?l ?c ?k ?hb; (case a => k_is); (case l => k_is); (case c => k_is); (case k => k_is); (case hb => exact fun _ _ _ _ _ _ us hl => match us, hl with | [_], _ => rfl))
     (case d_sizes_of => refine' Bx.def_mk KX G ?a ?l ?c ?k ?hb; (case a => k_is); (case l => k_is); (case c => k_is); (case k => k_is); (case hb => exact fun _ _ _ _ _ _ us hl => match us, hl with | [_], _ => rfl))
     (case d_without => refine' Bx.def_mk KX G ?a ?l ?c ?k ?hb; (case a => k_is); (case l => k_is); (case c => k_is); (case k => k_is); (case hb => exact fun _ _ _ _ _ _ us hl => match us, hl with | [_, _], _ => rfl))
     (case d_all_takings => refine' Bx.def_mk KX G ?a ?l ?c ?k ?hb; (case a => k_is); (case l => k_is); (case c => k_is); (case k => k_is); (case hb => exact fun _ _ _ _ _ _ us hl => match us, hl with | [_, _], _ => rfl))
     (case d_is_winning => refine' Bx.def_mk KX G ?a ?l ?c ?k ?hb; (case a => k_is); (case l => k_is); (case c => k_is); (case k => k_is); (case hb => exact fun _ _ _ _ _ _ us hl => match us, hl with | [_, _, _, _], _ => rfl))
     (case d_many_takings => refine' Bx.def_mk KX G ?a ?l ?c ?k ?hb; (case a => k_is); (case l => k_is); (case c => k_is); (case k => k_is); (case hb => exact fun _ _ _ _ _ _ us hl => match us, hl with | [_], _ => rfl))
     (case d_is_taking => refine' Bx.def_mk KX G ?a ?l ?c ?k ?hb; (case a => k_is); (case l => k_is); (case c => k_is); (case k => k_is); (case hb => exact fun _ _ _ _ _ _ us hl => match us, hl with | [_, _, _], _ => rfl))
     (case d_is_striking => refine' Bx.def_mk KX G ?a ?l ?c ?k ?hb; (case a => k_is); (case l => k_is); (case c => k_is); (case k => k_is); (case hb => exact fun _ _ _ _ _ _ us hl => match us, hl with | [_, _, _], _ => rfl))
     (case d_is_move => refine' Bx.def_mk KX G ?a ?l ?c ?k ?hb; (case a => k_is); (case l => k_is); (case c => k_is); (case k => k_is); (case hb => exact fun _ _ _ _ _ _ us hl => match us, hl with | [_, _, _, _], _ => rfl))
     (case d_behind => refine' Bx.def_mk KX G ?a ?l ?c ?k ?hb; (case a => k_is); (case l => k_is); (case c => k_is); (case k => k_is); (case hb => exact fun _ _ _ _ _ _ us hl => match us, hl with | [_, _], _ => rfl))
     (case d_has_won => refine' Bx.def_mk KX G ?a ?l ?c ?k ?hb; (case a => k_is); (case l => k_is); (case c => k_is); (case k => k_is); (case hb => exact fun _ _ _ _ _ _ us hl => match us, hl with | [_], _ => rfl))
     (case d_turn_behind => refine' Bx.def_mk KX G ?a ?l ?c ?k ?hb; (case a => k_is); (case l => k_is); (case c => k_is); (case k => k_is); (case hb => exact fun _ _ _ _ _ _ us hl => match us, hl with | [_, _], _ => rfl))
     (case d_winner_now => refine' Bx.def_mk KX G ?a ?l ?c ?k ?hb; (case a => k_is); (case l => k_is); (case c => k_is); (case k => k_is); (case hb => exact fun _ _ _ _ _ _ us hl => match us, hl with | [_, _, _], _ => rfl))
     (case d_judge => refine' Bx.def_mk KX G ?a ?l ?c ?k ?hb; (case a => k_is); (case l => k_is); (case c => k_is); (case k => k_is); (case hb => exact fun _ _ _ _ _ _ us hl => match us, hl with | [_, _, _], _ => rfl))
     (case d_greatest_equal => refine' Bx.def_mk KX G ?a ?l ?c ?k ?hb; (case a => k_is); (case l => k_is); (case c => k_is); (case k => k_is); (case hb => exact fun _ _ _ _ _ _ us hl => match us, hl with | [_, _, _, _], _ => rfl))
     (case d_number_at => refine' Bx.def_mk KX G ?a ?l ?c ?k ?hb; (case a => k_is); (case l => k_is); (case c => k_is); (case k => k_is); (case hb => exact fun _ _ _ _ _ _ us hl => match us, hl with | [_, _, _, _], _ => rfl))
     (case d_words_at => refine' Bx.def_mk KX G ?a ?l ?c ?k ?hb; (case a => k_is); (case l => k_is); (case c => k_is); (case k => k_is); (case hb => exact fun _ _ _ _ _ _ us hl => match us, hl with | [_, _, _], _ => rfl))
     (case d_read_one => refine' Bx.def_mk KX G ?a ?l ?c ?k ?hb; (case a => k_is); (case l => k_is); (case c => k_is); (case k => k_is); (case hb => exact fun _ _ _ _ _ _ us hl => match us, hl with | [_, _, _, _], _ => rfl))
     (case d_read_game => refine' Bx.def_mk KX G ?a ?l ?c ?k ?hb; (case a => k_is); (case l => k_is); (case c => k_is); (case k => k_is); (case hb => exact fun _ _ _ _ _ _ us hl => match us, hl with | [_], _ => rfl))
     (case d_law_mix => refine' Bx.def_mk KX G ?a ?l ?c ?k ?hb; (case a => k_is); (case l => k_is); (case c => k_is); (case k => k_is); (case hb => exact fun _ _ _ _ _ _ us hl => match us, hl with | [_, _], _ => rfl))
     (case d_law_next => refine' Bx.def_mk KX G ?a ?l ?c ?k ?hb; (case a => k_is); (case l => k_is); (case c => k_is); (case k => k_is); (case hb => exact fun _ _ _ _ _ _ us hl => match us, hl with | [_, _], _ => rfl))
     (case d_law_which => refine' Bx.def_mk KX G ?a ?l ?c ?k ?hb; (case a => k_is); (case l => k_is); (case c => k_is); (case k => k_is); (case hb => exact fun _ _ _ _ _ _ us hl => match us, hl with | [_], _ => rfl))
     (case d_law_early => refine' Bx.def_mk KX G ?a ?l ?c ?k ?hb; (case a => k_is); (case l => k_is); (case c => k_is); (case k => k_is); (case hb => exact fun _ _ _ _ _ _ us hl => match us, hl with | [_, _, _], _ => rfl))
     (case d_law_do => refine' Bx.def_mk KX G ?a ?l ?c ?k ?hb; (case a => k_is); (case l => k_is); (case c => k_is); (case k => k_is); (case hb => exact fun _ _ _ _ _ _ us hl => match us, hl with | [_, _, _], _ => rfl))
     (case d_law => refine' Bx.def_mk KX G ?a ?l ?c ?k ?hb; (case a => k_is); (case l => k_is); (case c => k_is); (case k => k_is); (case hb => exact fun _ _ _ _ _ _ us hl => match us, hl with | [_], _ => rfl))

