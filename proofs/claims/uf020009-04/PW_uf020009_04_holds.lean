import PyProof.Rows.All
import Wide.All
import OpenK.AllK
import Wide.FinOn
import PyProof.Rules
import PyProof.Calls
import PyProof.Rules2
import PyProof.RulesTry
import PyProof.AssignAttr
import PyProof.Seq
import PyProof.Methods
import PyProof.NoPylong
import PyProof.AutoSeq1
import PyProof.Rules3
import PyProof.FitsInt
import PyProof.FString5
import PyProof.SliceList
import PyProof.ForAny
import PyProof.CallStr
import PyProof.Cells
import PyProof.CompUse
import PyProof.PlainList
import PyProof.ConsumeWalk
import PyProof.StrWalks
import PyProof.CompFree
import PyProof.PureInt
import PyProof.Conv_int_bool
import PyProof.FactsDict
import PyProof.ListOps
import PyProof.DictKinds
import PyProof.DictRoads
import PyProof.DictTable
import PyProof.IsRules
import PyProof.ExcArgsOwn
import PyProof.ExcBaseAll.ValueError
import PyProof.ExcClass3
import PyProof.StationsW
import PyProof.FitsBits
import PyProof.StrLawsIn
import PyProof.SliceStr2
import PyProof.StrOps
import PyProof.StrOps2
import PyProof.WalksMore
import PyProof.RangeFor
import PyProof.IsiHeapPairs
import PyProof.IsiNone
import PyProof.IsiPairs
import PyProof.ListCopy
import PyProof.ListIndexNeg
import PyProof.ListStr
import PyProof.ListTruth
import PyProof.WalkInts
import PyProof.RulesAs
import PyProof.ReprText
import PyProof.StrLawsRepr
import PyProof.ReprLen
import PyProof.ReprRoads
import PyProof.Rows.Tup
import PyProof.Rows.TupAssign
import PyProof.Rows.TupSub
import PyProof.Rows.Lst
import PyProof.StrLawsIdx
import PyProof.ZipIter
import PyProof.Truth
import PyProof.StrCalls2
import PyProof.Rows.StrJoin2
import PyProof.Rows.Catch
import PyProof.Rows.Chain
import PyProof.Rows.RuleB_mul
import PyProof.Rows.RuleB_pow
import PyProof.Rows.RuleB_floordiv
import PyProof.Rows.RuleB_mod
import PyProof.StrCalls3
import PyProof.Rows.StrTemp
import PyProof.Rows.ListMul
import PyProof.Rows.RuleN_abs
import PyProof.Rows.TupMore
import PyProof.SliceMore
import PyProof.Rows.StrClip
import PyProof.Rows.StrRev
import PyProof.Rows.EqDataRows
import PyProof.RulesMatch
import PyProof.RulesAssignMore
import PyProof.Rows.SeqMore
import PyProof.Rows.SumAny
import PyProof.TupleOfSeq
import PyProof.Rows.SortStr
import PyProof.Rows.ExtendIn
import OpenK.KMake
import OpenK.KWalk
import OpenK.KMore
import Open.Pieces
import OpenK.KLine
import KE.KItem
import KE.KIntText
import OpenK.KOwn
import KE.KIsAll
import PySem.Challenge.RW_uf020009_04
set_option Elab.async false
set_option autoImplicit false
set_option linter.unusedVariables false
set_option linter.unusedSimpArgs false
set_option maxRecDepth 100000
set_option maxHeartbeats 8000000

namespace Mine
open PySem PyProof.Rows

/-- shadow values -/
inductive V where
  | none
  | bool (b : Bool)
  | int (i : Int)
  | str (s : Str)
  | tup (vs : List V)
  | lst (vs : List V)
  | dct (ks : List Str) (vs : List V)
  | loc (a : Addr)
  | glob (v : Value)
  | exc (C : Addr)
  | rng (lo hi : Int)
  | obj (C : Addr) (ks : List Str) (vs : List V)

/-- mutable objects -/
inductive MObj where
  | lst (vs : List V)
  | inst (C d : Addr)
  | idict (ks : List Str) (vs : List V)

noncomputable abbrev Hp := Addr → Option MObj
noncomputable abbrev Pr := Addr → Prop

noncomputable def Hp.set (η : Hp) (a : Addr) (o : MObj) : Hp := fun b => if b = a then some o else η b
theorem Hp.set_self (η : Hp) (a : Addr) (o : MObj) : η.set a o a = some o := if_pos rfl
theorem Hp.set_ne (η : Hp) {a b : Addr} (o : MObj) (h : b ≠ a) : η.set a o b = η b := if_neg h

/-- entries of a dict with written str keys -/
inductive Ents (P : Params) : List DictEntry → List Str → List Value → Prop
  | nil : Ents P [] [] []
  | cons {k : Str} {t : Tok} {x : Value} {es ks xs} : Ents P es ks xs → Ents P (⟨if k.cps.isEmpty then 0 else reduceHash (P.strHash k.cps), .str k t, x⟩ :: es) (k :: ks) (x :: xs)

mutual
def Rv (P : Params) (h : Heap) (η : Hp) (pr : Pr) : V → Value → Prop
  | .none, v => v = .none
  | .bool b, v => v = .bool b
  | .int i, v => ∃ t, v = .int i t
  | .str s, v => ∃ t, v = .str s t
  | .tup vs, v => ∃ a xs n, v = .ref a ∧ h.get? a = some { cls := .type "tuple", data := .seq xs.toArray n } ∧ (η a = none ∧ ¬ pr a) ∧ vs.length ≤ sizeLine ∧ Rvs P h η pr vs xs
  | .lst vs, v => ∃ a xs n, v = .ref a ∧ h.get? a = some { cls := .type "list", data := .seq xs.toArray n } ∧ (η a = none ∧ ¬ pr a) ∧ vs.length ≤ sizeLine ∧ Rvs P h η pr vs xs
  | .dct ks vs, v => ∃ a xs es n, v = .ref a ∧ h.get? a = some { cls := .type "dict", data := .dict es n } ∧ (η a = none ∧ ¬ pr a) ∧ Ents P es.toList ks xs ∧ Rvs P h η pr vs xs
  | .loc a, v => v = .ref a ∧ (η a).isSome = true
  | .glob g, v => v = g
  | .rng lo hi, v => ∃ a t u k, v = .ref a ∧ h.get? a = some { cls := .type "range", data := .fields #[.int lo t, .int hi u, .int 1 k] } ∧ (η a = none ∧ ¬ pr a)
  | .obj C ks vs, v => ∃ a dd xs es n, v = .ref a ∧ h.get? a = some { cls := .ref C, dict := some dd, data := .plain } ∧ h.get? dd = some { cls := .type "dict", data := .dict es n } ∧ (η a = none ∧ ¬ pr a) ∧ (η dd = none ∧ ¬ pr dd) ∧ Ents P es.toList ks xs ∧ Rvs P h η pr vs xs
  | .exc C, v => ∃ e o fs, v = .ref e ∧ h.get? e = some o ∧ o.cls = .ref C ∧ o.data = .fields fs ∧ (η e = none ∧ ¬ pr e)
def Rvs (P : Params) (h : Heap) (η : Hp) (pr : Pr) : List V → List Value → Prop
  | [], xs => xs = []
  | v :: vs, xs => ∃ y ys, xs = y :: ys ∧ Rv P h η pr v y ∧ Rvs P h η pr vs ys
end

/-- a frame's address -/
noncomputable def isFr (A : Around) (b : Addr) : Prop := ∃ env ∈ A.frames.getD [], env.frame = some b

/-- everything stays that is neither mutable nor in `own`; a frame up to its slots -/
structure Step (A : Around) (own : Pr) (η : Hp) (h : Heap) (η' : Hp) (h' : Heap) : Prop where
  upto : ∀ b o, h.get? b = some o → η b = none → ¬ own b → ∃ sl, h'.get? b = some { o with slots := sl }
  same : ∀ b o, h.get? b = some o → η b = none → ¬ own b → ¬ isFr A b → h'.get? b = some o
  there : ∀ b o, h.get? b = some o → (h'.get? b).isSome = true
  dom : ∀ b, (η b).isSome = true → (η' b).isSome = true
  new : ∀ b, η b = none → (η' b).isSome = true → h.get? b = none

noncomputable abbrev noOwn : Pr := fun _ => False

section
variable {A : Around} {own : Pr} {η η' η₁ η₂ : Hp} {h h' h₁ h₂ : Heap}

theorem Step.refl (A : Around) (own : Pr) (η : Hp) (h : Heap) : Step A own η h η h :=
  ⟨fun _ o e _ _ => ⟨o.slots, e⟩, fun _ _ e _ _ _ => e, fun _ _ e => by rw [e]; rfl, fun _ e => e, fun b e e' => by rw [e] at e'; cases e'⟩

theorem Step.none (x : Step A own η h η' h') {b : Addr} {o : Obj} (e : h.get? b = some o) (n : η b = none) : η' b = none := by
  cases q : η' b with
  | none => rfl
  | some m => have := x.new b n (by rw [q]; rfl); rw [e] at this; cases this

theorem Step.trans (x : Step A own η h η₁ h₁) (y : Step A own η₁ h₁ η₂ h₂) : Step A own η h η₂ h₂ := by
  refine ⟨fun b o e n w => ?_, fun b o e n w f => ?_, fun b o e => ?_, fun b e => y.dom b (x.dom b e), fun b n e => ?_⟩
  · obtain ⟨sl, e1⟩ := x.upto b o e n w
    obtain ⟨sl', e2⟩ := y.upto b _ e1 (x.none e n) w
    exact ⟨sl', e2⟩
  · exact y.same b o (x.same b o e n w f) (x.none e n) w f
  · obtain ⟨o', e'⟩ := Option.isSome_iff_exists.mp (x.there b o e)
    exact y.there b o' e'
  · cases q : h.get? b with
    | none => rfl
    | some o =>
      obtain ⟨o', e'⟩ := Option.isSome_iff_exists.mp (x.there b o q)
      have := y.new b (x.none q n) e
      rw [e'] at this; cases this

theorem Step.weak {own' : Pr} (x : Step A own η h η' h') (k : ∀ b, own b → own' b) : Step A own' η h η' h' :=
  ⟨fun b o e n w => x.upto b o e n fun q => w (k b q), fun b o e n w => x.same b o e n fun q => w (k b q), x.there, x.dom, x.new⟩

/-- only additions, nothing mutable touched -/
theorem Step.of_keeps (k : ∀ b o, h.get? b = some o → h'.get? b = some o) : Step A own η h η h' :=
  ⟨fun b o e _ _ => ⟨o.slots, k b o e⟩, fun b o e _ _ _ => k b o e, fun b o e => by rw [k b o e]; rfl, fun _ e => e, fun b e e' => by rw [e] at e'; cases e'⟩

theorem Step.of_but {a : Addr} (k : Heap.SameBut a h h') (ha : own a) (hs : (h.get? a).isSome = true → (h'.get? a).isSome = true) : Step A own η h η h' := by
  refine ⟨fun b o e _ w => ⟨o.slots, ?_⟩, fun b o e _ w _ => ?_, fun b o e => ?_, fun _ e => e, fun b e e' => by rw [e] at e'; cases e'⟩
  · rw [k.2 b (fun q => w (q ▸ ha))]; exact e
  · rw [k.2 b (fun q => w (q ▸ ha))]; exact e
  · by_cases q : b = a
    · subst q; exact hs (by rw [e]; rfl)
    · rw [k.2 b q, e]; rfl

end

/-- what a relation of values needs of a change of the heap -/
structure Mono (pr : Pr) (η : Hp) (h : Heap) (η' : Hp) (pr' : Pr) (h' : Heap) : Prop where
  same : ∀ b o, h.get? b = some o → η b = none → ¬ pr b → h'.get? b = some o
  dom : ∀ b, (η b).isSome = true → (η' b).isSome = true
  new : ∀ b o, h.get? b = some o → η b = none → ¬ pr b → η' b = none ∧ ¬ pr' b

section
variable {P : Params} {pr pr' : Pr} {η η' : Hp} {h h' : Heap}
mutual
theorem Rv.mono (m : Mono pr η h η' pr' h') : ∀ (v : V) {x : Value}, Rv P h η pr v x → Rv P h' η' pr' v x
  | .none, _, e => by unfold Rv at e ⊢; exact e
  | .bool _, _, e => by unfold Rv at e ⊢; exact e
  | .int _, _, e => by unfold Rv at e ⊢; exact e
  | .str _, _, e => by unfold Rv at e ⊢; exact e
  | .glob _, _, e => by unfold Rv at e ⊢; exact e
  | .loc a, _, e => by unfold Rv at e ⊢; exact ⟨e.1, m.dom a e.2⟩
  | .rng lo hi, _, e => by
    unfold Rv at e ⊢
    obtain ⟨a, t, u, k, e1, ho, n, p⟩ := e
    exact ⟨a, t, u, k, e1, m.same a _ ho n p, m.new a _ ho n p⟩
  | .obj C ks vs, _, e => by
    unfold Rv at e ⊢
    obtain ⟨a, dd, xs, es, n', e1, ho, hd, ⟨n, p⟩, ⟨n2, p2⟩, q, r⟩ := e
    exact ⟨a, dd, xs, es, n', e1, m.same a _ ho n p, m.same dd _ hd n2 p2, m.new a _ ho n p, m.new dd _ hd n2 p2, q, Rvs.mono m vs r⟩
  | .exc C, _, e => by
    unfold Rv at e ⊢
    obtain ⟨a, o, fs, e1, e2, e3, e4, n, p⟩ := e
    exact ⟨a, o, fs, e1, m.same a o e2 n p, e3, e4, m.new a o e2 n p⟩
  | .tup vs, _, e => by
    unfold Rv at e ⊢
    obtain ⟨a, xs, n', e1, ho, ⟨n, p⟩, z, r⟩ := e
    exact ⟨a, xs, n', e1, m.same a _ ho n p, m.new a _ ho n p, z, Rvs.mono m vs r⟩
  | .lst vs, _, e => by
    unfold Rv at e ⊢
    obtain ⟨a, xs, n', e1, ho, ⟨n, p⟩, z, r⟩ := e
    exact ⟨a, xs, n', e1, m.same a _ ho n p, m.new a _ ho n p, z, Rvs.mono m vs r⟩
  | .dct ks vs, _, e => by
    unfold Rv at e ⊢
    obtain ⟨a, xs, es, n', e1, ho, ⟨n, p⟩, q, r⟩ := e
    exact ⟨a, xs, es, n', e1, m.same a _ ho n p, m.new a _ ho n p, q, Rvs.mono m vs r⟩
theorem Rvs.mono (m : Mono pr η h η' pr' h') : ∀ (vs : List V) {xs : List Value}, Rvs P h η pr vs xs → Rvs P h' η' pr' vs xs
  | [], _, e => by unfold Rvs at e ⊢; exact e
  | v :: vs, _, e => by
    unfold Rvs at e ⊢
    obtain ⟨y, ys, e1, r, rs⟩ := e
    exact ⟨y, ys, e1, Rv.mono m v r, Rvs.mono m vs rs⟩
end
end

/-- the context of one law: what the top left -/
structure Cx where
  prog : Program
  w : World
  base : Heap
  os : OsState
  mg : Str → Option Value
  mb : Str → Option Value
  g : base.Ns mainGlobals mg
  b : base.Ns builtinsNs mb
  nolimit : base.NoLimit
  nodigits : ∃ mc, base.Ns cStatics mc ∧ mc "sys.int_max_str_digits" = none
  noseer : base.NoSeer
  notree : prog.given.tree = none

noncomputable abbrev Cx.M (c : Cx) : Model := model c.prog c.w
noncomputable abbrev Cx.P (c : Cx) : Params := c.w.params

/-- the model's object of a mutable one -/
noncomputable def MRel (P : Params) (h : Heap) (η : Hp) (pr : Pr) (a : Addr) : MObj → Prop
  | .lst vs => ∃ xs n, h.get? a = some { cls := .type "list", data := .seq xs.toArray n } ∧ vs.length ≤ sizeLine ∧ Rvs P h η pr vs xs
  | .inst C d => h.get? a = some { cls := .ref C, dict := some d, data := .plain } ∧ ∃ ks vs, η d = some (.idict ks vs)
  | .idict ks vs => ∃ xs es n, h.get? a = some { cls := .type "dict", data := .dict es n } ∧ Ents P es.toList ks xs ∧ Rvs P h η pr vs xs

structure Inv (c : Cx) (η : Hp) (pr : Pr) (A : Around) (s : Shared) : Prop where
  stays : c.base.StaysIn s.heap
  hrel : ∀ a o, η a = some o → MRel c.P s.heap η pr a o
  apart : ∀ a, (η a).isSome = true → c.base.get? a = none
  privs : ∀ a, pr a → (s.heap.get? a).isSome = true ∧ η a = none ∧ c.base.get? a = none
  frames : ∃ fr, A.frames = some fr ∧ s.heap.FunFrames c.base fr
  frs : ∀ b, isFr A b → pr b
  os : s.os = c.os
  gens : s.gens = #[]

/-- a def's frame lies on top -/
noncomputable def LiveA (A : Around) : Prop := ∃ env l, A.frames = some (env :: l) ∧ env.scope.isGenerator = false ∧ env.scope.isCoroutine = false ∧ env.builtins = builtinsNs ∧ env.globals = mainGlobals
/-- room on the stack -/
structure Ok0 (d : Nat) (hd : Bool) (A : Around) : Prop where
  depth : A.depth + d ≤ recursionLimit
  units : A.units + 10 * d + 100 ≤ cLine
  handled : hd = true → A.handled = none
  guards : A.guards = some []
structure Ok (d : Nat) (hd : Bool) (A : Around) : Prop extends Ok0 d hd A where
  live : LiveA A

noncomputable def VarAt (h : Heap) (env : Env) (x : Str) (k : NameKind) (val : Value) : Prop :=
  match k with
  | .local => ∃ m, h.Ns env.locals m ∧ m x = some val
  | .cell | .free => ∃ a, env.cells.lookup x = some a ∧ h.IsCell a (some val)
  | _ => False

/-- a variable's shadow value -/
inductive At : List (Str × NameKind) → List (Option V) → Str → NameKind → V → Prop
  | head {x k nm v σ} : At ((x, k) :: nm) (some v :: σ) x k v
  | tail {p nm o σ x k v} : At nm σ x k v → At (p :: nm) (o :: σ) x k v

structure FrameR (c : Cx) (h : Heap) (η : Hp) (pr : Pr) (nm : List (Str × NameKind)) (env : Env) (σ : List (Option V)) : Prop where
  kind : env.scope.kind = .function
  names : env.scope.names = nm
  nodup : (nm.map (·.1)).Nodup
  globals : env.globals = mainGlobals
  builtins : env.builtins = builtinsNs
  ns : ∃ m, h.Ns env.locals m
  nsp : pr env.locals
  cells : ∀ x a, env.cells.lookup x = some a → pr a ∧ ∃ v, h.IsCell a v
  inj : ∀ x y a, env.cells.lookup x = some a → env.cells.lookup y = some a → x = y
  has : ∀ x k, (x, k) ∈ nm → k = .cell ∨ k = .free → (env.cells.lookup x).isSome = true
  vars : ∀ x k v, At nm σ x k v → ∃ val, VarAt h env x k val ∧ Rv c.P h η pr v val

/-- the exception in flight -/
noncomputable def Thr (A : Around) (h₀ h : Heap) (e C : Addr) : Prop :=
  (∃ oe vs a0, h.get? e = some oe ∧ oe.cls = .ref C ∧ oe.data = .fields vs ∧ vs[1]? = some .none ∧ vs[0]? = some a0) ∨
    ∃ a0 fl, h.TracedAtW h₀ e (.ref C) a0 fl ∧ (fl = .none ∨ ∃ env outer L, A.frames = some (env :: outer) ∧ env.frame = some L ∧ fl = rawInt L)

noncomputable def Post (c : Cx) (A : Around) (own pr : Pr) (η : Hp) (h₀ : Heap) (Q : V → Hp → Prop) (r : Value) (s' : Shared) : Prop :=
  ∃ v η', Q v η' ∧ Inv c η' pr A s' ∧ Rv c.P s'.heap η' pr v r ∧ Step A own η h₀ η' s'.heap
/-- the exception and its traceback are private as long as it flies -/
noncomputable def exPr (pr : Pr) (e : Addr) (h : Heap) : Pr := fun b => pr b ∨ b = e ∨ ∃ o vs, h.get? e = some o ∧ o.data = .fields vs ∧ vs[1]? = some (.ref b)
noncomputable def Exc (c : Cx) (A : Around) (own pr : Pr) (η : Hp) (h₀ : Heap) (X : Addr → Hp → Prop) (r : Value) (s' : Shared) : Prop :=
  ∃ e C η', r = .ref e ∧ X C η' ∧ Inv c η' (exPr pr e s'.heap) A s' ∧ Step A own η h₀ η' s'.heap ∧ h₀.get? e = none ∧ Thr A h₀ s'.heap e C

/-- an expression in a frame -/
noncomputable def SE (c : Cx) (d : Nat) (hd : Bool) (nm : List (Str × NameKind)) (σ : List (Option V)) (η : Hp) (e : Expr) (Q : V → Hp → Prop) (X : Addr → Hp → Prop) : Prop :=
  ∀ A env s pr, Ok d hd A → Inv c η pr A s → FrameR c s.heap η pr nm env σ → wpAny c.M A (eval e env) (Post c A noOwn pr η s.heap Q) (Exc c A noOwn pr η s.heap X) s

/-- a call -/
noncomputable def SC (c : Cx) (d : Nat) (hd : Bool) (f : Value) (vs : List V) (η : Hp) (Q : V → Hp → Prop) (X : Addr → Hp → Prop) : Prop :=
  ∀ A s pr xs, Ok d hd A → Inv c η pr A s → Rvs c.P s.heap η pr vs xs → wpAny c.M A (call f xs) (Post c A noOwn pr η s.heap Q) (Exc c A noOwn pr η s.heap X) s

/-- a call from the top, where no frame lies -/
noncomputable def SC0 (c : Cx) (d : Nat) (hd : Bool) (f : Value) (vs : List V) (η : Hp) (Q : V → Hp → Prop) (X : Addr → Hp → Prop) : Prop :=
  ∀ A s pr xs, Ok0 d hd A → Inv c η pr A s → Rvs c.P s.heap η pr vs xs → wpAny c.M A (call f xs) (Post c A noOwn pr η s.heap Q) (Exc c A noOwn pr η s.heap X) s

noncomputable def ownOf (env : Env) : Pr := fun b => b = env.locals ∨ ∃ x, env.cells.lookup x = some b

noncomputable def FPost (c : Cx) (A : Around) (pr : Pr) (nm : List (Str × NameKind)) (env : Env) (η : Hp) (h₀ : Heap) (N : List (Option V) → Hp → Prop) (R : V → Hp → Prop) (f : Flow) (s' : Shared) : Prop :=
  match f with
  | .next => ∃ σ' η', N σ' η' ∧ Inv c η' pr A s' ∧ FrameR c s'.heap η' pr nm env σ' ∧ Step A (ownOf env) η h₀ η' s'.heap
  | .ret r => Post c A (ownOf env) pr η h₀ R r s'
  | _ => False

/-- statements in a function's frame -/
noncomputable def SS (c : Cx) (d : Nat) (hd : Bool) (nm : List (Str × NameKind)) (σ : List (Option V)) (η : Hp) (b : List Stmt) (N : List (Option V) → Hp → Prop) (R : V → Hp → Prop) (X : Addr → Hp → Prop) : Prop :=
  ∀ A env s pr outer, Ok d hd A → Inv c η pr A s → FrameR c s.heap η pr nm env σ → A.frames = some (env :: outer) → env.frame = some env.locals →
    wpAny c.M A (execs b env) (FPost c A pr nm env η s.heap N R) (Exc c A (ownOf env) pr η s.heap X) s

end Mine

namespace Mine
open PySem PyProof.Rows

section
variable {c : Cx} {A : Around} {own pr : Pr} {η η' η₁ η₂ : Hp} {h h' h₀ h₁ h₂ : Heap} {s s' s₁ : Shared} {d : Nat} {hd : Bool} {nm : List (Str × NameKind)} {σ σ' : List (Option V)} {env : Env}
  {Q Q' R : V → Hp → Prop} {X X' : Addr → Hp → Prop} {N : List (Option V) → Hp → Prop} {v : V} {x : Value}

theorem Step.toMono (st : Step A own η h η' h') (ho : ∀ b, own b → pr b) (hf : ∀ b, isFr A b → pr b) : Mono pr η h η' pr h' :=
  ⟨fun b o e n p => st.same b o e n (fun q => p (ho b q)) (fun q => p (hf b q)), st.dom, fun _ _ e n p => ⟨st.none e n, p⟩⟩

theorem Mono.of_keeps (k : ∀ b o, h.get? b = some o → h'.get? b = some o) : Mono pr η h η pr h' :=
  ⟨fun b o e _ _ => k b o e, fun _ e => e, fun _ _ _ n p => ⟨n, p⟩⟩

theorem Rv.keeps (r : Rv c.P h η pr v x) (k : ∀ b o, h.get? b = some o → h'.get? b = some o) : Rv c.P h' η pr v x := Rv.mono (Mono.of_keeps k) v r
theorem Rvs.keeps {vs : List V} {xs : List Value} (r : Rvs c.P h η pr vs xs) (k : ∀ b o, h.get? b = some o → h'.get? b = some o) : Rvs c.P h' η pr vs xs := Rvs.mono (Mono.of_keeps k) vs r
theorem Rv.step (r : Rv c.P s.heap η pr v x) (I : Inv c η pr A s) (st : Step A noOwn η s.heap η' h') : Rv c.P h' η' pr v x :=
  Rv.mono (st.toMono (fun _ q => q.elim) I.frs) v r
theorem MRel.mono {pr' : Pr} {a : Addr} {o : MObj} (m : Mono pr η h η pr' h') (k : ∀ o, (∀ vs, o.data ≠ .fields vs) → h.get? a = some o → h'.get? a = some o) (r : MRel c.P h η pr a o) : MRel c.P h' η pr' a o := by
  cases o with
  | lst vs => obtain ⟨xs, n, e, z, q⟩ := r; exact ⟨xs, n, k _ (fun _ q => by cases q) e, z, Rvs.mono m vs q⟩
  | inst C d => exact ⟨k _ (fun _ q => by cases q) r.1, r.2⟩
  | idict ks vs => obtain ⟨xs, es, n, e, q, w⟩ := r; exact ⟨xs, es, n, k _ (fun _ q => by cases q) e, q, Rvs.mono m vs w⟩
/-- a mutable object is no record -/
theorem MRel.nofields {a : Addr} {o : MObj} (r : MRel c.P h η pr a o) : ∃ b, h.get? a = some b ∧ ∀ vs, b.data ≠ .fields vs := by
  cases o with
  | lst vs => obtain ⟨xs, n, e, q⟩ := r; exact ⟨_, e, fun _ q => by cases q⟩
  | inst C d => exact ⟨_, r.1, fun _ q => by cases q⟩
  | idict ks vs => obtain ⟨xs, es, n, e, q, w⟩ := r; exact ⟨_, e, fun _ q => by cases q⟩

theorem Inv.grow (I : Inv c η pr A s) (k : ∀ b o, s.heap.get? b = some o → h'.get? b = some o) (t : Nat) : Inv c η pr A { s with heap := h', toks := t } := by
  obtain ⟨fr, e, ff⟩ := I.frames
  refine ⟨fun b o q => k b o (I.stays b o q), fun a o q => (I.hrel a o q).mono (Mono.of_keeps k) (fun o' _ e => k a o' e), I.apart, fun a p => ?_, ⟨fr, e, ff.of_keeps fun b o q _ => ⟨o, k b o q, rfl⟩⟩, I.frs, I.os, I.gens⟩
  obtain ⟨e1, e2, e3⟩ := I.privs a p
  obtain ⟨o, e'⟩ := Option.isSome_iff_exists.mp e1
  exact ⟨by rw [show ({ s with heap := h', toks := t } : Shared).heap = h' from rfl, k a o e']; rfl, e2, e3⟩

theorem Inv.toks (I : Inv c η pr A s) (t : Nat) : Inv c η pr A { s with toks := t } := I.grow (fun _ _ e => e) t

theorem isCell_upto {a : Addr} {v : Option Value} (x : h.IsCell a v) (k : ∀ o, h.get? a = some o → ∃ sl, h'.get? a = some { o with slots := sl }) : h'.IsCell a v := by
  obtain ⟨o, ho, e⟩ := x
  obtain ⟨sl, e'⟩ := k o ho
  exact ⟨_, e', e⟩
theorem ns_upto {a : Addr} {m : Str → Option Value} (x : h.Ns a m) (k : ∀ o, h.get? a = some o → ∃ sl, h'.get? a = some { o with slots := sl }) : h'.Ns a m := by
  obtain ⟨o, es, ep, ho, e⟩ := x
  obtain ⟨sl, e'⟩ := k o ho
  exact ⟨_, es, ep, e', e⟩

theorem FrameR.move (F : FrameR c h η pr nm env σ) (m : Mono pr η h η' pr h') (hp : ∀ b, pr b → ∀ o, h.get? b = some o → ∃ sl, h'.get? b = some { o with slots := sl }) : FrameR c h' η' pr nm env σ := by
  refine ⟨F.kind, F.names, F.nodup, F.globals, F.builtins, ?_, F.nsp, fun x a e => ?_, F.inj, F.has, fun x k v e => ?_⟩
  · obtain ⟨m, q⟩ := F.ns
    exact ⟨m, ns_upto q (hp _ F.nsp)⟩
  · obtain ⟨p, v, q⟩ := F.cells x a e
    exact ⟨p, v, isCell_upto q (hp _ p)⟩
  · obtain ⟨val, q, r⟩ := F.vars x k v e
    refine ⟨val, ?_, Rv.mono m v r⟩
    cases k with
    | «local» => obtain ⟨m, q1, q2⟩ := q; exact ⟨m, ns_upto q1 (hp _ F.nsp), q2⟩
    | cell => obtain ⟨a, q1, q2⟩ := q; exact ⟨a, q1, isCell_upto q2 (hp _ (F.cells x a q1).1)⟩
    | free => obtain ⟨a, q1, q2⟩ := q; exact ⟨a, q1, isCell_upto q2 (hp _ (F.cells x a q1).1)⟩
    | globalImplicit => exact q
    | globalExplicit => exact q

theorem FrameR.step (F : FrameR c s.heap η pr nm env σ) (I : Inv c η pr A s) (st : Step A noOwn η s.heap η' h') : FrameR c h' η' pr nm env σ :=
  F.move (st.toMono (fun _ q => q.elim) I.frs) fun b p o e => st.upto b o e (I.privs b p).2.1 (fun q => q)

theorem FrameR.keeps (F : FrameR c h η pr nm env σ) (k : ∀ b o, h.get? b = some o → h'.get? b = some o) : FrameR c h' η pr nm env σ :=
  F.move (Mono.of_keeps k) fun b _ o e => ⟨o.slots, k b o e⟩

theorem Thr.older {e C : Addr} (st : ∀ b o, h₀.get? b = some o → (h₁.get? b).isSome = true) (t : Thr A h₁ h e C) : Thr A h₀ h e C := by
  rcases t with t | ⟨a0, fl, ⟨oe, vs, T, oT, ts, e1, e2, e3, e4, e5, e6, r⟩, z⟩
  · exact .inl t
  · refine .inr ⟨a0, fl, ⟨oe, vs, T, oT, ts, e1, e2, e3, e4, ?_, e6, r⟩, z⟩
    cases q : h₀.get? T with
    | none => rfl
    | some o => have := st T o q; rw [e5] at this; cases this

theorem Post.older {r : Value} (st : Step A own η h₀ η₁ h₁) (p : Post c A own pr η₁ h₁ Q r s') : Post c A own pr η h₀ Q r s' := by
  obtain ⟨v, η', q, I, rv, st'⟩ := p
  exact ⟨v, η', q, I, rv, st.trans st'⟩
theorem Exc.older {r : Value} (st : Step A own η h₀ η₁ h₁) (p : Exc c A own pr η₁ h₁ X r s') : Exc c A own pr η h₀ X r s' := by
  obtain ⟨e, C, η', q, x, I, st', n, t⟩ := p
  refine ⟨e, C, η', q, x, I, st.trans st', ?_, t.older st.there⟩
  cases w : h₀.get? e with
  | none => rfl
  | some o => have := st.there e o w; rw [n] at this; cases this

theorem Post.mono {r : Value} (p : Post c A own pr η h₀ Q r s') (k : ∀ v η', Q v η' → Q' v η') : Post c A own pr η h₀ Q' r s' := by
  obtain ⟨v, η', q, r⟩ := p
  exact ⟨v, η', k _ _ q, r⟩
theorem Exc.mono {r : Value} (p : Exc c A own pr η h₀ X r s') (k : ∀ C η', X C η' → X' C η') : Exc c A own pr η h₀ X' r s' := by
  obtain ⟨e, C, η', q, x, r⟩ := p
  exact ⟨e, C, η', q, k _ _ x, r⟩
theorem Post.weak {r : Value} {own' : Pr} (p : Post c A own pr η h₀ Q r s') (k : ∀ b, own b → own' b) : Post c A own' pr η h₀ Q r s' := by
  obtain ⟨v, η', q, I, rv, st⟩ := p
  exact ⟨v, η', q, I, rv, st.weak k⟩
theorem Exc.weak {r : Value} {own' : Pr} (p : Exc c A own pr η h₀ X r s') (k : ∀ b, own b → own' b) : Exc c A own' pr η h₀ X r s' := by
  obtain ⟨e, C, η', q, x, I, st, n, t⟩ := p
  exact ⟨e, C, η', q, x, I, st.weak k, n, t⟩

theorem SE.mono {e : Expr} (p : SE c d hd nm σ η e Q X) (k : ∀ v η', Q v η' → Q' v η') (kx : ∀ C η', X C η' → X' C η') : SE c d hd nm σ η e Q' X' :=
  fun A env s pr o I F => wpAny_mono (p A env s pr o I F) (fun _ _ q => q.mono k) fun _ _ q => q.mono kx
/-- the end of a pure step: nothing mutable touched -/
theorem Post.pure {r : Value} {t : Nat} (I : Inv c η pr A s) (k : ∀ b o, s.heap.get? b = some o → h'.get? b = some o) (rv : Rv c.P h' η pr v r) (q : Q v η) : Post c A own pr η s.heap Q r { s with heap := h', toks := t } :=
  ⟨v, η, q, I.grow k t, rv, Step.of_keeps k⟩
theorem Post.val {r : Value} (I : Inv c η pr A s) (rv : Rv c.P s.heap η pr v r) (q : Q v η) : Post c A own pr η s.heap Q r s :=
  ⟨v, η, q, I, rv, Step.refl ..⟩

end

end Mine

namespace Mine
open PySem PyProof.Rows

/-- an operation of one, of two values -/
noncomputable def S1 (c : Cx) (d : Nat) (hd : Bool) (t : Value → Sem Value) (v : V) (η : Hp) (Q : V → Hp → Prop) (X : Addr → Hp → Prop) : Prop :=
  ∀ A s pr x, Ok d hd A → Inv c η pr A s → Rv c.P s.heap η pr v x → wpAny c.M A (t x) (Post c A noOwn pr η s.heap Q) (Exc c A noOwn pr η s.heap X) s
noncomputable def S2 (c : Cx) (d : Nat) (hd : Bool) (t : Value → Value → Sem Value) (v w : V) (η : Hp) (Q : V → Hp → Prop) (X : Addr → Hp → Prop) : Prop :=
  ∀ A s pr x y, Ok d hd A → Inv c η pr A s → Rv c.P s.heap η pr v x → Rv c.P s.heap η pr w y → wpAny c.M A (t x y) (Post c A noOwn pr η s.heap Q) (Exc c A noOwn pr η s.heap X) s
noncomputable def BPost (c : Cx) (A : Around) (pr : Pr) (η : Hp) (h₀ : Heap) (Q : Bool → Hp → Prop) (b : Bool) (s' : Shared) : Prop :=
  ∃ η', Q b η' ∧ Inv c η' pr A s' ∧ Step A noOwn η h₀ η' s'.heap
/-- the truth of a value -/
noncomputable def SB (c : Cx) (d : Nat) (hd : Bool) (v : V) (η : Hp) (Q : Bool → Hp → Prop) (X : Addr → Hp → Prop) : Prop :=
  ∀ A s pr x, Ok d hd A → Inv c η pr A s → Rv c.P s.heap η pr v x → wpAny c.M A (truthy x) (BPost c A pr η s.heap Q) (Exc c A noOwn pr η s.heap X) s
/-- a test -/
noncomputable def ST (c : Cx) (d : Nat) (hd : Bool) (nm : List (Str × NameKind)) (σ : List (Option V)) (η : Hp) (e : Expr) (Q : Bool → Hp → Prop) (X : Addr → Hp → Prop) : Prop :=
  ∀ A env s pr, Ok d hd A → Inv c η pr A s → FrameR c s.heap η pr nm env σ → wpAny c.M A (isTrue e env (eval e env)) (BPost c A pr η s.heap Q) (Exc c A noOwn pr η s.heap X) s
/-- some expressions, one behind the other -/
noncomputable def SL (c : Cx) (d : Nat) (hd : Bool) (nm : List (Str × NameKind)) (σ : List (Option V)) (η : Hp) (es : List Expr) (Q : List V → Hp → Prop) (X : Addr → Hp → Prop) : Prop :=
  ∀ A env s pr pos, Ok d hd A → Inv c η pr A s → FrameR c s.heap η pr nm env σ →
    wpAny c.M A (spliced (backTo pos (starEach es env))) (fun xs s' => ∃ vs η', Q vs η' ∧ Inv c η' pr A s' ∧ Rvs c.P s'.heap η' pr vs xs ∧ Step A noOwn η s.heap η' s'.heap) (Exc c A noOwn pr η s.heap X) s

section
variable {c : Cx} {A : Around} {pr : Pr} {η η' : Hp} {s : Shared} {d : Nat} {hd : Bool} {nm : List (Str × NameKind)} {σ : List (Option V)} {env : Env}
  {Q R : V → Hp → Prop} {B : Bool → Hp → Prop} {X : Addr → Hp → Prop} {v w : V} {x : Str} {pos : Pos} {k : Nat}

theorem BPost.older {h₀ h₁ : Heap} {η₁ : Hp} {b : Bool} {s' : Shared} (st : Step A noOwn η h₀ η₁ h₁) (p : BPost c A pr η₁ h₁ B b s') : BPost c A pr η h₀ B b s' := by
  obtain ⟨η', q, I, st'⟩ := p
  exact ⟨η', q, I, st.trans st'⟩

-- constants
theorem SE.int {i : Int} (q : Q (.int i) η) : SE c d hd nm σ η (.Constant (.int i) k pos) Q X :=
  fun _ _ _ _ _ I _ => wpAny_Constant_int (Post.pure (v := .int i) I (fun _ _ e => e) ⟨_, rfl⟩ q)
theorem SE.str {i : Str} (q : Q (.str i) η) : SE c d hd nm σ η (.Constant (.str i) k pos) Q X :=
  fun _ _ _ _ _ I _ => wpAny_Constant_str (Post.pure (v := .str i) I (fun _ _ e => e) ⟨_, rfl⟩ q)
theorem SE.bool {b : Bool} (q : Q (.bool b) η) : SE c d hd nm σ η (.Constant (.bool b) k pos) Q X :=
  fun _ _ _ _ _ I _ => wpAny_Constant_bool (Post.val (v := .bool b) I rfl q)
theorem SE.none (q : Q .none η) : SE c d hd nm σ η (.Constant .none k pos) Q X :=
  fun _ _ _ _ _ I _ => wpAny_Constant_none (Post.val (v := .none) I rfl q)

-- names
theorem mem_fst {nm : List (Str × NameKind)} {x : Str} {k : NameKind} {σ : List (Option V)} {v : V} (a : At nm σ x k v) : (x, k) ∈ nm := by
  induction a with
  | head => exact .head _
  | tail _ ih => exact .tail _ ih
theorem lookup_of_mem {nm : List (Str × NameKind)} {x : Str} {k : NameKind} (nd : (nm.map (·.1)).Nodup) (h : (x, k) ∈ nm) : nm.lookup x = some k := by
  induction nm with
  | nil => cases h
  | cons p r ih =>
    obtain ⟨y, k'⟩ := p
    rw [List.map_cons, List.nodup_cons] at nd
    rw [List.lookup_cons]
    rcases List.mem_cons.mp h with e | h
    · cases e; simp
    · have : (x == y) = false := by
        simp only [beq_eq_false_iff_ne, ne_eq]
        rintro rfl
        rename_i h'; exact nd.1 (List.mem_map.mpr ⟨_, h', rfl⟩)
      rw [this]; exact ih nd.2 h
theorem FrameR.kindOf {h : Heap} {x : Str} {k : NameKind} (F : FrameR c h η pr nm env σ) (m : (x, k) ∈ nm) : env.kindOf x = some k := by
  unfold Env.kindOf; rw [F.names]; exact lookup_of_mem F.nodup m

theorem SE.var {kd : NameKind} (a : At nm σ x kd v) (q : Q v η) (hn : (x == ("__debug__" : Str)) = false := by decide +kernel) (hc : (x == ("__classdict__" : Str)) = false := by decide +kernel) :
    SE c d hd nm σ η (.Name x pos) Q X := fun A env s pr _ I F => by
  refine wpAny_Name ?_ hn
  obtain ⟨val, q1, r⟩ := F.vars x kd v a
  have hk := F.kindOf (mem_fst a)
  have p : Post c A noOwn pr η s.heap Q val s := Post.val I r q
  cases kd with
  | «local» => obtain ⟨m, q1, q2⟩ := q1; exact wpAny_loadName_local F.kind hk q1 q2 p
  | cell => obtain ⟨a, q1, q2⟩ := q1; exact wpAny_loadName_cell F.kind hk q1 q2 p
  | free => obtain ⟨a, q1, q2⟩ := q1; exact wpAny_loadName_free F.kind hk q1 q2 p hc
  | globalImplicit => exact q1.elim
  | globalExplicit => exact q1.elim

/-- the value of a global name -/
noncomputable def Glob (c : Cx) (x : Str) (g : Value) : Prop := c.mg x = some g ∨ (c.mg x = none ∧ c.mb x = some g)

theorem SE.glob {g : Value} (m : (x, NameKind.globalImplicit) ∈ nm) (gl : Glob c x g) (q : Q (.glob g) η) (hn : (x == ("__debug__" : Str)) = false := by decide +kernel) :
    SE c d hd nm σ η (.Name x pos) Q X := fun A env s pr _ I F => by
  refine Calls.Name_function_global F.kind (F.kindOf m) ?_ hn
  have p : Post c A noOwn pr η s.heap Q g s := Post.val (v := .glob g) I rfl q
  rcases gl with e | ⟨e1, e2⟩
  · exact Calls.loadGlobal_global (mg := c.mg) (by rw [F.globals]; exact c.g.keeps I.stays) e p
  · exact Calls.loadGlobal_builtin (mg := c.mg) (mb := c.mb) (by rw [F.globals]; exact c.g.keeps I.stays) e1 (by rw [F.builtins]; exact c.b.keeps I.stays) e2 p

-- two operands
theorem SE.op2 {l r : Expr} {t : Value → Value → Sem Value} {tree : Env → Sem Value}
    (ht : ∀ {A env s} {PQ : Value → Shared → Prop} {PE : Value → Shared → Prop}, wpAny c.M A (eval l env) (fun a s₁ => wpAny c.M A (eval r env) (fun b s₂ => wpAny c.M A (t a b) PQ PE s₂) PE s₁) PE s → wpAny c.M A (tree env) PQ PE s)
    (p : SE c d hd nm σ η l (fun a η₁ => SE c d hd nm σ η₁ r (fun b η₂ => S2 c d hd t a b η₂ Q X) X) X)
    (o : Ok d hd A) (I : Inv c η pr A s) (F : FrameR c s.heap η pr nm env σ) : wpAny c.M A (tree env) (Post c A noOwn pr η s.heap Q) (Exc c A noOwn pr η s.heap X) s :=
  ht (wpAny_mono (p A env s pr o I F) (fun a s₁ ⟨v, η₁, q, I₁, rv, st⟩ => wpAny_mono (q A env s₁ pr o I₁ (F.step I st)) (fun b s₂ ⟨w, η₂, q₂, I₂, rw', st₂⟩ =>
    wpAny_mono (q₂ A s₂ pr a b o I₂ (rv.step I₁ st₂) rw') (fun _ _ e => e.older (st.trans st₂)) fun _ _ e => e.older (st.trans st₂)) fun _ _ e => e.older st) fun _ _ e => e)

theorem SE.bin {l r : Expr} {op : Operator} (p : SE c d hd nm σ η l (fun a η₁ => SE c d hd nm σ η₁ r (fun b η₂ => S2 c d hd (binaryOp op) a b η₂ Q X) X) X) : SE c d hd nm σ η (.BinOp l op r pos) Q X :=
  fun A env s pr o I F => SE.op2 (tree := fun env => eval (.BinOp l op r pos) env) (fun h => wpAny_BinOp h) p o I F

theorem SE.cmp {l r : Expr} {op : CmpOp} (p : SE c d hd nm σ η l (fun a η₁ => SE c d hd nm σ η₁ r (fun b η₂ => S2 c d hd (compareOp op) a b η₂ Q X) X) X)
    (hm : behindInMarks op r = false := by with_unfolding_all rfl) : SE c d hd nm σ η (.Compare l [op] [r] pos) Q X :=
  fun A env s pr o I F => SE.op2 (tree := fun env => eval (.Compare l [op] [r] pos) env) (fun h => wpAny_Compare1 h hm) p o I F

theorem S2.then_truth {t : Value → Value → Sem Value} (p : S2 c d hd t v w η (fun u η₁ => SB c d hd u η₁ B X) X) {xv xw : Value} (o : Ok d hd A) (I : Inv c η pr A s) (rv : Rv c.P s.heap η pr v xv) (rw' : Rv c.P s.heap η pr w xw) :
    wpAny c.M A (t xv xw) (fun u s₁ => wpAny c.M A (truthy u) (BPost c A pr η s.heap B) (Exc c A noOwn pr η s.heap X) s₁) (Exc c A noOwn pr η s.heap X) s :=
  wpAny_mono (p A s pr xv xw o I rv rw') (fun u s₁ ⟨uv, η₁, q, I₁, ru, st⟩ => wpAny_mono (q A s₁ pr u o I₁ ru) (fun _ _ e => e.older st) fun _ _ e => e.older st) fun _ _ e => e

theorem ST.cmp {l r : Expr} {op : CmpOp} (p : SE c d hd nm σ η l (fun a η₁ => SE c d hd nm σ η₁ r (fun b η₂ => S2 c d hd (compareOp op) a b η₂ (fun u η₃ => SB c d hd u η₃ B X) X) X) X)
    (hm : behindInMarks op r = false := by with_unfolding_all rfl) : ST c d hd nm σ η (.Compare l [op] [r] pos) B X :=
  fun A env s pr o I F => wpAny_isTrue_Compare1 (wpAny_mono (p A env s pr o I F) (fun a s₁ ⟨v, η₁, q, I₁, rv, st⟩ => wpAny_mono (q A env s₁ pr o I₁ (F.step I st)) (fun b s₂ ⟨w, η₂, q₂, I₂, rw', st₂⟩ =>
    wpAny_mono (q₂.then_truth o I₂ (rv.step I₁ st₂) rw') (fun _ _ e => wpAny_mono e (fun _ _ e => e.older (st.trans st₂)) fun _ _ e => e.older (st.trans st₂)) fun _ _ e => e.older (st.trans st₂)) fun _ _ e => e.older st) fun _ _ e => e) hm

theorem ST.val {e : Expr} (p : SE c d hd nm σ η e (fun v η₁ => SB c d hd v η₁ B X) X)
    (he : ∀ env, isTrue e env (eval e env) = (do let v ← eval e env; standAt e.pos; holding [v] (truthy v)) := by intro _; with_unfolding_all rfl) : ST c d hd nm σ η e B X :=
  fun A env s pr o I F => wpAny_isTrue_value (wpAny_mono (p A env s pr o I F) (fun a s₁ ⟨v, η₁, q, I₁, rv, st⟩ => wpAny_mono (q A s₁ pr a o I₁ rv) (fun _ _ e => e.older st) fun _ _ e => e.older st) fun _ _ e => e) (he env)

theorem ST.not {e : Expr} (p : ST c d hd nm σ η e (fun b η₁ => B (!b) η₁) X) : ST c d hd nm σ η (.UnaryOp .Not e pos) B X :=
  fun A env s pr o I F => wpAny_isTrue_Not (wpAny_mono (p A env s pr o I F) (fun _ _ ⟨η', q, r⟩ => ⟨η', q, r⟩) fun _ _ e => e)

/-- a chain of tests -/
noncomputable def STs (c : Cx) (d : Nat) (hd : Bool) (nm : List (Str × NameKind)) (σ : List (Option V)) (op : BoolOp) (η : Hp) (es : List Expr) (Q : Bool → Hp → Prop) (X : Addr → Hp → Prop) : Prop :=
  ∀ A env s pr, Ok d hd A → Inv c η pr A s → FrameR c s.heap η pr nm env σ → wpAny c.M A (allTrue op es env) (BPost c A pr η s.heap Q) (Exc c A noOwn pr η s.heap X) s
theorem ST.boolop {op : BoolOp} {es : List Expr} (p : STs c d hd nm σ op η es B X) : ST c d hd nm σ η (.BoolOp op es pos) B X :=
  fun A env s pr o I F => wpAny_isTrue_BoolOp (p A env s pr o I F)
theorem STs.and_nil (q : B true η) : STs c d hd nm σ .And η [] B X := fun _ _ _ _ _ I _ => wpAny_allTrue_And_nil ⟨η, q, I, Step.refl ..⟩
theorem STs.or_nil (q : B false η) : STs c d hd nm σ .Or η [] B X := fun _ _ _ _ _ I _ => wpAny_allTrue_Or_nil ⟨η, q, I, Step.refl ..⟩
theorem STs.and_cons {e : Expr} {es : List Expr} (p : ST c d hd nm σ η e (fun b η₁ => if b then STs c d hd nm σ .And η₁ es B X else B false η₁) X) : STs c d hd nm σ .And η (e :: es) B X :=
  fun A env s pr o I F => wpAny_allTrue_And_cons (wpAny_mono (p A env s pr o I F) (fun b s₁ ⟨η₁, q, I₁, st⟩ => by
    cases b with
    | false => exact ⟨η₁, q, I₁, st⟩
    | true => exact wpAny_mono (q A env s₁ pr o I₁ (F.step I st)) (fun _ _ e => e.older st) fun _ _ e => e.older st) fun _ _ e => e)
theorem STs.or_cons {e : Expr} {es : List Expr} (p : ST c d hd nm σ η e (fun b η₁ => if b then B true η₁ else STs c d hd nm σ .Or η₁ es B X) X) : STs c d hd nm σ .Or η (e :: es) B X :=
  fun A env s pr o I F => wpAny_allTrue_Or_cons (wpAny_mono (p A env s pr o I F) (fun b s₁ ⟨η₁, q, I₁, st⟩ => by
    cases b with
    | true => exact ⟨η₁, q, I₁, st⟩
    | false => exact wpAny_mono (q A env s₁ pr o I₁ (F.step I st)) (fun _ _ e => e.older st) fun _ _ e => e.older st) fun _ _ e => e)

/-- and, or as values -/
noncomputable def SBo (c : Cx) (d : Nat) (hd : Bool) (nm : List (Str × NameKind)) (σ : List (Option V)) (op : BoolOp) (η : Hp) (es : List Expr) (Q : V → Hp → Prop) (X : Addr → Hp → Prop) : Prop :=
  ∀ A env s pr pos, Ok d hd A → Inv c η pr A s → FrameR c s.heap η pr nm env σ → wpAny c.M A (boolOp pos op (evalEach es env)) (Post c A noOwn pr η s.heap Q) (Exc c A noOwn pr η s.heap X) s
theorem SE.boolop {op : BoolOp} {es : List Expr} (p : SBo c d hd nm σ op η es Q X) : SE c d hd nm σ η (.BoolOp op es pos) Q X :=
  fun A env s pr o I F => p A env s pr pos o I F
theorem SBo.one {op : BoolOp} {e : Expr} (p : SE c d hd nm σ η e Q X) : SBo c d hd nm σ op η [e] Q X := fun A env s pr _ o I F => p A env s pr o I F
theorem SBo.and_cons {e e' : Expr} {es : List Expr} (p : SE c d hd nm σ η e (fun v η₁ => SB c d hd v η₁ (fun b η₂ => if b then SBo c d hd nm σ .And η₂ (e' :: es) Q X else Q v η₂) X) X) : SBo c d hd nm σ .And η (e :: e' :: es) Q X :=
  fun A env s pr pos o I F => by
    show wpAny c.M A (do let v ← eval e env; standAt pos; let t ← holding [v] (truthy v); match BoolOp.And, t with | .And, false | .Or, true => pure v | _, _ => boolOp pos .And (evalEach (e' :: es) env)) _ _ s
    refine wpAny_bind (wpAny_mono (p A env s pr o I F) (fun a s₁ ⟨v, η₁, q, I₁, rv, st⟩ => wpAny_bind (wpAny_standAt (wpAny_bind (wpAny_holding (wpAny_mono (q A s₁ pr a o I₁ rv) (fun b s₂ ⟨η₂, q₂, I₂, st₂⟩ => ?_) fun _ _ e => e.older st))))) fun _ _ e => e)
    cases b with
    | false => exact wpAny_pure ⟨v, η₂, q₂, I₂, rv.step I₁ st₂, st.trans st₂⟩
    | true => exact wpAny_mono (q₂ A env s₂ pr pos o I₂ (F.step I (st.trans st₂))) (fun _ _ e => e.older (st.trans st₂)) fun _ _ e => e.older (st.trans st₂)
theorem SE.ifexp {t a b : Expr} (p : ST c d hd nm σ η t (fun u η₁ => if u then SE c d hd nm σ η₁ a Q X else SE c d hd nm σ η₁ b Q X) X) : SE c d hd nm σ η (.IfExp t a b pos) Q X :=
  fun A env s pr o I F => wpAny_IfExp (wpAny_mono (p A env s pr o I F) (fun u s₁ ⟨η₁, q, I₁, st⟩ => by
    cases u <;> exact wpAny_mono (q A env s₁ pr o I₁ (F.step I st)) (fun _ _ e => e.older st) fun _ _ e => e.older st) fun _ _ e => e)

theorem SE.not {e : Expr} (p : SE c d hd nm σ η e (fun v η₁ => SB c d hd v η₁ (fun b η₂ => Q (.bool (!b)) η₂) X) X) : SE c d hd nm σ η (.UnaryOp .Not e pos) Q X :=
  fun A env s pr o I F => wpAny_UnaryOp (wpAny_mono (p A env s pr o I F) (fun a s₁ ⟨v, η₁, q, I₁, rv, st⟩ =>
    not_value (wpAny_mono (q A s₁ pr a o I₁ rv) (fun b s₂ ⟨η₂, q₂, I₂, st₂⟩ => ⟨.bool (!b), η₂, q₂, I₂, rfl, st.trans st₂⟩) fun _ _ e => e.older st)) fun _ _ e => e)

theorem SE.un {e : Expr} {op : UnaryOp} (p : SE c d hd nm σ η e (fun v η₁ => S1 c d hd (unaryOp op) v η₁ Q X) X) : SE c d hd nm σ η (.UnaryOp op e pos) Q X :=
  fun A env s pr o I F => wpAny_UnaryOp (wpAny_mono (p A env s pr o I F) (fun a s₁ ⟨v, η₁, q, I₁, rv, st⟩ =>
    wpAny_mono (q A s₁ pr a o I₁ rv) (fun _ _ e => e.older st) fun _ _ e => e.older st) fun _ _ e => e)

-- truth
theorem SB.bool {b : Bool} (q : B b η) : SB c d hd (.bool b) η B X := fun _ _ _ _ _ I r => by
  unfold Rv at r; subst r; exact wpAny_truthy_bool ⟨η, q, I, Step.refl ..⟩

-- int arithmetic
theorem S2.addI {a b : Int} (q : Q (.int (a + b)) η) : S2 c d hd (binaryOp .Add) (.int a) (.int b) η Q X := fun _ _ _ _ _ _ I r r' => by
  unfold Rv at r r'; obtain ⟨t, rfl⟩ := r; obtain ⟨u, rfl⟩ := r'
  exact PySem.P.add_int (Post.pure (v := .int (a + b)) I (fun _ _ e => e) ⟨_, rfl⟩ q)
theorem S2.subI {a b : Int} (q : Q (.int (a - b)) η) : S2 c d hd (binaryOp .Sub) (.int a) (.int b) η Q X := fun _ _ _ _ _ _ I r r' => by
  unfold Rv at r r'; obtain ⟨t, rfl⟩ := r; obtain ⟨u, rfl⟩ := r'
  exact PySem.P.sub_int (Post.pure (v := .int (a - b)) I (fun _ _ e => e) ⟨_, rfl⟩ q)
theorem S2.mulI {a b : Int} (hm : IntMulOk a b) (q : Q (.int (a * b)) η) : S2 c d hd (binaryOp .Mult) (.int a) (.int b) η Q X := fun _ _ _ _ _ _ I r r' => by
  unfold Rv at r r'; obtain ⟨t, rfl⟩ := r; obtain ⟨u, rfl⟩ := r'
  exact PySem.P.mul_int (Post.pure (v := .int (a * b)) I (fun _ _ e => e) ⟨_, rfl⟩ q) hm
theorem S2.modI {a b : Int} (hb : b ≠ 0) (q : Q (.int (a.fmod b)) η) : S2 c d hd (binaryOp .Mod) (.int a) (.int b) η Q X := fun _ _ _ _ _ _ I r r' => by
  unfold Rv at r r'; obtain ⟨t, rfl⟩ := r; obtain ⟨u, rfl⟩ := r'
  exact PyProof.Rows.mod_int' hb (Post.pure (v := .int (a.fmod b)) I (fun _ _ e => e) ⟨_, rfl⟩ q)
theorem S2.divI {a b : Int} (hb : b ≠ 0) (hp : Builtin.divisionGoesByPylong a b = false) (q : Q (.int (a.fdiv b)) η) : S2 c d hd (binaryOp .FloorDiv) (.int a) (.int b) η Q X := fun _ _ _ _ _ _ I r r' => by
  unfold Rv at r r'; obtain ⟨t, rfl⟩ := r; obtain ⟨u, rfl⟩ := r'
  exact PyProof.Rows.floordiv_int hb (Post.pure (v := .int (a.fdiv b)) I (fun _ _ e => e) ⟨_, rfl⟩ q) (.inl hp)
theorem pylong_room (o : Ok d hd A) (I : Inv c η pr A s) (h : 101 ≤ d) : PylongRoom c.M A s := by
  obtain ⟨env, l, hf, hg, hc, hb, hm⟩ := o.live
  exact PylongRoom.of (c.nolimit.keeps I.stays) (by have := o.depth; show A.depth + 100 < recursionLimit; omega) (SeerAt.of (c.noseer.keeps I.stays) c.notree hf hg hc hb hm)
theorem S2.divP {a b : Int} (hb : b ≠ 0) (h : 101 ≤ d) (q : Q (.int (a.fdiv b)) η) : S2 c d hd (binaryOp .FloorDiv) (.int a) (.int b) η Q X := fun _ _ _ _ _ o I r r' => by
  unfold Rv at r r'; obtain ⟨t, rfl⟩ := r; obtain ⟨u, rfl⟩ := r'
  exact PyProof.Rows.floordiv_int hb (Post.pure (v := .int (a.fdiv b)) I (fun _ _ e => e) ⟨_, rfl⟩ q) (.inr (pylong_room o I h))
theorem S2.eqI {a b : Int} (q : Q (.bool (a == b)) η) : S2 c d hd (compareOp .Eq) (.int a) (.int b) η Q X := fun _ _ _ _ _ _ I r r' => by
  unfold Rv at r r'; obtain ⟨t, rfl⟩ := r; obtain ⟨u, rfl⟩ := r'
  exact PySem.P.eq_int (Post.val (v := .bool (a == b)) I rfl q)
theorem S2.neI {a b : Int} (q : Q (.bool (a != b)) η) : S2 c d hd (compareOp .NotEq) (.int a) (.int b) η Q X := fun _ _ _ _ _ _ I r r' => by
  unfold Rv at r r'; obtain ⟨t, rfl⟩ := r; obtain ⟨u, rfl⟩ := r'
  exact PySem.P.ne_int (Post.val (v := .bool (a != b)) I rfl q)
theorem S2.ltI {a b : Int} (q : Q (.bool (decide (a < b))) η) : S2 c d hd (compareOp .Lt) (.int a) (.int b) η Q X := fun _ _ _ _ _ _ I r r' => by
  unfold Rv at r r'; obtain ⟨t, rfl⟩ := r; obtain ⟨u, rfl⟩ := r'
  exact PySem.P.lt_int (Post.val (v := .bool (decide (a < b))) I rfl q)
theorem S2.gtI {a b : Int} (q : Q (.bool (decide (a > b))) η) : S2 c d hd (compareOp .Gt) (.int a) (.int b) η Q X := fun _ _ _ _ _ _ I r r' => by
  unfold Rv at r r'; obtain ⟨t, rfl⟩ := r; obtain ⟨u, rfl⟩ := r'
  exact PySem.P.gt_int (Post.val (v := .bool (decide (a > b))) I rfl q)
theorem S2.geI {a b : Int} (q : Q (.bool (decide (a ≥ b))) η) : S2 c d hd (compareOp .GtE) (.int a) (.int b) η Q X := fun _ _ _ _ _ _ I r r' => by
  unfold Rv at r r'; obtain ⟨t, rfl⟩ := r; obtain ⟨u, rfl⟩ := r'
  exact PySem.P.ge_int (Post.val (v := .bool (decide (a ≥ b))) I rfl q)
end
end Mine

namespace Mine
open PySem PyProof.Rows

/-- positional parameters alone -/
noncomputable def plainArgs (as : List Arg) : Arguments := { posonlyargs := [], args := as, vararg := none, kwonlyargs := [], kw_defaults := [], kwarg := none, defaults := [] }

theorem zip_lookup {α : Type} : ∀ (ns : List Str) (xs : List α), ns.Nodup → ns.length = xs.length → ∀ n ∈ ns, ((ns.zip xs).lookup n).isSome = true
  | [], _, _, _, _, h => by cases h
  | m :: ns, [], _, e, _, _ => by cases e
  | m :: ns, x :: xs, nd, e, n, h => by
    rw [List.zip_cons_cons, List.lookup_cons]
    rcases List.mem_cons.mp h with rfl | h
    · simp
    · cases q : n == m with
      | true => rfl
      | false => exact zip_lookup ns xs (List.nodup_cons.mp nd).2 (by simpa using e) n h
theorem zip_filterMap {α : Type} : ∀ (ns : List Str) (xs : List α) (pre : List (Str × α)), ns.Nodup → ns.length = xs.length → (∀ n ∈ ns, pre.lookup n = none) →
    ns.filterMap (fun n => ((pre ++ ns.zip xs).lookup n).map (n, ·)) = ns.zip xs
  | [], _, _, _, _, _ => rfl
  | m :: ns, [], _, _, e, _ => by cases e
  | m :: ns, x :: xs, pre, nd, e, hp => by
    obtain ⟨n1, n2⟩ := List.nodup_cons.mp nd
    have h1 : (pre ++ (m :: ns).zip (x :: xs)).lookup m = some x := by
      rw [List.lookup_append, hp m (.head _), List.zip_cons_cons, List.lookup_cons]; simp
    rw [List.filterMap_cons, h1]
    show (m, x) :: _ = _
    rw [List.zip_cons_cons]
    congr 1
    have := zip_filterMap ns xs (pre ++ [(m, x)]) n2 (by simpa using e) (fun n hn => by
      rw [List.lookup_append, hp n (.tail _ hn), List.lookup_cons]
      have : (n == m) = false := by
        simp only [beq_eq_false_iff_ne, ne_eq]; rintro rfl; exact n1 hn
      simp [this])
    rw [List.append_assoc] at this
    exact this

theorem bind_pos {fd : FuncData} {as : List Arg} {vals : List Value} (hp : fd.params = plainArgs as) (hdf : fd.defaults = .none) (hnd : (as.map (·.arg)).Nodup) (hl : as.length = vals.length) :
    bindArgs fd ⟨vals, []⟩ = pure ((as.map (·.arg)).zip vals) := by
  have hl' : (as.map (·.arg)).length = vals.length := by simpa using hl
  have hmiss : ((as.map (·.arg)).filter fun n => (((as.map (·.arg)).zip vals).lookup n).isNone) = [] := by
    rw [List.filter_eq_nil_iff]
    intro n hn
    have := zip_lookup _ vals hnd hl' n hn
    cases q : ((as.map (·.arg)).zip vals).lookup n with
    | none => rw [q] at this; cases this
    | some _ => simp
  have hb := zip_filterMap (as.map (·.arg)) vals [] hnd hl' (fun _ _ => rfl)
  rw [List.nil_append] at hb
  have hgt : ¬ (vals.length > (as.map (·.arg)).length) := by omega
  have hq : seqItems? .none = pure none := rfl
  unfold bindArgs
  rw [hp, hdf, hq]
  simp only [plainArgs, List.map_nil, List.nil_append, List.forIn_nil, pure_bind, Option.getD_none, List.append_nil, Option.isNone_none, Bool.and_true, decide_eq_true_eq, hgt, if_false, List.length_nil,
    Nat.sub_zero, List.drop_nil, Array.toList_empty, Nat.zero_sub, List.drop_zero, List.take_length, hmiss, List.isEmpty_nil, Bool.not_true, Bool.false_eq_true, List.drop_length, List.zip_nil_left, hb, List.zip_nil_right]

end Mine

namespace Mine
open PySem PyProof.Rows

/-- a heap cut down to some addresses -/
noncomputable def only (h : Heap) (P : Addr → Prop) : Heap := ⟨h.objs.mapIdx (fun i o => open Classical in if P i then o else { cls := .none, data := .freed }), h.life⟩
theorem get?_only_pos {h : Heap} {P : Addr → Prop} {b : Addr} (p : P b) : (only h P).get? b = h.get? b := by
  unfold only Heap.get?
  simp only [Array.getElem?_mapIdx]
  cases h.objs[b]? with
  | none => rfl
  | some o => simp only [Option.map_some, if_pos p]
theorem get?_only_neg {h : Heap} {P : Addr → Prop} {b : Addr} (p : ¬ P b) : (only h P).get? b = none := by
  unfold only Heap.get?
  simp only [Array.getElem?_mapIdx]
  cases h.objs[b]? with
  | none => rfl
  | some o => simp only [Option.map_some, if_neg p]

section
variable {c : Cx} {A : Around} {pr : Pr} {η η' : Hp} {s : Shared} {env : Env} {outer : List Env} {L e C : Addr} {h₀ : Heap}

theorem funFrames_mem {h base : Heap} {fr : List Env} (f : h.FunFrames base fr) {env : Env} (m : env ∈ fr) : ∃ L o, env.frame = some L ∧ base.get? L = none ∧ h.get? L = some o ∧ ∀ vs, o.data ≠ .fields vs := by
  induction fr with
  | nil => cases m
  | cons x r ih =>
    obtain ⟨_, ⟨L, o, q⟩, r'⟩ := f
    rcases List.mem_cons.mp m with rfl | m
    · exact ⟨L, o, q⟩
    · exact ih r' m

theorem funFrames_only {h base : Heap} {P : Addr → Prop} {fr : List Env} (f : h.FunFrames base fr) (k : ∀ env ∈ fr, ∀ L, env.frame = some L → ¬ P L) : h.FunFrames (only h P) fr := by
  induction fr with
  | nil => trivial
  | cons x r ih =>
    obtain ⟨a, ⟨L, o, q1, q2, q3, q4⟩, r'⟩ := f
    exact ⟨a, ⟨L, o, q1, get?_only_neg (k x (.head _) L q1), q3, q4⟩, ih r' fun env m => k env (.tail _ m)⟩

theorem exPr_fields {h : Heap} {oe : Obj} {vs : Array Value} (he : h.get? e = some oe) (hd : oe.data = .fields vs) {b : Addr} (p : exPr pr e h b) : pr b ∨ b = e ∨ vs[1]? = some (.ref b) := by
  rcases p with p | p | ⟨o, ws, q1, q2, q3⟩
  · exact .inl p
  · exact .inr (.inl p)
  · rw [he] at q1; cases q1; rw [hd] at q2; cases q2; exact .inr (.inr q3)

/-- what stays when an exception is noted -/
noncomputable def keptP (A : Around) (e : Addr) (h : Heap) : Addr → Prop := fun b => ¬ isFr A b ∧ ¬ (b = e ∨ ∃ o vs, h.get? e = some o ∧ o.data = .fields vs ∧ vs[1]? = some (.ref b))
theorem leave_fin (I : Inv c η (exPr pr e s.heap) A s) (hfr : A.frames = some (env :: outer)) (hf : env.frame = some L)
    (t : Thr A h₀ s.heap e C) (hn : h₀.get? e = none) (hpr : ∀ b, pr b → (h₀.get? b).isSome = true) (hb : c.base.StaysIn h₀) (hth : ∀ b o, h₀.get? b = some o → (s.heap.get? b).isSome = true)
    {fl a0 : Value} {h' : Heap} (nw : Heap.NotedW (only s.heap (keptP A e s.heap)) (env :: outer) e (.ref C) a0 fl s.heap h') :
    h'.TracedAtW h₀ e (.ref C) a0 fl ∧ Inv c η (exPr pr e h') A { s with heap := h' } ∧
      (∀ b o, s.heap.get? b = some o → ((h₀.get? b).isSome = true ∨ ∀ vs, o.data ≠ .fields vs) → (∃ sl, h'.get? b = some { o with slots := sl }) ∧ (¬ isFr A b → h'.get? b = some o)) := by
  obtain ⟨k1, k2, k3, k4⟩ := nw
  obtain ⟨fr, hfr', ff⟩ := I.frames
  rw [hfr] at hfr'; cases hfr'
  have isF : ∀ b, isFr A b ↔ ∃ x ∈ env :: outer, x.frame = some b := fun b => by unfold isFr; rw [hfr]; rfl
  -- what is kept
  let P := keptP A e s.heap
  have ffP : s.heap.FunFrames (only s.heap P) (env :: outer) := funFrames_only ff fun x m l q p => p.1 ((isF l).mpr ⟨x, m, q⟩)
  have stP : (only s.heap P).StaysIn s.heap := fun b o q => by
    by_cases p : P b
    · rw [get?_only_pos p] at q; exact q
    · rw [get?_only_neg p] at q; cases q
  have eP : (only s.heap P).get? e = none := get?_only_neg fun p => p.2 (.inl rfl)
  -- the traceback lies not in the elder heap
  have tn : ∀ b o vs, s.heap.get? e = some o → o.data = .fields vs → vs[1]? = some (.ref b) → h₀.get? b = none := by
    intro b o vs q1 q2 q3
    rcases t with ⟨oe, ws, a0, t1, t2, t3, t4, t5⟩ | ⟨a0, fl, ⟨oe, ws, T, oT, ts, t1, t2, t3, t4, t5, t6⟩, _⟩
    · rw [t1] at q1; cases q1; rw [t3] at q2; cases q2; rw [t4] at q3; cases q3
    · rw [t1] at q1; cases q1; rw [t3] at q2; cases q2; rw [t4] at q3; cases q3; exact t5
  obtain ⟨oe, vs, T, oT, ts, t1, ⟨t2, t2'⟩, t3, t4, t5, t6, t7, t8, t9⟩ := k3
  have frDict : ∀ b, isFr A b → ∃ o, s.heap.get? b = some o ∧ ∀ vs, o.data ≠ .fields vs := fun b q => by
    obtain ⟨x, m, q⟩ := (isF b).mp q
    obtain ⟨l, o, q1, _, q3, q4⟩ := funFrames_mem ff m
    rw [q] at q1; cases q1; exact ⟨o, q3, q4⟩
  have Tfr : ¬ isFr A T := fun q => by
    obtain ⟨o, q1, q2⟩ := frDict T q
    obtain ⟨sl, q3⟩ := k4 T o q1 q2
    rw [t7] at q3; cases q3; exact q2 _ t8
  have keep : ∀ b o, s.heap.get? b = some o → ¬ (b = e ∨ ∃ o vs, s.heap.get? e = some o ∧ o.data = .fields vs ∧ vs[1]? = some (.ref b)) → (∃ sl, h'.get? b = some { o with slots := sl }) ∧ (¬ isFr A b → h'.get? b = some o) := by
    intro b o q nb
    by_cases fb : isFr A b
    · obtain ⟨o', q1, q2⟩ := frDict b fb
      rw [q] at q1; cases q1
      exact ⟨k4 b o q q2, fun x => (x fb).elim⟩
    · have : h'.get? b = some o := k1 b o (by rw [get?_only_pos (P := P) ⟨fb, nb⟩]; exact q)
      exact ⟨⟨o.slots, this⟩, fun _ => this⟩
  have keepN : ∀ b o, s.heap.get? b = some o → (∀ vs, o.data ≠ .fields vs) → (∃ sl, h'.get? b = some { o with slots := sl }) ∧ (¬ isFr A b → h'.get? b = some o) := by
    intro b o q nf
    refine ⟨k4 b o q nf, fun fb => ?_⟩
    have nb : ¬ (b = e ∨ ∃ o vs, s.heap.get? e = some o ∧ o.data = .fields vs ∧ vs[1]? = some (.ref b)) := by
      rintro (rfl | ⟨o', vs', q1, q2, q3⟩)
      · rcases t with ⟨oe', ws, a0', u1, _, u3, _⟩ | ⟨a0', fl', ⟨oe', ws, T', oT', ts', u1, _, u3, _⟩, _⟩
        · rw [q] at u1; cases u1; exact nf _ u3
        · rw [q] at u1; cases u1; exact nf _ u3
      · rcases t with ⟨oe', ws, a0', u1, _, u3, u4, _⟩ | ⟨a0', fl', ⟨oe', ws, T', oT', ts', u1, _, u3, u4, _, _, u7, u8, _⟩, _⟩
        · rw [u1] at q1; cases q1; rw [u3] at q2; cases q2; rw [u4] at q3; cases q3
        · rw [u1] at q1; cases q1; rw [u3] at q2; cases q2; rw [u4] at q3; cases q3
          rw [q] at u7; cases u7; exact nf _ u8
    exact (keep b o q nb).2 fb
  -- T is not an object that stayed
  have Tnew : ∀ b o, s.heap.get? b = some o → ¬ exPr pr e s.heap b → b ≠ T := by
    intro b o q nb eq
    subst eq
    have := get?_only_pos (h := s.heap) (P := P) (b := b) ⟨Tfr, fun x => nb (.inr x)⟩
    rw [t5] at this; rw [q] at this; cases this
  have Th₀ : h₀.get? T = none := by
    cases q : h₀.get? T with
    | none => rfl
    | some o =>
      exfalso
      obtain ⟨o', w⟩ := Option.isSome_iff_exists.mp (hth T o q)
      have pT : P T := ⟨Tfr, by
        rintro (x | ⟨o2, vs2, x1, x2, x3⟩)
        · exact t6 x
        · rw [tn T o2 vs2 x1 x2 x3] at q; cases q⟩
      have := get?_only_pos (h := s.heap) pT
      rw [t5, w] at this; cases this
  have mono : Mono (exPr pr e s.heap) η s.heap η (exPr pr e h') h' := by
    refine ⟨fun b o q n p => ?_, fun _ q => q, fun b o q n p => ⟨n, fun x => ?_⟩⟩
    · exact (keep b o q (fun x => p (.inr x))).2 (fun f => p (I.frs b f))
    · rcases exPr_fields t1 t3 x with x | x | x
      · exact p (.inl x)
      · exact p (.inr (.inl x))
      · rw [t4] at x; cases x; exact Tnew T o q p rfl
  refine ⟨⟨oe, vs, T, oT, ts, t1, ⟨t2, t2'⟩, t3, t4, Th₀, t6, t7, t8, t9⟩, ?_, ?_⟩
  · refine ⟨fun b o q => ?_, fun a o q => ?_, I.apart, fun a p => ?_, ⟨_, hfr, ff.of_keeps fun b o q nf => ?_⟩, fun b f => ?_, I.os, I.gens⟩
    · obtain ⟨o', w⟩ := Option.isSome_iff_exists.mp (hth b o (hb b o q))
      have w' := I.stays b o q
      refine (keep b o w' ?_).2 (fun f => ?_)
      · rintro (rfl | ⟨o2, vs2, x1, x2, x3⟩)
        · have := hb _ o q; rw [hn] at this; cases this
        · have := hb b o q; rw [tn b o2 vs2 x1 x2 x3] at this; cases this
      · have := (I.privs b (I.frs b f)).2.2; rw [q] at this; cases this
    · refine (I.hrel a o q).mono mono fun o' nf w => (keepN a o' w nf).2 fun f => ?_
      have := (I.privs a (I.frs a f)).2.1; rw [q] at this; cases this
    · rcases exPr_fields t1 t3 p with p | rfl | p
      · obtain ⟨w1, w2, w3⟩ := I.privs a (.inl p)
        obtain ⟨o, w⟩ := Option.isSome_iff_exists.mp w1
        obtain ⟨⟨sl, w'⟩, _⟩ := keep a o w (by
          rintro (x | ⟨o2, vs2, x1, x2, x3⟩)
          · have := hpr _ p; rw [x, hn] at this; cases this
          · have := hpr a p; rw [tn a o2 vs2 x1 x2 x3] at this; cases this)
        exact ⟨by show (h'.get? a).isSome = true; rw [w']; rfl, w2, w3⟩
      · obtain ⟨w1, w2, w3⟩ := I.privs a (.inr (.inl rfl))
        exact ⟨by show (h'.get? a).isSome = true; rw [t1]; rfl, w2, w3⟩
      · rw [t4] at p; cases p
        refine ⟨by show (h'.get? T).isSome = true; rw [t7]; rfl, ?_, ?_⟩
        · cases w : η T with
          | none => rfl
          | some o =>
            obtain ⟨o', w1, w2⟩ := (I.hrel T o w).nofields
            obtain ⟨sl, w3⟩ := k4 T o' w1 w2
            rw [t7] at w3; cases w3; exact (w2 _ t8).elim
        · cases w : c.base.get? T with
          | none => rfl
          | some o => have := hb T o w; rw [Th₀] at this; cases this
    · obtain ⟨sl, w⟩ := k4 b o q nf
      exact ⟨_, w, rfl⟩
    · obtain ⟨o, w1, w2⟩ := frDict b f
      rcases I.frs b f with p | rfl | ⟨o2, vs2, x1, x2, x3⟩
      · exact .inl p
      · exact .inr (.inl rfl)
      · rcases t with ⟨oe', ws, a0', u1, _, u3, u4, _⟩ | ⟨a0', fl', ⟨oe', ws, T', oT', ts', u1, _, u3, u4, _, _, u7, u8, _⟩, _⟩
        · rw [u1] at x1; cases x1; rw [u3] at x2; cases x2; rw [u4] at x3; cases x3
        · rw [u1] at x1; cases x1; rw [u3] at x2; cases x2; rw [u4] at x3; cases x3
          rw [w1] at u7; cases u7; exact (w2 _ u8).elim
  · intro b o q w
    rcases w with w | w
    · refine keep b o q ?_
      rintro (rfl | ⟨o2, vs2, x1, x2, x3⟩)
      · rw [hn] at w; cases w
      · rw [tn b o2 vs2 x1 x2 x3] at w; cases w
    · exact keepN b o q w
/-- an exception is noted in a frame: what the notes need -/
theorem note_pre (I : Inv c η (exPr pr e s.heap) A s) (hfr : A.frames = some (env :: outer)) :
    s.heap.FunFrames (only s.heap (keptP A e s.heap)) (env :: outer) ∧ (only s.heap (keptP A e s.heap)).StaysIn s.heap ∧ (only s.heap (keptP A e s.heap)).get? e = none := by
  obtain ⟨fr, hfr', ff⟩ := I.frames
  rw [hfr] at hfr'; cases hfr'
  have isF : ∀ b, isFr A b ↔ ∃ x ∈ env :: outer, x.frame = some b := fun b => by unfold isFr; rw [hfr]; rfl
  refine ⟨funFrames_only ff fun x m l q p => p.1 ((isF l).mpr ⟨x, m, q⟩), fun b o q => ?_, get?_only_neg fun p => p.2 (.inl rfl)⟩
  by_cases p : keptP A e s.heap b
  · rw [get?_only_pos p] at q; exact q
  · rw [get?_only_neg p] at q; cases q
/-- an exception is noted in a frame -/
theorem note_thr {Q : Unit → Shared → Prop} {E : Value → Shared → Prop} (I : Inv c η (exPr pr e s.heap) A s) (hfr : A.frames = some (env :: outer)) (hf : env.frame = some L)
    (t : Thr A h₀ s.heap e C) (hn : h₀.get? e = none) (hpr : ∀ b, pr b → (h₀.get? b).isSome = true) (hb : c.base.StaysIn h₀) (hth : ∀ b o, h₀.get? b = some o → (s.heap.get? b).isSome = true)
    (hQ : ∀ h' a0, Heap.NotedW (only s.heap (keptP A e s.heap)) (env :: outer) e (.ref C) a0 (rawInt L) s.heap h' → Q () { s with heap := h' }) : wpAny c.M A (noteFrame (.ref e) env) Q E s := by
  obtain ⟨ffP, stP, eP⟩ := note_pre I hfr
  rcases t with ⟨oe, vs, a0, t1, t2, t3, t4, t5⟩ | ⟨a0, fl, t, hfl⟩
  · unfold noteFrame
    simp only [hf]
    refine wpAny_bind (wpAny_field t1 t3 t4 ?_)
    rw [if_neg (by decide)]
    refine wpAny_entryW hfr ffP hf t1 stP eP t3 (Array.getElem?_eq_some_iff.mp t4).1 t5 fun h' q => ?_
    rw [t2] at q; exact hQ h' a0 q
  · obtain ⟨oe, vs, T, oT, ts, t1, t2, t3, t4, t5, t6⟩ := t
    have tr : s.heap.TracedAtW (only s.heap (keptP A e s.heap)) e (.ref C) a0 fl := ⟨oe, vs, T, oT, ts, t1, t2, t3, t4, get?_only_neg fun p => p.2 (.inr ⟨oe, vs, t1, t3, t4⟩), t6⟩
    rcases hfl with rfl | ⟨env', outer', L', q1, q2, rfl⟩
    · exact wpAny_noteFrame_onW hfr ffP hf tr stP eP fun h' q => hQ h' a0 q
    · rw [hfr] at q1; cases q1; rw [hf] at q2; cases q2
      exact wpAny_noteFrame_againW hf tr (hQ s.heap a0 ⟨stP, ffP, tr, fun b o q _ => ⟨o.slots, q⟩⟩)
theorem leave_both {Q : Unit → Shared → Prop} {E : Value → Shared → Prop} (I : Inv c η (exPr pr e s.heap) A s) (hfr : A.frames = some (env :: outer)) (hf : env.frame = some L)
    (t : Thr A h₀ s.heap e C) (hn : h₀.get? e = none) (hpr : ∀ b, pr b → (h₀.get? b).isSome = true) (hb : c.base.StaysIn h₀) (hth : ∀ b o, h₀.get? b = some o → (s.heap.get? b).isSome = true)
    (hQ : ∀ h' a0, h'.TracedW h₀ e (.ref C) a0 → Inv c η (exPr pr e h') A { s with heap := h' } →
      (∀ b o, s.heap.get? b = some o → ((h₀.get? b).isSome = true ∨ ∀ vs, o.data ≠ .fields vs) → (∃ sl, h'.get? b = some { o with slots := sl }) ∧ (¬ isFr A b → h'.get? b = some o)) → Q () { s with heap := h' }) :
    wpAny c.M A (leaving env (.ref e)) Q E s ∧ wpAny c.M A (noteFrame (.ref e) env) (fun _ s₂ => wpAny c.M A (setFlight (.ref e) none) Q E s₂) E s := by
  have fin : ∀ a0 h', Heap.NotedW (only s.heap (keptP A e s.heap)) (env :: outer) e (.ref C) a0 .none s.heap h' → Q () { s with heap := h' } := fun a0 h' q => by
    obtain ⟨z1, z2, z3⟩ := leave_fin I hfr hf t hn hpr hb hth q
    exact hQ h' a0 z1 z2 z3
  have fin2 : wpAny c.M A (noteFrame (.ref e) env) (fun _ s₂ => wpAny c.M A (setFlight (.ref e) none) Q E s₂) E s := by
    refine note_thr I hfr hf t hn hpr hb hth fun h₁ a0 q => ?_
    obtain ⟨n1, n2, n3, n4⟩ := q
    refine wpAny_setFlight_noneW (s := { s with heap := h₁ }) n1 n2 n3 fun h' m1 m2 m3 m4 => fin a0 h' ⟨m1, m2, m3, fun b o q nf => ?_⟩
    obtain ⟨sl, w⟩ := n4 b o q nf
    exact ⟨sl, m4 b _ w nf⟩
  refine ⟨?_, fin2⟩
  unfold leaving
  exact wpAny_bind fin2
theorem leave_thr {Q : Unit → Shared → Prop} {E : Value → Shared → Prop} (I : Inv c η (exPr pr e s.heap) A s) (hfr : A.frames = some (env :: outer)) (hf : env.frame = some L)
    (t : Thr A h₀ s.heap e C) (hn : h₀.get? e = none) (hpr : ∀ b, pr b → (h₀.get? b).isSome = true) (hb : c.base.StaysIn h₀) (hth : ∀ b o, h₀.get? b = some o → (s.heap.get? b).isSome = true)
    (hQ : ∀ h' a0, h'.TracedW h₀ e (.ref C) a0 → Inv c η (exPr pr e h') A { s with heap := h' } →
      (∀ b o, s.heap.get? b = some o → ((h₀.get? b).isSome = true ∨ ∀ vs, o.data ≠ .fields vs) → (∃ sl, h'.get? b = some { o with slots := sl }) ∧ (¬ isFr A b → h'.get? b = some o)) → Q () { s with heap := h' }) :
    wpAny c.M A (leaving env (.ref e)) Q E s := (leave_both I hfr hf t hn hpr hb hth hQ).1
end
end Mine

namespace Mine
open PySem PyProof.Rows

/-- a frame's first values -/
inductive InitR (ps : List Str) (vs : List V) : List (Str × NameKind) → List (Option V) → Prop
  | nil : InitR ps vs [] []
  | skip {p nm σ} : InitR ps vs nm σ → InitR ps vs (p :: nm) (none :: σ)
  | bind {x k nm v σ} : (x, v) ∈ ps.zip vs → InitR ps vs nm σ → InitR ps vs ((x, k) :: nm) (some v :: σ)
theorem InitR.at {ps : List Str} {vs : List V} {nm : List (Str × NameKind)} {σ : List (Option V)} {x : Str} {k : NameKind} {v : V} (i : InitR ps vs nm σ) (a : At nm σ x k v) : (x, v) ∈ ps.zip vs := by
  induction i with
  | nil => cases a
  | skip _ ih => cases a with | tail a => exact ih a
  | bind m _ ih =>
    cases a with
    | head => exact m
    | tail a => exact ih a

theorem cellsFrom_has {x : Str} : ∀ (nm : List (Str × NameKind)) (n : Nat) (acc : List (Str × Addr)), (x, NameKind.cell) ∈ nm ∨ (acc.lookup x).isSome = true → ((cellsFrom n nm acc).lookup x).isSome = true
  | [], _, _, h => h.elim (fun e => by cases e) id
  | (y, k) :: r, n, acc, h => by
    unfold cellsFrom
    by_cases hk : (k == .cell) = true
    · rw [if_pos hk]
      refine cellsFrom_has r (n + 1) ((y, n) :: acc) ?_
      rw [List.lookup_cons]
      cases q : x == y with
      | true => exact .inr rfl
      | false =>
        rcases h with h | h
        · rcases List.mem_cons.mp h with e | h
          · cases e; simp at q
          · exact .inl h
        · exact .inr h
    · rw [if_neg hk]
      refine cellsFrom_has r n acc ?_
      rcases h with h | h
      · rcases List.mem_cons.mp h with e | h
        · cases e; exact absurd rfl hk
        · exact .inl h
      · exact .inr h
theorem cellsFrom_key {x : Str} {a : Addr} : ∀ (nm : List (Str × NameKind)) (n : Nat) (acc : List (Str × Addr)), (x, a) ∈ cellsFrom n nm acc → (x, a) ∈ acc ∨ n ≤ a
  | [], _, _, h => .inl h
  | (y, k) :: r, n, acc, h => by
    unfold cellsFrom at h
    by_cases hk : (k == .cell) = true
    · rw [if_pos hk] at h
      rcases cellsFrom_key r (n + 1) _ h with h | h
      · rcases List.mem_cons.mp h with e | h
        · cases e; exact .inr (Nat.le_refl _)
        · exact .inl h
      · exact .inr (by omega)
    · rw [if_neg hk] at h
      exact cellsFrom_key r n acc h

theorem bindL_not {kd : Str → Option NameKind} {x : Str} : ∀ (bs : List (Str × Value)) (m : Str → Option Value), x ∉ bs.map (·.1) → bindL kd bs m x = m x
  | [], _, _ => rfl
  | (n, v) :: r, m, h => by
    rw [List.map_cons, List.mem_cons] at h
    unfold bindL
    rw [bindL_not r _ fun q => h (.inr q)]
    split
    · exact if_neg fun q => h (.inl q)
    · rfl
theorem bindL_of {kd : Str → Option NameKind} {x : Str} {y : Value} (hk : kd x = some .local) : ∀ (bs : List (Str × Value)) (m : Str → Option Value), (bs.map (·.1)).Nodup → (x, y) ∈ bs → bindL kd bs m x = some y
  | (n, v) :: r, m, nd, h => by
    rw [List.map_cons, List.nodup_cons] at nd
    unfold bindL
    rcases List.mem_cons.mp h with e | h
    · cases e
      rw [bindL_not r _ nd.1, if_pos hk]; exact if_pos rfl
    · exact bindL_of hk r _ nd.2 h
theorem bindC_not {kd : Str → Option NameKind} {x : Str} : ∀ (bs : List (Str × Value)) (m : Str → Option Value), x ∉ bs.map (·.1) → bindC kd bs m x = m x
  | [], _, _ => rfl
  | (n, v) :: r, m, h => by
    rw [List.map_cons, List.mem_cons] at h
    unfold bindC
    rw [bindC_not r _ fun q => h (.inr q)]
    split
    · rfl
    · exact if_neg fun q => h (.inl q)
theorem bindC_of {kd : Str → Option NameKind} {x : Str} {y : Value} (hk : kd x = some .cell) : ∀ (bs : List (Str × Value)) (m : Str → Option Value), (bs.map (·.1)).Nodup → (x, y) ∈ bs → bindC kd bs m x = some y
  | (n, v) :: r, m, nd, h => by
    rw [List.map_cons, List.nodup_cons] at nd
    unfold bindC
    rcases List.mem_cons.mp h with e | h
    · cases e
      rw [bindC_not r _ nd.1, if_neg (by rw [hk]; intro q; cases q)]; exact if_pos rfl
    · exact bindC_of hk r _ nd.2 h

/-- a def's table, looked at once -/
noncomputable def tabOk (nm : List (Str × NameKind)) (as : List Arg) : Bool :=
  decide (nm.map (·.1)).Nodup && decide (as.map (·.arg)).Nodup && nm.all (fun p => p.2 != .free) && as.all fun a => nm.lookup a.arg == some .local || nm.lookup a.arg == some .cell

theorem zip_rvs {P : Params} {h : Heap} {η : Hp} {pr : Pr} {x : Str} {v : V} : ∀ {ps : List Str} {vs : List V} {xs : List Value}, Rvs P h η pr vs xs → (x, v) ∈ ps.zip vs → ∃ y, (x, y) ∈ ps.zip xs ∧ Rv P h η pr v y
  | [], _, _, _, m => by rw [List.zip_nil_left] at m; cases m
  | p :: ps, [], _, _, m => by rw [List.zip_nil_right] at m; cases m
  | p :: ps, w :: vs, xs, r, m => by
    unfold Rvs at r
    obtain ⟨y, ys, rfl, r, rs⟩ := r
    rw [List.zip_cons_cons] at m
    rcases List.mem_cons.mp m with e | m
    · cases e; exact ⟨y, .head _, r⟩
    · obtain ⟨y', m', r'⟩ := zip_rvs rs m
      exact ⟨y', .tail _ m', r'⟩
theorem rvs_length {P : Params} {h : Heap} {η : Hp} {pr : Pr} : ∀ {vs : List V} {xs : List Value}, Rvs P h η pr vs xs → xs.length = vs.length
  | [], xs, r => by unfold Rvs at r; subst r; rfl
  | v :: vs, xs, r => by unfold Rvs at r; obtain ⟨y, ys, rfl, _, r⟩ := r; simp [rvs_length r]

section
variable {c : Cx} {A : Around} {pr : Pr} {η η' : Hp} {s : Shared} {d : Nat} {hd : Bool} {nm : List (Str × NameKind)} {σ : List (Option V)} {env : Env}
  {Q R : V → Hp → Prop} {B : Bool → Hp → Prop} {X : Addr → Hp → Prop} {v w : V}

theorem isFr_deeper {b : Addr} (h : isFr (A.deeper env) b) : env.frame = some b ∨ isFr A b := by
  obtain ⟨x, m, e⟩ := h
  unfold Around.deeper at m
  dsimp only at m
  cases q : A.frames with
  | none => rw [q] at m; cases m
  | some fr =>
    rw [q] at m
    rcases List.mem_cons.mp m with rfl | m
    · exact .inl e
    · exact .inr ⟨x, by rw [q]; exact m, e⟩

/-- back in the caller -/
theorem Inv.exit {pr₁ pr₂ : Pr} {fr : List Env} (I : Inv c η pr₁ (A.deeper env) s) (hfr : A.frames = some fr) (k : ∀ b, pr₂ b → pr₁ b) (f : ∀ b, isFr A b → pr₂ b) : Inv c η pr₂ A s := by
  obtain ⟨fr', e, ff⟩ := I.frames
  have : fr' = env :: fr := by
    unfold Around.deeper at e; dsimp only at e; rw [hfr] at e; exact (Option.some.inj e).symm
  subst this
  have m : Mono pr₁ η s.heap η pr₂ s.heap := ⟨fun _ _ e _ _ => e, fun _ e => e, fun b _ _ n p => ⟨n, fun q => p (k b q)⟩⟩
  exact ⟨I.stays, fun a o q => (I.hrel a o q).mono m fun _ _ e => e, I.apart, fun a p => I.privs a (k a p), ⟨fr, hfr, ff.2.2⟩, f, I.os, I.gens⟩

theorem Step.exit {h h₁ h' : Heap} {η' : Hp} (st : Step (A.deeper env) (ownOf env) η h₁ η' h') (k : ∀ b o, h.get? b = some o → h₁.get? b = some o) (nf : ∀ b o, h.get? b = some o → ¬ ownOf env b) (hf : env.frame = some env.locals) :
    Step A noOwn η h η' h' := by
  refine ⟨fun b o e n _ => st.upto b o (k b o e) n (nf b o e), fun b o e n _ f => st.same b o (k b o e) n (nf b o e) fun q => ?_, fun b o e => st.there b o (k b o e), st.dom, fun b n e => ?_⟩
  · rcases isFr_deeper q with q | q
    · rw [hf] at q; cases q; exact nf _ o e (.inl rfl)
    · exact f q
  · cases q : h.get? b with
    | none => rfl
    | some o => have := st.new b n e; rw [k b o q] at this; cases this

theorem Ok0.deeper (o : Ok0 (d + 1) hd A) (l : LiveA (A.deeper env)) : Ok d hd (A.deeper env) :=
  ⟨⟨by have := o.depth; show A.depth + 1 + d ≤ _; omega, by have := o.units; show A.units + 3 + _ + _ ≤ _; omega, o.handled, o.guards⟩, l⟩

/-- a call, as the code that runs -/
noncomputable def SCc (c : Cx) (d : Nat) (hd : Bool) (f : Value) (vs : List V) (η : Hp) (Q : V → Hp → Prop) (X : Addr → Hp → Prop) : Prop :=
  ∀ A s pr xs, Ok0 d hd A → Inv c η pr A s → Rvs c.P s.heap η pr vs xs → codeAny c.M A (.call f ⟨xs, []⟩) (fun r s' => match r with | .ok (.ret v) => Post c A noOwn pr η s.heap Q v s' | .ok _ => False | .error e => Exc c A noOwn pr η s.heap X e s') s
theorem SCc.to {f : Value} {vs : List V} (p : SCc c d hd f vs η Q X) : SC c d hd f vs η Q X := fun A s pr xs o I r => wpAny_call (p A s pr xs o.toOk0 I r)
theorem SCc.to0 {f : Value} {vs : List V} (p : SCc c d hd f vs η Q X) : SC0 c d hd f vs η Q X := fun A s pr xs o I r => wpAny_call (p A s pr xs o I r)
/-- a def is called -/
theorem SCc.enter {a : Addr} {ob : Obj} {fd : FuncData} {as : List Arg} {body : List Stmt} {vs : List V} (ho : c.base.get? a = some ob) (hdata : ob.data = .func fd) (hcd : c.base.CodeRec fd.code fd.qualname)
    (hp : fd.params = plainArgs as) (hdf : fd.defaults = .none) (hbody : fd.body = .stmts body) (hclo : fd.closure = []) (hg : fd.globals = mainGlobals) (hbu : fd.builtins = builtinsNs)
    (hco : fd.scope.isCoroutine = false) (hgen : fd.scope.isGenerator = false) (hk : fd.scope.kind = .function) (htab : tabOk fd.scope.names as = true) (hl : as.length = vs.length)
    (hi : InitR (as.map (·.arg)) vs fd.scope.names σ) (hb : SS c d hd fd.scope.names σ η body (fun _ η' => Q .none η') Q X) : SCc c (d + 1) hd (.ref a) vs η Q X := by
  intro A s pr xs o I r
  unfold tabOk at htab
  simp only [Bool.and_eq_true, decide_eq_true_eq] at htab
  obtain ⟨⟨⟨hnd, hnp⟩, hnf⟩, hps⟩ := htab
  have hlx : as.length = xs.length := by rw [rvs_length r]; exact hl
  have hbind := bind_pos hp hdf hnp hlx
  obtain ⟨fr, hfr, ff⟩ := I.frames
  have ho' := I.stays _ _ ho
  have kindP : ∀ p ∈ (as.map (·.arg)).zip xs, fd.scope.names.lookup p.1 = some .local ∨ fd.scope.names.lookup p.1 = some .cell := by
    intro p m
    obtain ⟨x, y⟩ := p
    obtain ⟨ar, ma, rfl⟩ := List.mem_map.mp (List.of_mem_zip m).1
    have := List.all_eq_true.mp hps ar ma
    simpa using this
  have keyOf : ∀ x k, fd.scope.names.lookup x = some k → (x, k) ∈ fd.scope.names := fun x k e => mem_of_lookup e
  refine codeAny_call_cells (by have := o.depth; omega) ho' hdata (c.nolimit.keeps I.stays) (hcd.keeps I.stays) hbody hbind hclo
    (fun p m => (kindP p m).imp id fun e => ⟨e, cellsFrom_has _ _ _ (.inl (keyOf _ _ e))⟩) ?_ hco hgen hk
  intro s₁ ic
  generalize henv : callEnvC fd s.heap.objs.size a = env at ic
  have eL : env.locals = s.heap.objs.size := by rw [← henv]; rfl
  have eC : env.cells = cellsFrom (s.heap.objs.size + 1) fd.scope.names [] := by rw [← henv]; rfl
  have eS : env.scope = fd.scope := by rw [← henv]; rfl
  have eF : env.frame = some env.locals := by rw [← henv]; rfl
  have eG : env.globals = mainGlobals := by rw [← henv]; exact hg
  have eB : env.builtins = builtinsNs := by rw [← henv]; exact hbu
  obtain ⟨h₁, tk, es⟩ := ic.toInCall.same
  have keep := ic.toInCall.keep
  have cellAt : ∀ x b, env.cells.lookup x = some b → s.heap.objs.size < b := fun x b e => by
    rw [eC] at e
    rcases cellsFrom_key _ _ _ (mem_of_lookup e) with q | q
    · cases q
    · omega
  have fresh : ∀ b ob, s.heap.get? b = some ob → ¬ ownOf env b := by
    intro b ob e q
    have lt := Heap.lt_size e
    rcases q with q | ⟨x, q⟩
    · rw [q, eL] at lt; exact Nat.lt_irrefl _ lt
    · exact Nat.lt_irrefl _ (Nat.lt_trans lt (cellAt x b q))
  let pr' : Pr := fun b => pr b ∨ ownOf env b
  have prOld : ∀ b ob, s.heap.get? b = some ob → ¬ pr b → ¬ pr' b := fun b ob e n q => q.elim n (fresh b ob e)
  have hmono : Mono pr η s.heap η pr' s₁.heap := ⟨fun b ob e _ _ => keep b ob e, fun _ e => e, fun b ob e n p => ⟨n, prOld b ob e p⟩⟩
  have ηfresh : ∀ b, s.heap.objs.size ≤ b → η b = none := fun b hb => by
    cases q : η b with
    | none => rfl
    | some m =>
      obtain ⟨ob, e, _⟩ := (I.hrel b m q).nofields
      exact (Nat.not_lt.mpr hb (Heap.lt_size e)).elim
  have bfresh : ∀ b, s.heap.objs.size ≤ b → c.base.get? b = none := fun b hb => by
    cases q : c.base.get? b with
    | none => rfl
    | some m => exact (Nat.not_lt.mpr hb (Heap.lt_size (I.stays b m q))).elim
  have ownEx : ∀ b, ownOf env b → (s₁.heap.get? b).isSome = true ∧ η b = none ∧ c.base.get? b = none := by
    intro b q
    rcases q with q | ⟨x, q⟩
    · subst q
      obtain ⟨ob, _, _, e, _⟩ := ic.toInCall.ns
      exact ⟨by rw [e]; rfl, ηfresh _ (by rw [eL]; exact Nat.le_refl _), bfresh _ (by rw [eL]; exact Nat.le_refl _)⟩
    · obtain ⟨ob, e, _⟩ := ic.cell x b q
      have := cellAt x b q
      exact ⟨by rw [e]; rfl, ηfresh _ (by omega), bfresh _ (by omega)⟩
  have I₁ : Inv c η pr' (A.deeper env) s₁ := by
    refine ⟨fun b ob e => keep b ob (I.stays b ob e), fun b m e => (I.hrel b m e).mono hmono fun ob _ q => keep b ob q, I.apart, fun b p => ?_, ⟨env :: fr, by unfold Around.deeper; dsimp only; rw [hfr]; rfl, ?_⟩, fun b f => ?_, ?_, ?_⟩
    · rcases p with p | p
      · obtain ⟨e1, e2, e3⟩ := I.privs b p
        obtain ⟨ob, e⟩ := Option.isSome_iff_exists.mp e1
        exact ⟨by rw [keep b ob e]; rfl, e2, e3⟩
      · exact ownEx b p
    · refine ⟨(by rw [eS, hk]; intro q; cases q), ?_, ff.of_keeps fun b ob q _ => ⟨ob, keep b ob q, rfl⟩⟩
      obtain ⟨ob, ens, ep, e, hdd, _⟩ := ic.toInCall.ns
      exact ⟨env.locals, ob, eF, (ownEx _ (.inl rfl)).2.2, e, fun ws q => by rw [hdd] at q; cases q⟩
    · rcases isFr_deeper f with f | f
      · rw [eF] at f; cases f; exact .inr (.inl rfl)
      · exact .inl (I.frs b f)
    · rw [es]; exact I.os
    · rw [es]; exact I.gens
  have F₁ : FrameR c s₁.heap η pr' fd.scope.names env σ := by
    refine ⟨by rw [eS]; exact hk, by rw [eS], hnd, eG, eB, ⟨_, ic.toInCall.ns⟩, .inr (.inl rfl), fun x b e => ⟨.inr (.inr ⟨x, e⟩), _, ic.cell x b e⟩,
      fun x y b e1 e2 => name_of_addr ic.apart (mem_of_lookup e1) (mem_of_lookup e2), fun x k m q => ?_, fun x k v at' => ?_⟩
    · rcases q with rfl | rfl
      · rw [eC]; exact cellsFrom_has _ _ _ (.inl m)
      · have := List.all_eq_true.mp hnf _ m; simp at this
    · have m := hi.at at'
      obtain ⟨y, my, ry⟩ := zip_rvs r m
      refine ⟨y, ?_, Rv.mono hmono v ry⟩
      have nk : (((as.map (·.arg)).zip xs).map (·.1)).Nodup := by
        rw [List.map_fst_zip (by simp [hlx])]; exact hnp
      have hkd : env.kindOf x = some k := by unfold Env.kindOf; rw [eS]; exact lookup_of_mem hnd (mem_fst at')
      have hk2 : fd.scope.names.lookup x = some k := lookup_of_mem hnd (mem_fst at')
      rcases kindP (x, y) my with q | q <;> rw [hk2] at q <;> cases q
      · exact ⟨_, ic.toInCall.ns, bindL_of hkd _ _ nk my⟩
      · obtain ⟨b, e⟩ := Option.isSome_iff_exists.mp (cellsFrom_has fd.scope.names (s.heap.objs.size + 1) [] (.inl (mem_fst at')))
        rw [← eC] at e
        have := ic.cell x b e
        rw [bindC_of hkd _ _ nk my] at this
        exact ⟨b, e, this⟩
  have hdeep : (A.deeper env).frames = some (env :: fr) := by unfold Around.deeper; dsimp only; rw [hfr]; rfl
  refine wpAny_mono (hb (A.deeper env) env s₁ pr' fr (o.deeper ⟨env, fr, hdeep, by rw [eS]; exact hgen, by rw [eS]; exact hco, eB, eG⟩) I₁ F₁ hdeep eF) (fun f s' p => ?_) fun e s' p => ?_
  · have fin : ∀ r', Post c (A.deeper env) (ownOf env) pr' η s₁.heap Q r' s' → Post c A noOwn pr η s.heap Q r' s' := by
      intro r' ⟨v, η', q, I', rv, st⟩
      refine ⟨v, η', q, I'.exit hfr (fun b p => .inl p) I.frs, Rv.mono ⟨fun _ _ e _ _ => e, fun _ e => e, fun b _ _ n p => ⟨n, fun q => p (.inl q)⟩⟩ v rv, st.exit keep fresh eF⟩
    cases f with
    | next => obtain ⟨σ', η', q, I', _, st⟩ := p; exact fin .none ⟨.none, η', q, I', rfl, st⟩
    | ret r' => exact fin r' p
    | brk => exact p.elim
    | cont => exact p.elim
  · obtain ⟨ea, C, η', rfl, x, I', st, hn, t⟩ := p
    refine leave_thr I' hdeep eF t hn (fun b p => (I₁.privs b p).1) (fun b ob e => I₁.stays b ob e) st.there fun h' a0 tr I'' kp => ?_
    have st' : Step (A.deeper env) (ownOf env) η s₁.heap η' h' := by
      refine ⟨fun b ob e n w => ?_, fun b ob e n w f => ?_, fun b ob e => ?_, st.dom, st.new⟩
      · obtain ⟨sl, e'⟩ := st.upto b ob e n w
        obtain ⟨⟨sl', e''⟩, _⟩ := kp b _ e' (.inl (by rw [e]; rfl))
        exact ⟨sl', e''⟩
      · exact (kp b _ (st.same b ob e n w f) (.inl (by rw [e]; rfl))).2 f
      · obtain ⟨ob', e'⟩ := Option.isSome_iff_exists.mp (st.there b ob e)
        obtain ⟨⟨sl', e''⟩, _⟩ := kp b _ e' (.inl (by rw [e]; rfl))
        rw [e'']; rfl
    have older : ∀ b ob, s.heap.get? b = some ob → (s₁.heap.get? b).isSome = true := fun b ob e => by rw [keep b ob e]; rfl
    refine ⟨ea, C, η', rfl, x, I''.exit hfr (fun b p => p.imp .inl id) (fun b f => .inl (I.frs b f)), st'.exit keep fresh eF, ?_, Thr.older older (.inr ⟨a0, .none, tr, .inl rfl⟩)⟩
    cases q : s.heap.get? ea with
    | none => rfl
    | some ob => have := keep ea ob q; rw [hn] at this; cases this
end
end Mine

namespace Mine
open PySem PyProof.Rows

/-- a variable is set -/
inductive Put : List (Str × NameKind) → List (Option V) → Str → V → List (Option V) → Prop
  | loc {x nm o σ v} : Put ((x, .local) :: nm) (o :: σ) x v (some v :: σ)
  | cell {x nm o σ v} : Put ((x, .cell) :: nm) (o :: σ) x v (some v :: σ)
  | tail {p nm o σ x v σ'} : Put nm σ x v σ' → Put (p :: nm) (o :: σ) x v (o :: σ')
theorem Put.mem {nm : List (Str × NameKind)} {σ σ' : List (Option V)} {x : Str} {v : V} (p : Put nm σ x v σ') : (x, NameKind.local) ∈ nm ∨ (x, NameKind.cell) ∈ nm := by
  induction p with
  | loc => exact .inl (.head _)
  | cell => exact .inr (.head _)
  | tail _ ih => exact ih.imp (.tail _) (.tail _)
theorem Put.at {nm : List (Str × NameKind)} {σ σ' : List (Option V)} {x y : Str} {v w : V} {k : NameKind} (nd : (nm.map (·.1)).Nodup) (p : Put nm σ x v σ') (a : At nm σ' y k w) : (y = x ∧ w = v) ∨ (y ≠ x ∧ At nm σ y k w) := by
  induction p with
  | loc =>
    cases a with
    | head => exact .inl ⟨rfl, rfl⟩
    | tail a => rw [List.map_cons, List.nodup_cons] at nd; exact .inr ⟨fun e => nd.1 (List.mem_map.mpr ⟨_, mem_fst a, e⟩), .tail a⟩
  | cell =>
    cases a with
    | head => exact .inl ⟨rfl, rfl⟩
    | tail a => rw [List.map_cons, List.nodup_cons] at nd; exact .inr ⟨fun e => nd.1 (List.mem_map.mpr ⟨_, mem_fst a, e⟩), .tail a⟩
  | tail p ih =>
    rw [List.map_cons, List.nodup_cons] at nd
    cases a with
    | head => exact .inr ⟨fun e => by rcases p.mem with m | m <;> exact nd.1 (List.mem_map.mpr ⟨_, m, e.symm⟩), .head⟩
    | tail a => exact (ih nd.2 a).imp id fun ⟨n, a⟩ => ⟨n, .tail a⟩

theorem funFrames_but {h h' base : Heap} {a : Addr} {fr : List Env} (f : h.FunFrames base fr) (k : Heap.SameBut a h h') (ha : ∀ o, h.get? a = some o → ∃ o', h'.get? a = some o' ∧ ∀ vs, o'.data ≠ .fields vs) : h'.FunFrames base fr := by
  induction fr with
  | nil => trivial
  | cons x r ih =>
    obtain ⟨q, ⟨L, o, q1, q2, q3, q4⟩, r'⟩ := f
    refine ⟨q, ?_, ih r'⟩
    by_cases e : L = a
    · subst e
      obtain ⟨o', w1, w2⟩ := ha o q3
      exact ⟨_, o', q1, q2, w1, w2⟩
    · exact ⟨L, o, q1, q2, (k.2 L e).trans q3, q4⟩

noncomputable def ownX (env : Env) (xs : List Str) : Pr := fun b => b = env.locals ∨ ∃ x ∈ xs, env.cells.lookup x = some b

section
variable {c : Cx} {A : Around} {pr : Pr} {η η' : Hp} {s : Shared} {d : Nat} {hd : Bool} {nm : List (Str × NameKind)} {σ σ' : List (Option V)} {env : Env}
  {Q R : V → Hp → Prop} {B : Bool → Hp → Prop} {X : Addr → Hp → Prop} {N : List (Option V) → Hp → Prop} {v w : V} {x : Str} {pos : Pos} {h' : Heap}

theorem Mono.of_but {a : Addr} (k : Heap.SameBut a s.heap h') (ha : pr a) : Mono pr η s.heap η pr h' :=
  ⟨fun b o e _ p => (k.2 b fun q => p (q ▸ ha)).trans e, fun _ e => e, fun _ _ _ n p => ⟨n, p⟩⟩

theorem Inv.but {a : Addr} {t : Nat} (I : Inv c η pr A s) (k : Heap.SameBut a s.heap h') (ha : pr a) (hx : ∃ o', h'.get? a = some o' ∧ ∀ vs, o'.data ≠ .fields vs) : Inv c η pr A { s with heap := h', toks := t } := by
  obtain ⟨fr, e, ff⟩ := I.frames
  obtain ⟨p1, p2, p3⟩ := I.privs a ha
  have ne : ∀ b, η b ≠ none ∨ (c.base.get? b).isSome = true → b ≠ a := fun b q e => by
    subst e; rcases q with q | q
    · exact q p2
    · rw [p3] at q; cases q
  refine ⟨fun b o q => (k.2 b (ne b (.inr (by rw [q]; rfl)))).trans (I.stays b o q), fun b o q => (I.hrel b o q).mono (Mono.of_but k ha) fun o' _ e => (k.2 b (ne b (.inl (by rw [q]; intro x; cases x)))).trans e, I.apart, fun b p => ?_,
    ⟨fr, e, funFrames_but ff k fun _ _ => hx⟩, I.frs, I.os, I.gens⟩
  obtain ⟨q1, q2, q3⟩ := I.privs b p
  refine ⟨?_, q2, q3⟩
  show (h'.get? b).isSome = true
  by_cases e : b = a
  · subst e; obtain ⟨o', w, _⟩ := hx; rw [w]; rfl
  · rw [k.2 b e]; exact q1

/-- a variable is stored -/
theorem store_var {val : Value} {QQ : Unit → Shared → Prop} {E : Value → Shared → Prop} (I : Inv c η pr A s) (F : FrameR c s.heap η pr nm env σ) (p : Put nm σ x v σ') (r : Rv c.P s.heap η pr v val)
    (h : ∀ s', Inv c η pr A s' → FrameR c s'.heap η pr nm env σ' → Step A (ownX env [x]) η s.heap η s'.heap → (∀ u y, Rv c.P s.heap η pr u y → Rv c.P s'.heap η pr u y) → QQ () s') :
    wpAny c.M A (storeName env x val) QQ E s := by
  obtain ⟨m, ns⟩ := F.ns
  have ns' := ns
  obtain ⟨oL, es, ep, eL, dL, _⟩ := ns'
  -- a cell is no namespace
  have cellNe : ∀ y a, env.cells.lookup y = some a → a ≠ env.locals := fun y a e q => by
    subst q
    obtain ⟨_, v, o, w1, w2⟩ := F.cells y _ e
    rw [eL] at w1; cases w1; rw [dL] at w2; cases w2
  rcases p.mem with mx | mx
  · -- a local
    have hk := F.kindOf mx
    refine wpAny_storeName_local hk ns (fun h' hn hs => ?_) (by rw [F.kind]; rfl)
    obtain ⟨oL', es', ep', eL', dL', _⟩ := id hn
    have mo : Mono pr η s.heap η pr h' := Mono.of_but hs F.nsp
    refine h _ (I.but hs F.nsp ⟨oL', eL', fun vs q => by rw [dL'] at q; cases q⟩) ?_ (Step.of_but hs (.inl rfl) fun _ => by rw [eL']; rfl) fun u y r => Rv.mono mo u r
    have cellKeep : ∀ y a v, env.cells.lookup y = some a → s.heap.IsCell a v → h'.IsCell a v := fun y a v e q => q.sameBut hs (cellNe y a e)
    refine ⟨F.kind, F.names, F.nodup, F.globals, F.builtins, ⟨_, hn⟩, F.nsp, fun y a e => ?_, F.inj, F.has, fun y k u at' => ?_⟩
    · obtain ⟨q, v, w⟩ := F.cells y a e
      exact ⟨q, v, cellKeep y a v e w⟩
    · have ky := F.kindOf (mem_fst at')
      rcases p.at F.nodup at' with ⟨rfl, rfl⟩ | ⟨ne, at''⟩
      · rw [hk] at ky; cases ky
        exact ⟨val, ⟨_, hn, if_pos rfl⟩, Rv.mono mo _ r⟩
      · obtain ⟨vy, q, ry⟩ := F.vars y k u at''
        refine ⟨vy, ?_, Rv.mono mo _ ry⟩
        cases k with
        | «local» =>
          obtain ⟨m2, q1, q2⟩ := q
          refine ⟨_, hn, ?_⟩
          show (if y = x then _ else m y) = _
          rw [if_neg ne]
          obtain ⟨o1, es1, ep1, g1, g2, g3, g4⟩ := q1
          obtain ⟨o2, es2, ep2, f1, f2, f3, f4⟩ := ns
          rw [g1] at f1; cases f1; rw [g2] at f2; cases f2
          rw [← f4, g4]; exact q2
        | cell => obtain ⟨a, q1, q2⟩ := q; exact ⟨a, q1, cellKeep y a _ q1 q2⟩
        | free => obtain ⟨a, q1, q2⟩ := q; exact ⟨a, q1, cellKeep y a _ q1 q2⟩
        | globalImplicit => exact q
        | globalExplicit => exact q
  · -- a cell
    have hk := F.kindOf mx
    obtain ⟨a, ea⟩ := Option.isSome_iff_exists.mp (F.has x .cell mx (.inl rfl))
    obtain ⟨pa, v₀, ca⟩ := F.cells x a ea
    refine wpAny_storeName_cell F.kind hk ea ca fun h' hc hs => ?_
    obtain ⟨o', e', d'⟩ := id hc
    have mo : Mono pr η s.heap η pr h' := Mono.of_but hs pa
    refine h _ (I.but (t := s.toks) hs pa ⟨o', e', fun vs q => by rw [d'] at q; cases q⟩) ?_ (Step.of_but hs (.inr ⟨x, .head _, ea⟩) fun _ => by rw [e']; rfl) fun u y r => Rv.mono mo u r
    have nsKeep : ∀ m, s.heap.Ns env.locals m → h'.Ns env.locals m := fun m q => q.sameBut hs (fun q => cellNe x a ea q.symm)
    refine ⟨F.kind, F.names, F.nodup, F.globals, F.builtins, ⟨_, nsKeep _ ns⟩, F.nsp, fun y b e => ?_, F.inj, F.has, fun y k u at' => ?_⟩
    · obtain ⟨q, v, w⟩ := F.cells y b e
      by_cases eq : b = a
      · subst eq; exact ⟨q, _, hc⟩
      · exact ⟨q, v, w.sameBut hs eq⟩
    · have ky := F.kindOf (mem_fst at')
      rcases p.at F.nodup at' with ⟨rfl, rfl⟩ | ⟨ne, at''⟩
      · rw [hk] at ky; cases ky
        exact ⟨val, ⟨a, ea, hc⟩, Rv.mono mo _ r⟩
      · obtain ⟨vy, q, ry⟩ := F.vars y k u at''
        refine ⟨vy, ?_, Rv.mono mo _ ry⟩
        have other : ∀ b v, env.cells.lookup y = some b → s.heap.IsCell b v → h'.IsCell b v := fun b v e w => w.sameBut hs fun q => ne (F.inj y x a (q ▸ e) ea)
        cases k with
        | «local» => obtain ⟨m2, q1, q2⟩ := q; exact ⟨m2, nsKeep _ q1, q2⟩
        | cell => obtain ⟨b, q1, q2⟩ := q; exact ⟨b, q1, other b _ q1 q2⟩
        | free => obtain ⟨b, q1, q2⟩ := q; exact ⟨b, q1, other b _ q1 q2⟩
        | globalImplicit => exact q
        | globalExplicit => exact q
end
end Mine

namespace Mine
open PySem PyProof.Rows

/-- one statement -/
noncomputable def SX (c : Cx) (d : Nat) (hd : Bool) (nm : List (Str × NameKind)) (σ : List (Option V)) (η : Hp) (st : Stmt) (N : List (Option V) → Hp → Prop) (R : V → Hp → Prop) (X : Addr → Hp → Prop) : Prop :=
  ∀ A env s pr outer, Ok d hd A → Inv c η pr A s → FrameR c s.heap η pr nm env σ → A.frames = some (env :: outer) → env.frame = some env.locals →
    wpAny c.M A (exec st env) (FPost c A pr nm env η s.heap N R) (Exc c A (ownOf env) pr η s.heap X) s

noncomputable abbrev noX : Addr → Hp → Prop := fun _ _ => False

section
variable {c : Cx} {A : Around} {ow pr : Pr} {η η' η₁ : Hp} {s s' : Shared} {d : Nat} {hd : Bool} {nm : List (Str × NameKind)} {σ σ' : List (Option V)} {env : Env} {outer : List Env}
  {Q R R' : V → Hp → Prop} {B : Bool → Hp → Prop} {X X' : Addr → Hp → Prop} {N N' : List (Option V) → Hp → Prop} {v w : V} {x : Str} {pos : Pos} {h₀ h₁ h' : Heap} {rest : List Stmt}

theorem ownX_of {xs : List Str} : ∀ b, ownX env xs b → ownOf env b := fun b q => q.imp id fun ⟨x, _, e⟩ => ⟨x, e⟩
theorem FPost.older {f : Flow} (st : Step A (ownOf env) η h₀ η₁ h₁) (p : FPost c A pr nm env η₁ h₁ N R f s') : FPost c A pr nm env η h₀ N R f s' := by
  cases f with
  | next => obtain ⟨σ', η', q, I, F, st'⟩ := p; exact ⟨σ', η', q, I, F, st.trans st'⟩
  | ret r => exact Post.older st p
  | brk => exact p
  | cont => exact p
theorem FPost.mono {f : Flow} (p : FPost c A pr nm env η h₀ N R f s') (kn : ∀ σ' η', N σ' η' → N' σ' η') (kr : ∀ v η', R v η' → R' v η') : FPost c A pr nm env η h₀ N' R' f s' := by
  cases f with
  | next => obtain ⟨σ', η', q, r⟩ := p; exact ⟨σ', η', kn _ _ q, r⟩
  | ret r => exact Post.mono p kr
  | brk => exact p
  | cont => exact p
theorem SS.mono {b : List Stmt} (p : SS c d hd nm σ η b N R X) (kn : ∀ σ' η', N σ' η' → N' σ' η') (kr : ∀ v η', R v η' → R' v η') (kx : ∀ C η', X C η' → X' C η') : SS c d hd nm σ η b N' R' X' :=
  fun A env s pr outer o I F h1 h2 => wpAny_mono (p A env s pr outer o I F h1 h2) (fun _ _ q => q.mono kn kr) fun _ _ q => q.mono kx

theorem Step.own {η' : Hp} (st : Step A noOwn η h₀ η' h') : Step A ow η h₀ η' h' := st.weak fun _ q => q.elim
theorem SS.nil (q : N σ η) : SS c d hd nm σ η [] N R X := fun A env s pr outer o I F h1 h2 => wpAny_execs_nil ⟨σ, η, q, I, F, Step.refl ..⟩
theorem SS.cons {st : Stmt} (p : SX c d hd nm σ η st (fun σ' η' => SS c d hd nm σ' η' rest N R X) R X) : SS c d hd nm σ η (st :: rest) N R X :=
  fun A env s pr outer o I F h1 h2 => wpAny_execs_cons (wpAny_mono (p A env s pr outer o I F h1 h2) (fun f s₁ q => by
    cases f with
    | next =>
      obtain ⟨σ', η', q, I', F', st⟩ := q
      exact wpAny_mono (q A env s₁ pr outer o I' F' h1 h2) (fun _ _ e => e.older st) fun _ _ e => e.older st
    | ret r => exact q
    | brk => exact q
    | cont => exact q) fun _ _ e => e)

theorem SX.ret {e : Expr} (p : SE c d hd nm σ η e R X) : SX c d hd nm σ η (.Return (some e) pos) N R X :=
  fun A env s pr outer o I F h1 h2 => wpAny_Return_some (wpAny_mono (p A env s pr o I F) (fun _ _ e => e.weak fun _ q => q.elim) fun _ _ e => e.weak fun _ q => q.elim)
theorem SS.ret {e : Expr} (p : SE c d hd nm σ η e R X) : SS c d hd nm σ η (.Return (some e) pos :: rest) N R X := SS.cons (SX.ret p)
theorem SX.if {t : Expr} {a b : List Stmt} (p : ST c d hd nm σ η t (fun u η₁ => if u then SS c d hd nm σ η₁ a N R X else SS c d hd nm σ η₁ b N R X) X) : SX c d hd nm σ η (.If t a b pos) N R X :=
  fun A env s pr outer o I F h1 h2 => wpAny_If (wpAny_mono (p A env s pr o I F) (fun u s₁ ⟨η₁, q, I₁, st⟩ => by
    cases u <;> exact wpAny_mono (q A env s₁ pr outer o I₁ (F.step I st) h1 h2) (fun _ _ e => e.older st.own) fun _ _ e => e.older st.own) fun _ _ e => e.weak fun _ q => q.elim)
theorem SS.if {t : Expr} {a b : List Stmt} (p : ST c d hd nm σ η t (fun u η₁ => if u then SS c d hd nm σ η₁ a (fun σ' η' => SS c d hd nm σ' η' rest N R X) R X else SS c d hd nm σ η₁ b (fun σ' η' => SS c d hd nm σ' η' rest N R X) R X) X) :
    SS c d hd nm σ η (.If t a b pos :: rest) N R X := SS.cons (SX.if p)

theorem noInter (F : FrameR c h₀ η pr nm env σ) : interactive env = false := by unfold interactive; rw [F.kind]; rfl

theorem SX.expr {e : Expr} (p : SE c d hd nm σ η e (fun _ η' => N σ η') X) (hs : ∀ env, swapsWith e none pos.line env = pure false := by intro _; with_unfolding_all rfl) : SX c d hd nm σ η (.Expr e pos) N R X :=
  fun A env s pr outer o I F h1 h2 => wpAny_Expr_any (wpAny_mono (p A env s pr o I F) (fun _ s₁ ⟨v, η₁, q, I₁, _, st⟩ => ⟨σ, η₁, q, I₁, F.step I st, st.own⟩) fun _ _ e => e.weak fun _ q => q.elim) (noInter F) (hs env)
theorem SS.expr {e : Expr} (p : SE c d hd nm σ η e (fun _ η' => SS c d hd nm σ η' rest N R X) X) (hs : ∀ env, swapsWith e none pos.line env = pure false := by intro _; with_unfolding_all rfl) : SS c d hd nm σ η (.Expr e pos :: rest) N R X := SS.cons (SX.expr p hs)

theorem SX.assign {e : Expr} {px : Pos} (p : SE c d hd nm σ η e (fun v η₁ => ∃ σ', Put nm σ x v σ' ∧ N σ' η₁) X) (hs : ∀ env, swapsWith e (some (.Name x px)) pos.line env = pure false := by intro _; with_unfolding_all rfl) :
    SX c d hd nm σ η (.Assign [.Name x px] e pos) N R X :=
  fun A env s pr outer o I F h1 h2 => wpAny_Assign_Name (wpAny_mono (p A env s pr o I F) (fun y s₁ ⟨v, η₁, ⟨σ', pt, q⟩, I₁, rv, st⟩ =>
    store_var I₁ (F.step I st) pt rv fun s₂ I₂ F₂ st₂ _ => ⟨σ', η₁, q, I₂, F₂, st.own.trans (st₂.weak ownX_of)⟩) fun _ _ e => e.weak fun _ q => q.elim) (hs env)
theorem SS.assign {e : Expr} {px : Pos} (p : SE c d hd nm σ η e (fun v η₁ => ∃ σ', Put nm σ x v σ' ∧ SS c d hd nm σ' η₁ rest N R X) X) (hs : ∀ env, swapsWith e (some (.Name x px)) pos.line env = pure false := by intro _; with_unfolding_all rfl) :
    SS c d hd nm σ η (.Assign [.Name x px] e pos :: rest) N R X := SS.cons (SX.assign p hs)

noncomputable def star? : Expr → Bool
  | .Starred .. => true
  | _ => false
theorem starEach_cons {e : Expr} {es : List Expr} (h : star? e = false) : starEach (e :: es) env = (false, eval e env) :: starEach es env := by
  cases e <;> first | rfl | cases h

theorem SL.nil {Q : List V → Hp → Prop} (q : Q [] η) : SL c d hd nm σ η [] Q X := fun A env s pr pos o I F => wpAny_items_nil ⟨[], η, q, I, rfl, Step.refl ..⟩
theorem SL.cons {e : Expr} {es : List Expr} {Q : List V → Hp → Prop} (p : SE c d hd nm σ η e (fun v η₁ => SL c d hd nm σ η₁ es (fun vs η₂ => Q (v :: vs) η₂) X) X) (hs : star? e = false := by with_unfolding_all rfl) : SL c d hd nm σ η (e :: es) Q X :=
  fun A env s pr pos o I F => wpAny_items_cons (wpAny_mono (p A env s pr o I F) (fun y s₁ ⟨v, η₁, q, I₁, rv, st⟩ => wpAny_mono (q A env s₁ pr pos o I₁ (F.step I st)) (fun ys s₂ ⟨vs, η₂, q₂, I₂, rvs, st₂⟩ =>
    ⟨v :: vs, η₂, q₂, I₂, ⟨y, ys, rfl, rv.step I₁ st₂, rvs⟩, st.trans st₂⟩) fun _ _ e => e.older st) fun _ _ e => e) (starEach_cons hs)

/-- a new frozen object -/
theorem Rvs.fresh {vs : List V} {xs : List Value} (I : Inv c η pr A s) : η s.heap.objs.size = none ∧ ¬ pr s.heap.objs.size := by
  refine ⟨?_, fun p => ?_⟩
  · cases q : η s.heap.objs.size with
    | none => rfl
    | some m => obtain ⟨ob, e, _⟩ := (I.hrel _ m q).nofields; exact absurd (Heap.lt_size e) (Nat.lt_irrefl _)
  · obtain ⟨ob, e⟩ := Option.isSome_iff_exists.mp (I.privs _ p).1
    exact absurd (Heap.lt_size e) (Nat.lt_irrefl _)
theorem new_tup {vs : List V} {xs : List Value} {t : Nat} {own : Pr} (I : Inv c η pr A s) (z : vs.length ≤ sizeLine) (r : Rvs c.P s.heap η pr vs xs) (q : Q (.tup vs) η) :
    Post c A own pr η s.heap Q (.ref s.heap.objs.size) { s with heap := s.heap.push { cls := .type "tuple", data := .seq xs.toArray }, toks := t } :=
  Post.pure (v := .tup vs) I (fun _ _ e => Heap.get?_push_of_some _ e) ⟨_, xs, _, rfl, Heap.get?_push_size _ rfl, Rvs.fresh (vs := vs) (xs := xs) I, z, r.keeps fun _ _ e => Heap.get?_push_of_some _ e⟩ q
theorem new_lst {vs : List V} {xs : List Value} {t : Nat} {own : Pr} (I : Inv c η pr A s) (z : vs.length ≤ sizeLine) (r : Rvs c.P s.heap η pr vs xs) (q : Q (.lst vs) η) :
    Post c A own pr η s.heap Q (.ref s.heap.objs.size) { s with heap := s.heap.push { cls := .type "list", data := .seq xs.toArray }, toks := t } :=
  Post.pure (v := .lst vs) I (fun _ _ e => Heap.get?_push_of_some _ e) ⟨_, xs, _, rfl, Heap.get?_push_size _ rfl, Rvs.fresh (vs := vs) (xs := xs) I, z, r.keeps fun _ _ e => Heap.get?_push_of_some _ e⟩ q

theorem SE.tup {es : List Expr} {k : Nat} (p : SL c d hd nm σ η es (fun vs η₁ => vs.length ≤ sizeLine ∧ Q (.tup vs) η₁) X) : SE c d hd nm σ η (.Tuple es k pos) Q X :=
  fun A env s pr o I F => wpAny_Tuple (wpAny_mono (p A env s pr pos o I F) (fun xs s₁ ⟨vs, η₁, ⟨hl, q⟩, I₁, r, st⟩ => ⟨by rw [rvs_length r]; exact hl, (new_tup I₁ hl r q).older st⟩) fun _ _ e => e)
theorem SE.lst {es : List Expr} (p : SL c d hd nm σ η es (fun vs η₁ => vs.length ≤ sizeLine ∧ Q (.lst vs) η₁) X) : SE c d hd nm σ η (.List es pos) Q X :=
  fun A env s pr o I F => wpAny_List (wpAny_mono (p A env s pr pos o I F) (fun xs s₁ ⟨vs, η₁, ⟨hl, q⟩, I₁, r, st⟩ => ⟨by rw [rvs_length r]; exact hl, (new_lst I₁ hl r q).older st⟩) fun _ _ e => e)

/-- a tuple's items are handed out -/
theorem unpack_tup {vs : List V} {y : Value} {QQ : List Value → Shared → Prop} {E : Value → Shared → Prop} {n : Nat} (o : Ok d true A) (I : Inv c η pr A s) (r : Rv c.P s.heap η pr (.tup vs) y) (hn : vs.length = n)
    (h : ∀ s' xs, Inv c η pr A s' → Rvs c.P s'.heap η pr vs xs → Step A noOwn η s.heap η s'.heap → (∀ u y, Rv c.P s.heap η pr u y → Rv c.P s'.heap η pr u y) → (∀ nm env σ, FrameR c s.heap η pr nm env σ → FrameR c s'.heap η pr nm env σ) → QQ xs s') :
    wpAny c.M A (unpackItems y n none) QQ E s := by
  unfold Rv at r
  obtain ⟨a, xs, nn, rfl, ht, ⟨ha, hpa⟩, z, rs⟩ := r
  have hl := rvs_length rs
  have : n = xs.toArray.size := by simp [hl, hn]
  subst this
  refine PyProof.Rows.unpackItems_tuple (o.handled rfl) ⟨_, ht, rfl, _, rfl⟩ fun h' ex => ?_
  have k : ∀ b ob, s.heap.get? b = some ob → h'.get? b = some ob := fun b ob e => ex b ob (Nat.ne_of_lt (Heap.lt_size e)) e
  exact h _ _ (I.grow k s.toks) (rs.keeps k) (Step.of_keeps k) (fun u y r => r.keeps k) fun nm env σ F => F.keeps k

/-- the exchange of two names -/
theorem SX.swap {x y : Str} {px py tp vp : Pos} {e₁ e₂ : Expr} {k kv : Nat} (m1 : (x, NameKind.local) ∈ nm) (m2 : (y, NameKind.local) ∈ nm) (hne : (x == y) = false)
    (p : SE c d true nm σ η e₁ (fun v η₁ => SE c d true nm σ η₁ e₂ (fun w η₂ => ∃ σ₁ σ₂, Put nm σ y w σ₁ ∧ Put nm σ₁ x v σ₂ ∧ N σ₂ η₂) X) X)
    (hl : (py.line == px.line) = true := by with_unfolding_all rfl) (hs1 : star? e₁ = false := by with_unfolding_all rfl) (hs2 : star? e₂ = false := by with_unfolding_all rfl) (hf : (foldedForSure 8 e₁ && foldedForSure 8 e₂) = false := by with_unfolding_all rfl) (hc : (constantsAlone 8 e₁ && constantsAlone 8 e₂) = false := by with_unfolding_all rfl) :
    SX c d true nm σ η (.Assign [.Tuple [.Name x px, .Name y py] k tp] (.Tuple [e₁, e₂] kv vp) pos) N R X := by
  intro A env s pr outer o I F h1 h2
  have hw : swappedStores [.Tuple [.Name x px, .Name y py] k tp] (.Tuple [e₁, e₂] kv vp) env = pure (some [x, y]) := by
    have k1 := F.kindOf m1
    have k2 := F.kindOf m2
    have kb : env.blockKind = .function := by unfold Env.blockKind; rw [F.kind]; rfl
    unfold swappedStores
    have l1 : (px.line == px.line) = true := by simp
    have l2 : ((Expr.Name x px).pos.line) = px.line := rfl
    have hne' : (y == x) = false := by rw [beq_eq_false_iff_ne] at hne ⊢; exact fun q => hne q.symm
    simp only [List.any_cons, List.any_nil, Bool.or_false, k1, k2, kb, List.length_cons, List.length_nil, List.head?_cons, Option.map_some, Option.getD_some, l2, List.filterMap_cons, List.filterMap_nil, hl, l1, beq_self_eq_true, Bool.and_true,
      if_true, List.all_cons, List.all_nil, hf, hc, Bool.false_eq_true, if_false, List.eraseDups_cons, List.filter_cons, List.filter_nil, hne', Bool.not_false, List.eraseDups_nil, bne_self_eq_false, Bool.true_or, Bool.not_true]
    refine if_neg fun q => ?_
    rcases Bool.or_eq_true_iff.mp q with q | q
    · cases e₁ <;> first | (cases q; done) | (cases hs1; done)
    · cases e₂ <;> first | (cases q; done) | (cases hs2; done)
  refine PyProof.Rows.Assign_Tuple_swapped (names := [x, y]) ?_ rfl hw
  refine wpAny_Tuple (wpAny_items_cons (wpAny_mono (p A env s pr o I F) (fun a s₁ ⟨v, η₁, q, I₁, rv, st⟩ => wpAny_items_cons (wpAny_mono (q A env s₁ pr o I₁ (F.step I st)) (fun b s₂ ⟨w, η₂, q₂, I₂, rw', st₂⟩ => wpAny_items_nil ?_)
    (fun _ _ e => (e.older st).weak fun _ q => q.elim)) (starEach_cons hs2)) fun _ _ e => e.weak fun _ q => q.elim) (starEach_cons hs1))
  refine ⟨(by show 2 ≤ sizeLine; decide), ?_⟩
  have rvs : Rvs c.P s₂.heap η₂ pr [v, w] [a, b] := ⟨a, [b], rfl, rv.step I₁ st₂, b, [], rfl, rw', rfl⟩
  obtain ⟨tv, ηt, ⟨rfl, rfl⟩, I₃, r₃, st₃⟩ := new_tup (t := s₂.toks) (own := noOwn) (Q := fun u η' => u = .tup [v, w] ∧ η' = η₂) I₂ (by show 2 ≤ sizeLine; decide) rvs ⟨rfl, rfl⟩
  refine unpack_tup o I₃ r₃ rfl fun s₄ xs I₄ rs₄ st₄ _ fr => ?_
  obtain ⟨a', xs', rfl, ra, b', _, rfl, rb, rfl⟩ := rs₄
  obtain ⟨σ₁, σ₂, p1, p2, q₃⟩ := q₂
  have F₄ := fr nm env σ (((F.step I st).step I₁ st₂).step I₂ st₃)
  show wpAny c.M A (assignInOrder [bindName env y, bindName env x] [b', a']) _ _ s₄
  refine wpAny_assignInOrder_more (wpAny_bindName (store_var I₄ F₄ p1 rb fun s₅ I₅ F₅ st₅ mv => ?_))
  refine wpAny_assignInOrder_more (wpAny_bindName (store_var I₅ F₅ p2 (mv _ _ ra) fun s₆ I₆ F₆ st₆ _ => wpAny_assignInOrder_none ?_))
  exact ⟨σ₂, _, q₃, I₆, F₆, ((((st.trans st₂).trans st₃).trans st₄).own.trans (st₅.weak ownX_of)).trans (st₆.weak ownX_of)⟩
theorem SS.swap {x y : Str} {px py tp vp : Pos} {e₁ e₂ : Expr} {k kv : Nat} (m1 : (x, NameKind.local) ∈ nm) (m2 : (y, NameKind.local) ∈ nm) (hne : (x == y) = false)
    (p : SE c d true nm σ η e₁ (fun v η₁ => SE c d true nm σ η₁ e₂ (fun w η₂ => ∃ σ₁ σ₂, Put nm σ y w σ₁ ∧ Put nm σ₁ x v σ₂ ∧ SS c d true nm σ₂ η₂ rest N R X) X) X)
    (hl : (py.line == px.line) = true := by with_unfolding_all rfl) (hs1 : star? e₁ = false := by with_unfolding_all rfl) (hs2 : star? e₂ = false := by with_unfolding_all rfl) (hf : (foldedForSure 8 e₁ && foldedForSure 8 e₂) = false := by with_unfolding_all rfl) (hc : (constantsAlone 8 e₁ && constantsAlone 8 e₂) = false := by with_unfolding_all rfl) :
    SS c d true nm σ η (.Assign [.Tuple [.Name x px, .Name y py] k tp] (.Tuple [e₁, e₂] kv vp) pos :: rest) N R X := SS.cons (SX.swap m1 m2 hne p hl hs1 hs2 hf hc)
end
end Mine

namespace Mine
open PySem PyProof.Rows

/-- a while of at most so many tests -/
noncomputable def WhileN (c : Cx) (d : Nat) (hd : Bool) (nm : List (Str × NameKind)) (t : Expr) (body : List Stmt) (N : List (Option V) → Hp → Prop) (R : V → Hp → Prop) : Nat → List (Option V) → Hp → Prop
  | 0, _, _ => False
  | n + 1, σ, η => ST c d hd nm σ η t (fun b η₁ => if b then SS c d hd nm σ η₁ body (fun σ' η' => WhileN c d hd nm t body N R n σ' η') R noX else N σ η₁) noX

section
variable {c : Cx} {A : Around} {pr : Pr} {η η' η₁ : Hp} {s s' : Shared} {d : Nat} {hd : Bool} {nm : List (Str × NameKind)} {σ σ' : List (Option V)} {env : Env} {outer : List Env}
  {Q R R' : V → Hp → Prop} {B : Bool → Hp → Prop} {X X' : Addr → Hp → Prop} {N N' : List (Option V) → Hp → Prop} {v w : V} {x : Str} {pos : Pos} {h₀ h₁ h' : Heap} {rest : List Stmt}

theorem Exc.absurd {own : Pr} {r : Value} (p : Exc c A own pr η h₀ noX r s') {P : Prop} : P := by
  obtain ⟨_, _, _, _, x, _⟩ := p; exact x.elim

theorem SX.while {t : Expr} {body : List Stmt} {n : Nat} (p : WhileN c d hd nm t body N R n σ η) : SX c d hd nm σ η (.While t body [] pos) N R X := by
  intro A env s pr outer o I F h1 h2
  refine wpAny_While (codeAny_whileLoop (fun m s' => ∃ σ' η', WhileN c d hd nm t body N R m σ' η' ∧ Inv c η' pr A s' ∧ FrameR c s'.heap η' pr nm env σ' ∧ Step A (ownOf env) η s.heap η' s'.heap) ?_ n ⟨σ, η, p, I, F, Step.refl ..⟩)
  rintro m s₁ ⟨σ₁, η₁, p₁, I₁, F₁, st₁⟩
  cases m with
  | zero => exact p₁.elim
  | succ m =>
    refine wpAny_mono (p₁ A env s₁ pr o I₁ F₁) (fun b s₂ ⟨η₂, q, I₂, st₂⟩ => ?_) fun _ _ e => e.absurd
    cases b with
    | false => exact wpAny_execs_nil ⟨σ₁, η₂, q, I₂, F₁.step I₁ st₂, st₁.trans st₂.own⟩
    | true =>
      refine wpAny_mono (q A env s₂ pr outer o I₂ (F₁.step I₁ st₂) h1 h2) (fun f s₃ q₃ => ?_) fun _ _ e => e.absurd
      cases f with
      | next => obtain ⟨σ₃, η₃, q, I₃, F₃, st₃⟩ := q₃; exact ⟨m, Nat.lt_succ_self _, σ₃, η₃, q, I₃, F₃, (st₁.trans st₂.own).trans st₃⟩
      | ret r => exact Post.older (st₁.trans st₂.own) q₃
      | brk => exact q₃.elim
      | cont => exact q₃.elim
theorem SS.while {t : Expr} {body : List Stmt} (p : ∃ n, WhileN c d hd nm t body (fun σ' η' => SS c d hd nm σ' η' rest N R X) R n σ η) : SS c d hd nm σ η (.While t body [] pos :: rest) N R X :=
  let ⟨_, p⟩ := p; SS.cons (SX.while p)

/-- what is forgotten of a frame -/
noncomputable def Less : List (Option V) → List (Option V) → Prop
  | [], [] => True
  | o :: σ, o' :: σ' => (o = none ∨ o = o') ∧ Less σ σ'
  | _, _ => False
theorem Less.at {nm : List (Str × NameKind)} {σ σ' : List (Option V)} {x : Str} {k : NameKind} {v : V} (l : Less σ σ') (a : At nm σ x k v) : At nm σ' x k v := by
  induction a generalizing σ' with
  | head =>
    cases σ' with
    | nil => exact l.elim
    | cons o' τ =>
      rcases l.1 with e | e
      · cases e
      · subst e; exact .head
  | tail a ih =>
    cases σ' with
    | nil => exact l.elim
    | cons o' τ => exact .tail (ih l.2)
theorem Less.refl : ∀ (σ : List (Option V)), Less σ σ
  | [] => trivial
  | o :: σ => ⟨.inr rfl, Less.refl σ⟩
theorem FrameR.less (l : Less σ σ') (F : FrameR c h₀ η pr nm env σ') : FrameR c h₀ η pr nm env σ :=
  ⟨F.kind, F.names, F.nodup, F.globals, F.builtins, F.ns, F.nsp, F.cells, F.inj, F.has, fun x k v a => F.vars x k v (l.at a)⟩
theorem SS.forget {b : List Stmt} (l : Less σ σ') (p : SS c d hd nm σ η b N R X) : SS c d hd nm σ' η b N R X :=
  fun A env s pr outer o I F h1 h2 => p A env s pr outer o I (F.less l) h1 h2
-- calls
theorem evalArgs_SL {es : List Expr} {f : Value} {QQ : Args → Shared → Prop} {PE : Value → Shared → Prop} {K : List V → Hp → Prop} (p : SL c d hd nm σ η es K X) (o : Ok d hd A) (I : Inv c η pr A s) (F : FrameR c s.heap η pr nm env σ) (hs : es.any star? = false)
    (h : ∀ vs η₁ s₁ xs, K vs η₁ → Inv c η₁ pr A s₁ → Rvs c.P s₁.heap η₁ pr vs xs → Step A noOwn η s.heap η₁ s₁.heap → QQ ⟨xs, []⟩ s₁) (hx : ∀ e s', Exc c A noOwn pr η s.heap X e s' → PE e s') :
    wpAny c.M A (evalArgs f true (backTo pos (starEach es env)) []) QQ PE s := by
  have key := p A env s pr pos o I F
  have fin : wpAny c.M A (spliced (backTo pos (starEach es env))) (fun xs s₁ => QQ ⟨xs, []⟩ s₁) PE s := wpAny_mono key (fun xs s₁ ⟨vs, η₁, q, I₁, r, st⟩ => h vs η₁ s₁ xs q I₁ r st) hx
  cases es with
  | nil =>
    show wpAny c.M A (evalArgs f true [] []) QQ PE s
    unfold evalArgs
    refine wpAny_bind (wpAny_mono fin (fun vs s' h' => wpAny_bind (wpAny_pure (wpAny_holding (wpAny_bind (wpAny_pure (wpAny_bind (wpAny_pure (wpAny_pure h')))))))) fun _ _ x => x)
  | cons e es =>
    simp only [List.any_cons, Bool.or_eq_false_iff] at hs
    rw [starEach_cons hs.1] at fin ⊢
    exact Calls.evalArgs_plain fin

/-- a def, a built-in function, a built-in type -/
noncomputable def Callee (c : Cx) (f : Value) : Prop := (∃ id, f = .builtin id) ∨ (∃ T, f = .type T) ∨ ∃ a o fd, f = .ref a ∧ c.base.get? a = some o ∧ o.data = .func fd

theorem noStar {es : List Expr} (hs : es.any star? = false) : (backTo pos (starEach es env)).any (·.1) = false := by
  induction es with
  | nil => rfl
  | cons e es ih =>
    simp only [List.any_cons, Bool.or_eq_false_iff] at hs
    rw [starEach_cons hs.1]
    show ((false, _) :: backTo pos (starEach es env)).any (·.1) = false
    rw [List.any_cons, ih hs.2]; rfl

theorem callWith_type {M : Model} {E : Value → Shared → Prop} {pos : Pos} {T : String} {first : List Value} {args : List (Bool × Sem Value)} {Q : Value → Shared → Prop} (hplain : args.any (·.1) = false)
    (h : wpAny M A (evalArgs (.type T) true args []) (fun a s₁ => wpAny M A (call (.type T) (first ++ a.pos) a.kw) Q E s₁) E s) :
    wpAny M A (callWith pos (.type T) first args []) Q E s := by
  unfold callWith
  refine wpAny_bind (wpAny_holding (wpAny_mono h (fun a s₁ h₁ => wpAny_bind (wpAny_standAt ?_)) fun _ _ x => x))
  simp only [hplain, List.any_nil, Bool.or_false]
  refine wpAny_bind (wpAny_pure ?_)
  exact wpAny_bind (wpAny_mono h₁ (fun r s₂ hr => wpAny_bind (wpAny_holding (wpAny_point (wpAny_pure hr)))) fun _ _ x => x)

theorem callWith_SL {es : List Expr} {f : Value} {first : List Value} {PQ PE : Value → Shared → Prop} {K : List V → Hp → Prop} (cf : Callee c f) (p : SL c d hd nm σ η es K X) (o : Ok d hd A) (I : Inv c η pr A s) (F : FrameR c s.heap η pr nm env σ) (hs : es.any star? = false)
    (h : ∀ vs η₁ s₁ xs, K vs η₁ → Inv c η₁ pr A s₁ → Rvs c.P s₁.heap η₁ pr vs xs → Step A noOwn η s.heap η₁ s₁.heap → wpAny c.M A (call f (first ++ xs)) PQ PE s₁) (hx : ∀ e s', Exc c A noOwn pr η s.heap X e s' → PE e s') :
    wpAny c.M A (callWith pos f first (backTo pos (starEach es env)) []) PQ PE s := by
  rcases cf with ⟨id, rfl⟩ | ⟨T, rfl⟩ | ⟨a, ob, fd, rfl, hb, hdt⟩
  · exact Calls.callWith_builtin (noStar hs) (evalArgs_SL p o I F hs h hx)
  · exact callWith_type (noStar hs) (evalArgs_SL p o I F hs h hx)
  · exact Calls.callWith_function (evalArgs_SL p o I F hs (fun vs η₁ s₁ xs q I₁ r st => ⟨⟨I₁.stays _ _ hb, hdt⟩, h vs η₁ s₁ xs q I₁ r st⟩) hx)

/-- a call by name -/
theorem SE.call {f : Str} {fp : Pos} {es : List Expr} {g : Value} (m : (f, NameKind.globalImplicit) ∈ nm) (gl : Glob c f g) (cf : Callee c g) (p : SL c d hd nm σ η es (fun vs η₁ => SC c d hd g vs η₁ Q X) X)
    (hs : es.any star? = false := by with_unfolding_all rfl) (hn : (f == ("__debug__" : Str)) = false := by decide +kernel) : SE c d hd nm σ η (.Call (.Name f fp) es [] pos) Q X := by
  intro A env s pr o I F
  refine wpAny_Call_ofName (wpAny_mono (SE.glob (Q := fun v η' => v = .glob g ∧ η' = η) (X := X) m gl ⟨rfl, rfl⟩ hn A env s pr o I F) (fun x s₁ hq => ?_) fun _ _ e => e)
  obtain ⟨v, η₁, ⟨rfl, e⟩, I₁, rv, st⟩ := hq
  subst e
  unfold Rv at rv; subst rv
  refine callWith_SL (first := []) cf p o I₁ (F.step I st) hs (fun vs η₂ s₂ xs q I₂ r st₂ => ?_) fun _ _ e => e.older st
  exact wpAny_mono (q A s₂ pr xs o I₂ r) (fun _ _ e => e.older (st.trans st₂)) fun _ _ e => e.older (st.trans st₂)
end
end Mine

namespace Mine
open PySem PyProof.Rows PySem.W

structure Wd (c : Cx) (K : Params → Frag) (gt bt : List (Str × Value)) : Prop where
  kin : (K c.P).In c.base
  glob : ∀ p ∈ gt, c.mg p.1 = some p.2
  bi : ∀ p ∈ bt, c.mg p.1 = none ∧ c.mb p.1 = some p.2

noncomputable def gtOk (K : Frag) (gt : List (Str × Value)) : Bool := gt.all fun p => nsIn K mainGlobals p.1 == some (some p.2)
noncomputable def btOk (K : Frag) (bt : List (Str × Value)) : Bool := bt.all fun p => nsIn K mainGlobals p.1 == some none
noncomputable def btOk' (bt : List (Str × Value)) : Bool := bt.all fun p => bootBuiltins p.1 == some p.2 && p.1 != ("__name__" : Str)
theorem Wd.of {c : Cx} {K : Params → Frag} {gt bt : List (Str × Value)} (kin : (K c.P).In c.base) (h1 : gtOk (K c.P) gt = true) (h2 : btOk (K c.P) bt = true) (h3 : btOk' bt = true) (hb : ∀ x : Str, x ≠ "__name__" → c.mb x = bootBuiltins x) : Wd c K gt bt := by
  refine ⟨kin, fun p m => ?_, fun p m => ?_⟩
  · exact mg_of kin c.g (beq_iff_eq.mp (List.all_eq_true.mp h1 p m))
  · have e1 := beq_iff_eq.mp (List.all_eq_true.mp h2 p m)
    have e2 := List.all_eq_true.mp h3 p m
    simp only [Bool.and_eq_true, beq_iff_eq, bne_iff_ne, ne_eq] at e2
    exact ⟨mg_none_of kin c.g e1, (hb p.1 e2.2).trans e2.1⟩

section
variable {c : Cx} {K : Params → Frag} {gt bt : List (Str × Value)} {η : Hp} {d : Nat} {hd : Bool} {nm : List (Str × NameKind)} {σ : List (Option V)}
  {Q R : V → Hp → Prop} {X : Addr → Hp → Prop} {v w : V} {x : Str} {pos : Pos}

theorem Wd.g (W : Wd c K gt bt) {g : Value} (m : (x, g) ∈ gt) : Glob c x g := .inl (W.glob _ m)
theorem Wd.b (W : Wd c K gt bt) {g : Value} (m : (x, g) ∈ bt) : Glob c x g := .inr (W.bi _ m)

theorem SE.gname (W : Wd c K gt bt) {g : Value} (m : (x, NameKind.globalImplicit) ∈ nm) (mg : (x, g) ∈ gt) (q : Q (.glob g) η) (hn : (x == ("__debug__" : Str)) = false := by decide +kernel) : SE c d hd nm σ η (.Name x pos) Q X := SE.glob m (W.g mg) q hn
theorem SE.bname (W : Wd c K gt bt) {g : Value} (m : (x, NameKind.globalImplicit) ∈ nm) (mg : (x, g) ∈ bt) (q : Q (.glob g) η) (hn : (x == ("__debug__" : Str)) = false := by decide +kernel) : SE c d hd nm σ η (.Name x pos) Q X := SE.glob m (W.b mg) q hn

/-- a def of the top is called -/
theorem SE.gcall (W : Wd c K gt bt) {f : Str} {fp : Pos} {es : List Expr} {a : Addr} (m : (f, NameKind.globalImplicit) ∈ nm) (mg : (f, .ref a) ∈ gt) (hf : fnIn (K c.P) a = true)
    (p : SL c d hd nm σ η es (fun vs η₁ => SC c d hd (.ref a) vs η₁ Q X) X) (hs : es.any star? = false := by with_unfolding_all rfl) (hn : (f == ("__debug__" : Str)) = false := by decide +kernel) : SE c d hd nm σ η (.Call (.Name f fp) es [] pos) Q X := by
  refine SE.call m (W.g mg) (.inr (.inr ?_)) p hs hn
  unfold fnIn at hf
  split at hf
  · rename_i q; exact ⟨a, _, _, rfl, W.kin _ _ q, rfl⟩
  · cases hf
/-- a built-in function or type is called -/
theorem SE.bcall (W : Wd c K gt bt) {f id : String} {fp : Pos} {es : List Expr} (m : (Str.ofString f, NameKind.globalImplicit) ∈ nm) (mg : (Str.ofString f, .builtin id) ∈ bt)
    (p : SL c d hd nm σ η es (fun vs η₁ => SC c d hd (.builtin id) vs η₁ Q X) X) (hs : es.any star? = false := by with_unfolding_all rfl) (hn : ((Str.ofString f) == ("__debug__" : Str)) = false := by decide +kernel) : SE c d hd nm σ η (.Call (.Name (Str.ofString f) fp) es [] pos) Q X :=
  SE.call m (W.b mg) (.inl ⟨_, rfl⟩) p hs hn
theorem SE.tcall (W : Wd c K gt bt) {f id : String} {fp : Pos} {es : List Expr} (m : (Str.ofString f, NameKind.globalImplicit) ∈ nm) (mg : (Str.ofString f, .type id) ∈ bt)
    (p : SL c d hd nm σ η es (fun vs η₁ => SC c d hd (.type id) vs η₁ Q X) X) (hs : es.any star? = false := by with_unfolding_all rfl) (hn : ((Str.ofString f) == ("__debug__" : Str)) = false := by decide +kernel) : SE c d hd nm σ η (.Call (.Name (Str.ofString f) fp) es [] pos) Q X :=
  SE.call m (W.b mg) (.inr (.inl ⟨_, rfl⟩)) p hs hn

theorem SCc.fn (W : Wd c K gt bt) {a : Addr} {as : List Arg} {body : List Stmt} {vs : List V} {oc kV doc pm cdv ct : Value} {od an : Option Addr} {sl : Array (Option Value)} {name qual : Str} {scope : Scope}
    (ho : (K c.P).lookup a = some ⟨oc, od, .func (fnOf name qual (plainArgs as) body scope .none kV doc pm an cdv ct), sl⟩) (hcd : codeIn (K c.P) cdv qual = true) (htab : tabOk scope.names as = true) (hi : InitR (as.map (·.arg)) vs scope.names σ)
    (hb : SS c d hd scope.names σ η body (fun _ η' => Q .none η') Q X)
    (hl : as.length = vs.length := by with_unfolding_all rfl) (hco : scope.isCoroutine = false := by with_unfolding_all rfl) (hgen : scope.isGenerator = false := by with_unfolding_all rfl) (hk : scope.kind = .function := by with_unfolding_all rfl) : SCc c (d + 1) hd (.ref a) vs η Q X :=
  SCc.enter (W.kin _ _ ho) rfl (codeRec_of W.kin hcd) rfl rfl rfl rfl rfl rfl hco hgen hk htab hl hi hb
end
end Mine

namespace Mine
open PySem PyProof.Rows PySem.W

/-- what isinstance says of a built-in type -/
noncomputable def isiT (T : String) : V → Option Bool
  | .none => if T = "int" ∨ T = "bool" ∨ T = "str" ∨ T = "list" ∨ T = "tuple" then some false else none
  | .bool _ => if T = "int" ∨ T = "bool" then some true else if T = "str" ∨ T = "list" ∨ T = "tuple" then some false else none
  | .int _ => if T = "int" then some true else if T = "bool" ∨ T = "str" ∨ T = "list" ∨ T = "tuple" then some false else none
  | .str _ => if T = "str" then some true else if T = "bool" ∨ T = "int" ∨ T = "list" ∨ T = "tuple" then some false else none
  | .tup _ => if T = "tuple" then some true else if T = "bool" ∨ T = "int" ∨ T = "list" ∨ T = "str" then some false else none
  | .lst _ => if T = "list" then some true else if T = "bool" ∨ T = "int" ∨ T = "tuple" ∨ T = "str" then some false else none
  | .dct _ _ => if T = "bool" ∨ T = "int" ∨ T = "tuple" ∨ T = "str" ∨ T = "list" then some false else none
  | _ => none

section
variable {c : Cx} {A : Around} {pr : Pr} {η η' : Hp} {s : Shared} {d : Nat} {hd : Bool} {nm : List (Str × NameKind)} {σ : List (Option V)} {env : Env}
  {Q R : V → Hp → Prop} {B : Bool → Hp → Prop} {X : Addr → Hp → Prop} {v w : V} {x : Str} {pos : Pos}

theorem rvs1 {P : Params} {h : Heap} {a : V} {xs : List Value} (r : Rvs P h η pr [a] xs) : ∃ y, xs = [y] ∧ Rv P h η pr a y := by
  obtain ⟨y, ys, rfl, ry, e⟩ := r; cases e; exact ⟨y, rfl, ry⟩
theorem rvs2 {P : Params} {h : Heap} {a b : V} {xs : List Value} (r : Rvs P h η pr [a, b] xs) : ∃ y z, xs = [y, z] ∧ Rv P h η pr a y ∧ Rv P h η pr b z := by
  obtain ⟨y, ys, rfl, ry, r⟩ := r; obtain ⟨z, rfl, rz⟩ := rvs1 r; exact ⟨y, z, rfl, ry, rz⟩

theorem Post.tok {r : Value} (I : Inv c η pr A s) (t : Nat) (rv : Rv c.P s.heap η pr v r) (q : Q v η) {own : Pr} : Post c A own pr η s.heap Q r { s with toks := t } := Post.pure (h' := s.heap) I (fun _ _ e => e) rv q

theorem SC.isi {T : String} {b : Bool} (h : isiT T v = some b) (q : Q (.bool b) η) : SC c d hd (.builtin "isinstance") [v, .glob (.type T)] η Q X := by
  intro A s pr xs o I r
  obtain ⟨y, z, rfl, ry, rz⟩ := rvs2 r
  unfold Rv at rz; subst rz
  have p0 : Post c A noOwn pr η s.heap Q (.bool b) s := Post.val (v := .bool b) I rfl q
  have p1 : Post c A noOwn pr η s.heap Q (.bool b) { s with toks := s.toks + 1 } := Post.tok (v := .bool b) I _ rfl q
  cases v with
  | none =>
    unfold Rv at ry; subst ry; dsimp only [isiT] at h
    split at h <;> cases h
    rename_i hT
    rcases hT with rfl | rfl | rfl | rfl | rfl
    · exact IsiPair.NoneType_int p1
    · exact IsiPair.NoneType_bool p1
    · exact IsiPair.NoneType_str p1
    · exact IsiPair.NoneType_list p1
    · exact IsiPair.NoneType_tuple p1
  | bool u =>
    unfold Rv at ry; subst ry; dsimp only [isiT] at h
    split at h
    · cases h; rename_i hT
      rcases hT with rfl | rfl
      · exact IsiPair.bool_int p0
      · exact IsiPair.bool_bool p0
    · split at h <;> cases h
      rename_i hT
      rcases hT with rfl | rfl | rfl
      · exact IsiPair.bool_str p1
      · exact IsiPair.bool_list p1
      · exact IsiPair.bool_tuple p1
  | int u =>
    unfold Rv at ry; obtain ⟨t, rfl⟩ := ry; dsimp only [isiT] at h
    split at h
    · cases h; rename_i hT; subst hT; exact IsiPair.int_int p0
    · split at h <;> cases h
      rename_i hT
      rcases hT with rfl | rfl | rfl | rfl
      · exact IsiPair.int_bool p1
      · exact IsiPair.int_str p1
      · exact IsiPair.int_list p1
      · exact IsiPair.int_tuple p1
  | str u =>
    unfold Rv at ry; obtain ⟨t, rfl⟩ := ry; dsimp only [isiT] at h
    split at h
    · cases h; rename_i hT; subst hT; exact IsiPair.str_str p0
    · split at h <;> cases h
      rename_i hT
      rcases hT with rfl | rfl | rfl | rfl
      · exact IsiPair.str_bool p1
      · exact IsiPair.str_int p1
      · exact IsiPair.str_list p1
      · exact IsiPair.str_tuple p1
  | tup u =>
    unfold Rv at ry; obtain ⟨a, ys, n, rfl, ho, _⟩ := ry; dsimp only [isiT] at h
    split at h
    · cases h; rename_i hT; subst hT; exact IsiPair.tuple_tuple ho rfl p0
    · split at h <;> cases h
      rename_i hT
      rcases hT with rfl | rfl | rfl | rfl
      · exact IsiPair.tuple_bool ho rfl p1
      · exact IsiPair.tuple_int ho rfl p1
      · exact IsiPair.tuple_list ho rfl p1
      · exact IsiPair.tuple_str ho rfl p1
  | lst u =>
    unfold Rv at ry; obtain ⟨a, ys, n, rfl, ho, _⟩ := ry; dsimp only [isiT] at h
    split at h
    · cases h; rename_i hT; subst hT; exact IsiPair.list_list ho rfl p0
    · split at h <;> cases h
      rename_i hT
      rcases hT with rfl | rfl | rfl | rfl
      · exact IsiPair.list_bool ho rfl p1
      · exact IsiPair.list_int ho rfl p1
      · exact IsiPair.list_tuple ho rfl p1
      · exact IsiPair.list_str ho rfl p1
  | dct ks u =>
    unfold Rv at ry; obtain ⟨a, ys, es, n, rfl, ho, _⟩ := ry; dsimp only [isiT] at h
    split at h <;> cases h
    rename_i hT
    rcases hT with rfl | rfl | rfl | rfl | rfl
    · exact IsiPair.dict_bool ho rfl p1
    · exact IsiPair.dict_int ho rfl p1
    · exact IsiPair.dict_tuple ho rfl p1
    · exact IsiPair.dict_str ho rfl p1
    · exact IsiPair.dict_list ho rfl p1
  | loc a => cases h
  | glob g => cases h
  | exc C => cases h
  | rng _ _ => cases h
  | obj _ _ _ => cases h

theorem sizeLine_lt : ∀ n : Nat, n ≤ sizeLine → (n : Int) < 2 ^ 63 := fun n h => by
  have : sizeLine = 16777216 := by decide
  omega

theorem SC.len_tup {vs : List V} (q : Q (.int vs.length) η) : SC c d hd (.builtin "len") [.tup vs] η Q X := by
  intro A s pr xs o I r
  obtain ⟨y, rfl, ry⟩ := rvs1 r
  unfold Rv at ry; obtain ⟨a, ys, n, rfl, ho, _, z, rs⟩ := ry
  have hl := rvs_length rs
  refine PyProof.Rows.len_tuple ⟨_, ho, rfl, _, rfl⟩ (by simp only [List.size_toArray, hl]; exact sizeLine_lt _ z) ?_
  exact Post.tok (v := .int vs.length) I _ ⟨s.toks + 1, by simp only [List.size_toArray, hl]⟩ q
theorem SC.len_lst {vs : List V} (q : Q (.int vs.length) η) : SC c d hd (.builtin "len") [.lst vs] η Q X := by
  intro A s pr xs o I r
  obtain ⟨y, rfl, ry⟩ := rvs1 r
  unfold Rv at ry; obtain ⟨a, ys, n, rfl, ho, _, z, rs⟩ := ry
  have hl := rvs_length rs
  refine PyProof.Rows.len_list ⟨_, ho, rfl, _, rfl⟩ (by simp only [List.size_toArray, hl]; exact sizeLine_lt _ z) ?_
  exact Post.tok (v := .int vs.length) I _ ⟨s.toks + 1, by simp only [List.size_toArray, hl]⟩ q
theorem SC.len_loc {a : Addr} {vs : List V} (e : η a = some (.lst vs)) (q : Q (.int vs.length) η) : SC c d hd (.builtin "len") [.loc a] η Q X := by
  intro A s pr xs o I r
  obtain ⟨y, rfl, ry⟩ := rvs1 r
  unfold Rv at ry; obtain ⟨rfl, _⟩ := ry
  obtain ⟨ys, n, ho, z, rs⟩ := I.hrel a _ e
  have hl := rvs_length rs
  refine PyProof.Rows.len_list ⟨_, ho, rfl, _, rfl⟩ (by simp only [List.size_toArray, hl]; exact sizeLine_lt _ z) ?_
  exact Post.tok (v := .int vs.length) I _ ⟨s.toks + 1, by simp only [List.size_toArray, hl]⟩ q
theorem SC.abs {i : Int} (q : Q (.int i.natAbs) η) : SC c d hd (.builtin "abs") [.int i] η Q X := by
  intro A s pr xs o I r
  obtain ⟨y, rfl, ry⟩ := rvs1 r
  unfold Rv at ry; obtain ⟨t, rfl⟩ := ry
  refine PyProof.Rows.call_abs_int fun u tk => Post.tok (v := .int i.natAbs) I _ ⟨u, ?_⟩ q
  have : (if i < 0 then -i else i) = (i.natAbs : Int) := by split <;> omega
  rw [this]
theorem SC.int_bool {b : Bool} (q : Q (.int (if b then 1 else 0)) η) : SC c d hd (.type "int") [.bool b] η Q X := by
  intro A s pr xs o I r
  obtain ⟨y, rfl, ry⟩ := rvs1 r
  unfold Rv at ry; subst ry
  exact call_int_bool (Post.tok (v := .int (if b then 1 else 0)) I _ ⟨_, rfl⟩ q)

-- items
theorem SE.sub {e i : Expr} (p : SE c d hd nm σ η e (fun a η₁ => SE c d hd nm σ η₁ i (fun b η₂ => S2 c d hd (subscriptTail e i) a b η₂ Q X) X) X) : SE c d hd nm σ η (.Subscript e i pos) Q X :=
  fun A env s pr o I F => SE.op2 (tree := fun env => eval (.Subscript e i pos) env) (fun h => PyProof.Rows.Subscript_ h) p o I F

noncomputable def notSlice : Expr → Bool
  | .Slice .. => false
  | _ => true
theorem subscripted_plain {i : Expr} (h : notSlice i = true) (a b : Value) : subscripted i false a b = operate [a, b] (getItem a b) := by
  cases i <;> first | rfl | cases h

theorem rvs_get {P : Params} {h : Heap} : ∀ {vs : List V} {xs : List Value} {k : Nat} {u : V}, Rvs P h η pr vs xs → vs[k]? = some u → ∃ y, xs[k]? = some y ∧ Rv P h η pr u y
  | [], xs, k, u, r, e => by cases e
  | v :: vs, xs, k, u, r, e => by
    unfold Rvs at r
    obtain ⟨y, ys, rfl, ry, rs⟩ := r
    cases k with
    | zero => simp only [List.getElem?_cons_zero, Option.some.injEq] at e; subst e; exact ⟨y, rfl, ry⟩
    | succ k => simp only [List.getElem?_cons_succ] at e ⊢; exact rvs_get rs e

theorem seqIndex_nat {n k : Nat} (h : k < n) : seqIndex? (k : Int) n = some k := by
  unfold seqIndex?
  have : ¬ ((k : Int) < 0) := by omega
  simp only [this, if_false]
  rw [if_pos (by simp; omega)]; simp

theorem S2.item_tup {e i : Expr} {vs : List V} {k : Nat} {u : V} (hu : vs[k]? = some u) (q : Q u η) (hs : notSlice i = true := by with_unfolding_all rfl) : S2 c d hd (subscriptTail e i) (.tup vs) (.int k) η Q X := by
  intro A s pr y z o I r r'
  unfold Rv at r r'; obtain ⟨a, ys, n, rfl, ho, _, zz, rs⟩ := r; obtain ⟨t, rfl⟩ := r'
  have hl := rvs_length rs
  obtain ⟨y, hy, ry⟩ := rvs_get rs hu
  have hk : k < ys.length := by rw [hl]; exact (List.getElem?_eq_some_iff.mp hu).1
  have := sizeLine_lt k (by omega)
  exact PyProof.Rows.item_tupleT ⟨_, ho, rfl, _, rfl⟩ (by omega) this (seqIndex_nat hk) hy (Post.val I ry q) (subscripted_plain hs _ _)
theorem S2.item_lst {e i : Expr} {vs : List V} {k : Nat} {u : V} (hu : vs[k]? = some u) (q : Q u η) (hs : notSlice i = true := by with_unfolding_all rfl) : S2 c d hd (subscriptTail e i) (.lst vs) (.int k) η Q X := by
  intro A s pr y z o I r r'
  unfold Rv at r r'; obtain ⟨a, ys, n, rfl, ho, _, zz, rs⟩ := r; obtain ⟨t, rfl⟩ := r'
  have hl := rvs_length rs
  obtain ⟨y, hy, ry⟩ := rvs_get rs hu
  have hk : k < ys.length := by rw [hl]; exact (List.getElem?_eq_some_iff.mp hu).1
  have := sizeLine_lt k (by omega)
  have hL : s.heap.IsList a ys.toArray := ⟨_, ho, rfl, _, rfl⟩
  exact PyProof.Rows.tail_any hL.typeIs slot_list_getitem.lookup (wpAny_getItem_list hL (by omega) this (by simpa using hy) (Post.val I ry q)) (subscripted_plain hs _ _)
theorem S2.item_loc {e i : Expr} {a : Addr} {vs : List V} {k : Nat} {u : V} (ea : η a = some (.lst vs)) (hu : vs[k]? = some u) (q : Q u η) (hs : notSlice i = true := by with_unfolding_all rfl) : S2 c d hd (subscriptTail e i) (.loc a) (.int k) η Q X := by
  intro A s pr y z o I r r'
  unfold Rv at r r'; obtain ⟨rfl, _⟩ := r; obtain ⟨t, rfl⟩ := r'
  obtain ⟨ys, n, ho, zz, rs⟩ := I.hrel a _ ea
  have hl := rvs_length rs
  obtain ⟨y, hy, ry⟩ := rvs_get rs hu
  have hk : k < ys.length := by rw [hl]; exact (List.getElem?_eq_some_iff.mp hu).1
  have := sizeLine_lt k (by omega)
  have hL : s.heap.IsList a ys.toArray := ⟨_, ho, rfl, _, rfl⟩
  exact PyProof.Rows.tail_any hL.typeIs slot_list_getitem.lookup (wpAny_getItem_list hL (by omega) this (by simpa using hy) (Post.val I ry q)) (subscripted_plain hs _ _)

-- is
theorem S2.isNone {b : Bool} (h : b = (match v with | .none => true | .glob .none => true | _ => false)) (q : Q (.bool b) η) : S2 c d hd (compareOp .Is) v .none η Q X := by
  intro A s pr y z o I r r'
  unfold Rv at r'; subst r'
  refine is_none (Post.val (v := .bool (y == .none)) I rfl ?_)
  suffices (y == Value.none) = b by rw [this]; exact q
  subst h
  cases v <;> unfold Rv at r
  · subst r; rfl
  · subst r; rfl
  · obtain ⟨t, rfl⟩ := r; rfl
  · obtain ⟨t, rfl⟩ := r; rfl
  · obtain ⟨a, _, _, rfl, _⟩ := r; rfl
  · obtain ⟨a, _, _, rfl, _⟩ := r; rfl
  · obtain ⟨a, _, _, _, rfl, _⟩ := r; rfl
  · obtain ⟨rfl, _⟩ := r; rfl
  · subst r; cases y <;> rfl
  · obtain ⟨a, _, _, rfl, _⟩ := r; rfl
  · obtain ⟨a, _, _, _, rfl, _⟩ := r; rfl
  · obtain ⟨a, _, _, _, _, rfl, _⟩ := r; rfl
theorem S2.isNotNone {b : Bool} (h : b = (match v with | .none => false | .glob .none => false | _ => true)) (q : Q (.bool b) η) : S2 c d hd (compareOp .IsNot) v .none η Q X := by
  intro A s pr y z o I r r'
  unfold Rv at r'; subst r'
  refine isNot_none (Post.val (v := .bool (!(y == .none))) I rfl ?_)
  suffices (!(y == Value.none)) = b by rw [this]; exact q
  subst h
  cases v <;> unfold Rv at r
  · subst r; rfl
  · subst r; rfl
  · obtain ⟨t, rfl⟩ := r; rfl
  · obtain ⟨t, rfl⟩ := r; rfl
  · obtain ⟨a, _, _, rfl, _⟩ := r; rfl
  · obtain ⟨a, _, _, rfl, _⟩ := r; rfl
  · obtain ⟨a, _, _, _, rfl, _⟩ := r; rfl
  · obtain ⟨rfl, _⟩ := r; rfl
  · subst r; cases y <;> rfl
  · obtain ⟨a, _, _, rfl, _⟩ := r; rfl
  · obtain ⟨a, _, _, _, rfl, _⟩ := r; rfl
  · obtain ⟨a, _, _, _, _, rfl, _⟩ := r; rfl
-- lists
theorem rvs_append {P : Params} {h : Heap} : ∀ {vs : List V} {xs : List Value} {ws : List V} {ys : List Value}, Rvs P h η pr vs xs → Rvs P h η pr ws ys → Rvs P h η pr (vs ++ ws) (xs ++ ys)
  | [], xs, ws, ys, r, r' => by unfold Rvs at r; subst r; exact r'
  | v :: vs, xs, ws, ys, r, r' => by
    unfold Rvs at r
    obtain ⟨y, zs, rfl, ry, rs⟩ := r
    exact ⟨y, zs ++ ys, rfl, ry, rvs_append rs r'⟩
theorem S2.addL {vs ws : List V} (hz : vs.length + ws.length ≤ sizeLine) (q : Q (.lst (vs ++ ws)) η) : S2 c d hd (binaryOp .Add) (.lst vs) (.lst ws) η Q X := by
  intro A s pr y z o I r r'
  unfold Rv at r r'; obtain ⟨a, ys, n, rfl, ho, _, z1, rs⟩ := r; obtain ⟨b, zs, m, rfl, ho', _, z2, rs'⟩ := r'
  have l1 := rvs_length rs
  have l2 := rvs_length rs'
  have e : ys.toArray ++ zs.toArray = (ys ++ zs).toArray := by simp
  refine PySem.P.add_list (n := n) (n2 := m) ho ho' ?_ (by simp only [List.size_toArray]; omega)
  rw [e]
  exact new_lst (t := s.toks) I (by simpa using hz) (rvs_append rs rs') q
theorem rvs_rep {P : Params} {h : Heap} {vs : List V} {xs : List Value} (r : Rvs P h η pr vs xs) : ∀ k : Nat, Rvs P h η pr (List.replicate k vs).flatten (List.replicate k xs).flatten
  | 0 => rfl
  | k + 1 => by rw [List.replicate_succ, List.replicate_succ, List.flatten_cons, List.flatten_cons]; exact rvs_append r (rvs_rep r k)
theorem foldl_arrays (xs : List Value) : ∀ (k : Nat) (acc : List Value), List.foldl (fun x1 x2 => x1 ++ x2) acc.toArray (List.replicate k xs.toArray) = (acc ++ (List.replicate k xs).flatten).toArray
  | 0, acc => by simp
  | k + 1, acc => by
    rw [List.replicate_succ, List.foldl_cons, List.replicate_succ, List.flatten_cons]
    have e : acc.toArray ++ xs.toArray = (acc ++ xs).toArray := by simp
    rw [e, foldl_arrays xs k (acc ++ xs), List.append_assoc]
theorem S2.mulL {vs : List V} {k : Int} (hk : k < 2 ^ 63) (hk' : -(2 ^ 63) ≤ k) (hz : vs.length * k.toNat ≤ sizeLine) (q : Q (.lst (List.replicate k.toNat vs).flatten) η) : S2 c d hd (binaryOp .Mult) (.lst vs) (.int k) η Q X := by
  intro A s pr y z o I r r'
  unfold Rv at r r'; obtain ⟨a, ys, n, rfl, ho, _, z1, rs⟩ := r; obtain ⟨t, rfl⟩ := r'
  have l1 := rvs_length rs
  have sl : sizeLine = 2 ^ 24 := rfl
  refine wpAny_binaryOp_repeat_ref (T := "list") (U := "int") (by decide) ⟨_, ho, rfl⟩ (fun s' => typeIs_int s' k t) noFill_list_mul F.fills_int_mul F.slot_int_rmul repeat_list F.slot_int_index.lookup
    (call_meets F.slot_int_rmul (typeIs_int s k t) F.entry_int_rmul (F.args_int_rmul_2 _ _) (int___rmul___int_list k t a ys.toArray n)
      ⟨ho, rfl, ⟨_, ho, rfl⟩, call_meets F.slot_list_mul ⟨_, ho, rfl⟩ F.entry_list_mul (F.args_list_mul_2 _ _)
        (AutoListH.list___mul___list_int_3 a ys.toArray n k t (by simp [Builtin.List.listFitsIndex]; omega) (by simp only [List.size_toArray, l1]; omega) (by simp only [Builtin.List.listTooLong, List.size_toArray, l1, decide_eq_true_eq]; omega)) ⟨ho, ?_⟩⟩)
  have e : List.foldl (fun x1 x2 => x1 ++ x2) #[] (List.replicate (if ys.toArray.isEmpty = true then 0 else k.toNat) ys.toArray) = ((List.replicate k.toNat ys).flatten).toArray := by
    cases ys with
    | nil => simp
    | cons y ys =>
      rw [if_neg (by simp)]
      have := foldl_arrays (y :: ys) k.toNat []
      simpa using this
  rw [e]
  refine new_lst (t := s.toks) I ?_ (rvs_rep rs _) q
  rw [List.length_flatten, List.map_replicate, List.sum_replicate_nat, Nat.mul_comm]; exact hz

-- truth
end
end Mine

namespace Mine
open PySem PyProof.Rows PySem.W

mutual
/-- a value as plain data -/
inductive PyR (η : Hp) : V → PyData → Prop
  | none : PyR η .none .none
  | bool {b} : PyR η (.bool b) (.bool b)
  | int {i} : PyR η (.int i) (.int i)
  | str {x} : PyR η (.str x) (.str x)
  | tup {vs ds} : PyRs η vs ds → PyR η (.tup vs) (.tuple ds)
  | lst {vs ds} : PyRs η vs ds → PyR η (.lst vs) (.list ds)
  | loc {a vs ds} : η a = some (.lst vs) → PyRs η vs ds → PyR η (.loc a) (.list ds)
inductive PyRs (η : Hp) : List V → List PyData → Prop
  | nil : PyRs η [] []
  | cons {v d vs ds} : PyR η v d → PyRs η vs ds → PyRs η (v :: vs) (d :: ds)
end

section
variable {c : Cx} {A : Around} {pr : Pr} {η η' : Hp} {s : Shared} {d : Nat} {hd : Bool} {nm : List (Str × NameKind)} {σ : List (Option V)} {env : Env}
  {Q R : V → Hp → Prop} {B : Bool → Hp → Prop} {X : Addr → Hp → Prop} {v w : V} {x : Str} {pos : Pos}

mutual
theorem PyR.reads (I : Inv c η pr A s) : ∀ {v : V} {d : PyData} {y : Value}, PyR η v d → Rv c.P s.heap η pr v y → ∃ as, Reads s.heap y d as
  | _, _, _, .none, r => by unfold Rv at r; subst r; exact ⟨_, .none⟩
  | _, _, _, .bool, r => by unfold Rv at r; subst r; exact ⟨_, .bool _⟩
  | _, _, _, .int, r => by unfold Rv at r; obtain ⟨t, rfl⟩ := r; exact ⟨_, .int _ _⟩
  | _, _, _, .str, r => by unfold Rv at r; obtain ⟨t, rfl⟩ := r; exact ⟨_, .str _ _⟩
  | _, _, _, .tup p, r => by
    unfold Rv at r; obtain ⟨a, xs, n, rfl, ho, _, _, rs⟩ := r
    obtain ⟨as, q⟩ := PyRs.reads I p rs
    exact ⟨_, .tuple ho rfl rfl (by simpa using q)⟩
  | _, _, _, .lst p, r => by
    unfold Rv at r; obtain ⟨a, xs, n, rfl, ho, _, _, rs⟩ := r
    obtain ⟨as, q⟩ := PyRs.reads I p rs
    exact ⟨_, .list ho rfl rfl (by simpa using q)⟩
  | _, _, _, .loc e p, r => by
    unfold Rv at r; obtain ⟨rfl, _⟩ := r
    obtain ⟨xs, n, ho, _, rs⟩ := I.hrel _ _ e
    obtain ⟨as, q⟩ := PyRs.reads I p rs
    exact ⟨_, .list ho rfl rfl (by simpa using q)⟩
theorem PyRs.reads (I : Inv c η pr A s) : ∀ {vs : List V} {ds : List PyData} {ys : List Value}, PyRs η vs ds → Rvs c.P s.heap η pr vs ys → ∃ as, ReadsAll s.heap ys ds as
  | _, _, _, .nil, r => by unfold Rvs at r; subst r; exact ⟨_, .nil⟩
  | _, _, _, .cons p q, r => by
    unfold Rvs at r; obtain ⟨y, ys, rfl, ry, rs⟩ := r
    obtain ⟨as, h1⟩ := PyR.reads I p ry
    obtain ⟨bs, h2⟩ := PyRs.reads I q rs
    exact ⟨_, .cons h1 h2⟩
end

theorem S2.eqD {a b : PyData} (ra : PyR η v a) (rb : PyR η w b) (ha : PySem.SeqAt.shaped a = true) (hb : PySem.SeqAt.shaped b = true) (q : Q (.bool (PyData.eqv a b)) η) : S2 c d hd (compareOp .Eq) v w η Q X := by
  intro A s pr y z o I r r'
  obtain ⟨as, h1⟩ := ra.reads I r
  obtain ⟨bs, h2⟩ := rb.reads I r'
  exact eq_dataH h1 h2 ha hb (by have := o.units; omega) (Post.val (v := .bool (PyData.eqv a b)) I rfl q)
theorem S2.neD {a b : PyData} (ra : PyR η v a) (rb : PyR η w b) (ha : PySem.SeqAt.shaped a = true) (hb : PySem.SeqAt.shaped b = true) (q : Q (.bool (!PyData.eqv a b)) η) : S2 c d hd (compareOp .NotEq) v w η Q X := by
  intro A s pr y z o I r r'
  obtain ⟨as, h1⟩ := ra.reads I r
  obtain ⟨bs, h2⟩ := rb.reads I r'
  exact ne_dataH h1 h2 ha hb (by have := o.units; omega) (Post.val (v := .bool (!PyData.eqv a b)) I rfl q)
end
end Mine

namespace Mine
open PySem PyProof.Rows PySem.W

/-- an iterator over known items, for a target; `J`: what it alone writes -/
structure Itr (c : Cx) (A : Around) (J : Pr) (I : Addr) (t : Expr) (vs : List V) (St : Nat → Heap → Hp → Pr → Prop) (G : Hp → Prop) : Prop where
  inJ : J I
  move : ∀ {i h η pr h' η' pr'}, St i h η pr → Mono pr η h η' pr' h' → (∀ b, J b → ∀ o, h.get? b = some o → h'.get? b = some o) → St i h' η' pr'
  nofr : ∀ {i h η pr b}, St i h η pr → J b → ∃ o, h.get? b = some o
  item : ∀ {i s η pr v} {QQ : Value → Shared → Prop} {E : Value → Shared → Prop}, (∀ b, J b → pr b) → Inv c η pr A s → G η → vs[i]? = some v → St i s.heap η pr →
    (∀ h' tk x, St (i + 1) h' η pr → (∀ b o, ¬ J b → s.heap.get? b = some o → h'.get? b = some o) → Rv c.P h' η pr v x → QQ x { s with heap := h', toks := tk }) →
    wpAny c.M A (pyNext (.ref I)) (fun r s₁ => match r with | some x => wpAny c.M A (letOwnedTupleGo t (.ref I) x) (fun _ s₂ => QQ x s₂) E s₁ | none => False) E s
  done : ∀ {s η pr} {QQ : Option Value → Shared → Prop} {E : Value → Shared → Prop}, Inv c η pr A s → G η → St vs.length s.heap η pr →
    (∀ h' tk, (∀ b o, ¬ J b → s.heap.get? b = some o → h'.get? b = some o) → QQ none { s with heap := h', toks := tk }) → wpAny c.M A (pyNext (.ref I)) QQ E s
  self : ∀ {i s η pr} {QQ : Value → Shared → Prop} {E : Value → Shared → Prop}, St i s.heap η pr → QQ (.ref I) s → wpAny c.M A (pyIter (.ref I)) QQ E s

/-- a value that is iterated for a target -/
noncomputable def SI (c : Cx) (d : Nat) (t : Expr) (v : V) (η : Hp) (vs : List V) : Prop :=
  ∀ A s pr x (QQ : Value → Shared → Prop) (E : Value → Shared → Prop), Ok d true A → Inv c η pr A s → Rv c.P s.heap η pr v x →
    (∀ h' tk J I St, Itr c A J I t vs St (fun _ => True) → (∀ b, J b → s.heap.get? b = none) → (∀ b, J b → ¬ isFr A b) → (∀ b o, s.heap.get? b = some o → h'.get? b = some o) → St 0 h' η (fun b => pr b ∨ J b) → QQ (.ref I) { s with heap := h', toks := tk }) →
    wpAny c.M A (pyIter x) QQ E s

/-- an expression that is iterated for a target -/
noncomputable def SJ (c : Cx) (d : Nat) (nm : List (Str × NameKind)) (σ : List (Option V)) (η : Hp) (it t : Expr) (K : (Hp → Prop) → List V → Hp → Prop) (X : Addr → Hp → Prop) : Prop :=
  ∀ A env s pr (QQ : Value → Shared → Prop) (E : Value → Shared → Prop), Ok d true A → Inv c η pr A s → FrameR c s.heap η pr nm env σ → (∀ r s', Exc c A noOwn pr η s.heap X r s' → E r s') →
    (∀ G vs η₁ s₁ h' tk J I St, K G vs η₁ → Inv c η₁ pr A s₁ → Step A noOwn η s.heap η₁ s₁.heap → Itr c A J I t vs St G → (∀ b, J b → s₁.heap.get? b = none) → (∀ b, J b → ¬ isFr A b) → (∀ b o, s₁.heap.get? b = some o → h'.get? b = some o) → St 0 h' η₁ (fun b => pr b ∨ J b) → QQ (.ref I) { s₁ with heap := h', toks := tk }) →
    wpAny c.M A (eval it env) (fun y s₁ => wpAny c.M A (pyIter y) QQ E s₁) E s
theorem SJ.of {c : Cx} {d : Nat} {nm : List (Str × NameKind)} {σ : List (Option V)} {η : Hp} {it t : Expr} {K : (Hp → Prop) → List V → Hp → Prop} {X : Addr → Hp → Prop} (p : SE c d true nm σ η it (fun v η₁ => ∃ vs, SI c d t v η₁ vs ∧ K (fun _ => True) vs η₁) X) : SJ c d nm σ η it t K X := by
  intro A env s pr QQ E o I F hE hQ
  refine wpAny_mono (p A env s pr o I F) (fun y s₁ hq => ?_) fun r s' e => hE r s' e
  obtain ⟨v, η₁, ⟨vs, si, k⟩, I₁, rv, st⟩ := hq
  exact si A s₁ pr y QQ E o I₁ rv fun h' tk J I₀ St itr hJ hJf keep st0 => hQ _ vs η₁ s₁ h' tk J I₀ St k I₁ st itr hJ hJf keep st0

noncomputable def ownsTuples (n : String) : Bool := ["enumerate", "zip", "dict_itemiterator", "dict_reverseitemiterator", "odict_iterator", "itertools.zip_longest", "itertools.pairwise"].contains n

section
variable {c : Cx} {A : Around} {J pr : Pr} {η η' : Hp} {s : Shared} {d : Nat} {hd : Bool} {nm : List (Str × NameKind)} {σ : List (Option V)} {env : Env} {I₀ : Addr} {vs : List V} {St : Nat → Heap → Hp → Pr → Prop}
  {Q R : V → Hp → Prop} {B : Bool → Hp → Prop} {X : Addr → Hp → Prop} {v w : V} {x : Str} {pos : Pos} {N : List (Option V) → Hp → Prop} {rest : List Stmt} {t : Expr}

theorem letgo_none {E : Value → Shared → Prop} {QQ : Unit → Shared → Prop} {I : Addr} {y : Value} {o : Obj} {n : String} {fs : Array Value} (ho : s.heap.get? I = some o) (hc : o.cls = .type n) (hd : o.data = .fields fs) (hn : ownsTuples n = false) (q : QQ () s) :
    wpAny c.M A (letOwnedTupleGo t (.ref I) y) QQ E s := by
  unfold letOwnedTupleGo
  have fin : wpAny c.M A (do
      let (.ref r, .ref a) := ((.ref I, y) : Value × Value) | return
      let o ← load r
      match o.cls, o.data with
      | .type n, .fields vs =>
        if ["enumerate", "zip", "dict_itemiterator", "dict_reverseitemiterator", "odict_iterator", "itertools.zip_longest", "itertools.pairwise"].contains n && vs[0]? == some (rawInt a) then
          rule "for.unpacks-the-owned-tuple"
          updateField r 0 .none
      | _, _ => pure ()) QQ E s := by
    cases y with
    | ref a =>
      refine wpAny_bind (wpAny_load ho ?_)
      rw [hc, hd]
      dsimp only
      have : (["enumerate", "zip", "dict_itemiterator", "dict_reverseitemiterator", "odict_iterator", "itertools.zip_longest", "itertools.pairwise"].contains n) = false := hn
      rw [this, Bool.false_and]
      exact wpAny_pure q
    | _ => exact wpAny_pure q
  cases t <;> first | exact wpAny_pure q | exact fin

/-- an iterator of the library's over a frozen source -/
theorem itr_walks {fp : List Addr} {n : Nat} {P : Nat → Value → Prop} {S₀ : Nat → Heap → Prop} {K : Nat → Heap → Hp → Pr → Prop} {cls : String} (W : Walks c.prog c.w A I₀ fp [I₀] n P S₀)
    (hn : vs.length = n) (hcls : ownsTuples cls = false)
    (hS : ∀ {i h}, S₀ i h → ∃ o fs, h.get? I₀ = some o ∧ o.cls = .type cls ∧ o.data = .fields fs)
    (hK : ∀ {h η pr h' η' pr'}, K 0 h η pr → Mono pr η h η' pr' h' → K 0 h' η' pr')
    (hfp : ∀ {h η pr b}, K 0 h η pr → b ∈ fp → b = I₀ ∨ ((∃ o, h.get? b = some o) ∧ η b = none ∧ ¬ pr b))
    (hP : ∀ {i y h η pr v}, K 0 h η pr → P i y → vs[i]? = some v → Rv c.P h η pr v y) : Itr c A (fun b => b = I₀) I₀ t vs (fun i h η pr => S₀ i h ∧ K 0 h η pr) (fun _ => True) where
  inJ := rfl
  move := fun {i h η pr h' η' pr'} st m k => by
    refine ⟨W.frame i h h' st.1 fun b hb o e => ?_, hK st.2 m⟩
    rcases hfp st.2 hb with rfl | ⟨_, q1, q2⟩
    · exact k _ rfl o e
    · exact m.same b o e q1 q2
  nofr := fun {i h η pr b} st e => by cases e; obtain ⟨o, _, q, _⟩ := hS st.1; exact ⟨o, q⟩
  item := fun {i s η pr v QQ E} hJ _ _ hv st hQ => by
    have hi : i < n := by rw [← hn]; exact (List.getElem?_eq_some_iff.mp hv).1
    refine W.item i s _ E hi st.1 fun y h' tk hp st' k => ?_
    obtain ⟨o, fs, e1, e2, e3⟩ := hS st'
    refine letgo_none e1 e2 e3 hcls ?_
    have hk : ∀ b ob, ¬ b = I₀ → s.heap.get? b = some ob → h'.get? b = some ob := fun b ob nb e => k b ob (by simpa using nb) e
    have m : Mono pr η s.heap η pr h' := ⟨fun b ob e _ p => hk b ob (fun q => p (hJ b q)) e, fun _ e => e, fun b _ _ n p => ⟨n, p⟩⟩
    exact hQ h' tk y ⟨st', hK st.2 m⟩ hk (hP (hK st.2 m) hp hv)
  done := fun {s η pr QQ E} _ _ st hQ => W.done s QQ E (hn ▸ st.1) fun h' tk k => hQ h' tk fun b ob nb e => k b ob (by simpa using nb) e
  self := fun {i s η pr QQ E} st q => W.self i s QQ E st.1 q

theorem fresh_none (s : Shared) : s.heap.get? s.heap.objs.size = none := by
  cases q : s.heap.get? s.heap.objs.size with
  | none => rfl
  | some o => exact absurd (Heap.lt_size q) (Nat.lt_irrefl _)
theorem fresh_frame (I : Inv c η pr A s) : ∀ b, b = s.heap.objs.size → ¬ isFr A b := fun b e f => by
  subst e
  obtain ⟨o, e⟩ := Option.isSome_iff_exists.mp (I.privs _ (I.frs _ f)).1
  exact absurd (Heap.lt_size e) (Nat.lt_irrefl _)
theorem fresh_ne {a : Addr} {o : Obj} (e : s.heap.get? a = some o) : a ≠ s.heap.objs.size := Nat.ne_of_lt (Heap.lt_size e)

theorem SI.lst : SI c d t (.lst vs) η vs := by
  intro A s pr y QQ E o I r hQ
  unfold Rv at r; obtain ⟨a, xs, n, rfl, ho, ⟨n1, n2⟩, z, rs⟩ := r
  refine wpAny_pyIter_list ⟨_, ho, rfl, _, rfl⟩ ?_
  have keep : ∀ b ob, s.heap.get? b = some ob → (s.heap.push { cls := .type "list_iterator", data := .fields #[.ref a, .int 0 0] }).get? b = some ob := fun b ob e => Heap.get?_push_of_some _ e
  refine hQ _ s.toks (fun b => b = s.heap.objs.size) s.heap.objs.size _
    (itr_walks (P := fun i v => xs.toArray[i]? = some v) (K := fun _ h η pr => h.get? a = some { cls := .type "list", data := .seq xs.toArray n } ∧ (η a = none ∧ ¬ pr a) ∧ Rvs c.P h η pr vs xs) (cls := "list_iterator")
      (Walks.list (o.handled rfl) s.heap.objs.size a (fresh_ne ho) xs.toArray) (by simp [rvs_length rs]) (by decide +kernel) (fun st => by obtain ⟨⟨ob, e, q, w⟩, _⟩ := st; exact ⟨ob, _, e, q, w⟩) ?_ ?_ ?_)
    (fun b e => by cases e; exact fresh_none s) (fresh_frame I) keep ⟨⟨⟨_, Heap.get?_push_size _ rfl, rfl, rfl⟩, _, keep _ _ ho, rfl, _, rfl⟩, keep _ _ ho, ⟨n1, fun q => q.elim n2 (fresh_ne ho)⟩, ?_⟩
  · intro h η pr h' η' pr' st m
    exact ⟨m.same _ _ st.1 st.2.1.1 st.2.1.2, m.new _ _ st.1 st.2.1.1 st.2.1.2, Rvs.mono m _ st.2.2⟩
  · intro h η pr b st hb
    simp only [List.mem_cons, List.not_mem_nil, or_false] at hb
    rcases hb with rfl | rfl
    · exact .inl rfl
    · exact .inr ⟨⟨_, st.1⟩, st.2.1⟩
  · intro i y h η pr v st hp hv
    obtain ⟨y', hy, ry⟩ := rvs_get st.2.2 hv
    simp only [List.getElem?_toArray] at hp; rw [hy] at hp; cases hp; exact ry
  · refine Rvs.mono ⟨fun b ob e _ _ => keep b ob e, fun _ e => e, fun b ob e n p => ⟨n, fun q => q.elim p (fresh_ne e)⟩⟩ _ rs
end
end Mine

namespace Mine
open PySem PyProof.Rows PySem.W

/-- a target is assigned -/
noncomputable def SA (c : Cx) (d : Nat) (nm : List (Str × NameKind)) (σ : List (Option V)) (η : Hp) (t : Expr) (xs : List Str) (v : V) (K : List (Option V) → Prop) : Prop :=
  ∀ A env s pr y (QQ : Unit → Shared → Prop) (E : Value → Shared → Prop), Ok d true A → Inv c η pr A s → FrameR c s.heap η pr nm env σ → Rv c.P s.heap η pr v y →
    (∀ s' σ', K σ' → Inv c η pr A s' → FrameR c s'.heap η pr nm env σ' → Step A (ownX env xs) η s.heap η s'.heap → QQ () s') → wpAny c.M A (assign t env y) QQ E s

/-- a for over known items -/
noncomputable def ForL (c : Cx) (d : Nat) (nm : List (Str × NameKind)) (t : Expr) (xs : List Str) (body : List Stmt) (N : List (Option V) → Hp → Prop) (R : V → Hp → Prop) (X : Addr → Hp → Prop) : List V → List (Option V) → Hp → Prop
  | [], σ, η => N σ η
  | v :: vs, σ, η => SA c d nm σ η t xs v fun σ' => SS c d true nm σ' η body (fun σ'' η' => ForL c d nm t xs body N R X vs σ'' η') R X

/-- a for over known items, under a condition on the mutable objects -/
noncomputable def ForLG (c : Cx) (d : Nat) (nm : List (Str × NameKind)) (t : Expr) (xs : List Str) (body : List Stmt) (N : List (Option V) → Hp → Prop) (R : V → Hp → Prop) (X : Addr → Hp → Prop) (G : Hp → Prop) : List V → List (Option V) → Hp → Prop
  | [], σ, η => G η ∧ N σ η
  | v :: vs, σ, η => G η ∧ SA c d nm σ η t xs v fun σ' => SS c d true nm σ' η body (fun σ'' η' => ForLG c d nm t xs body N R X G vs σ'' η') R X
section
variable {c : Cx} {A : Around} {J pr pr' : Pr} {η η' η₁ : Hp} {s s' : Shared} {d : Nat} {hd : Bool} {nm : List (Str × NameKind)} {σ σ' : List (Option V)} {env : Env} {I₀ : Addr} {vs : List V} {St : Nat → Heap → Hp → Pr → Prop}
  {Q R : V → Hp → Prop} {B : Bool → Hp → Prop} {X : Addr → Hp → Prop} {v w : V} {x : Str} {pos : Pos} {N : List (Option V) → Hp → Prop} {rest : List Stmt} {t : Expr} {h h' h₀ : Heap} {xs : List Str}

theorem SA.mono {P P' : List (Option V) → Prop} (p : SA c d nm σ η t xs v P) (k : ∀ τ, P τ → P' τ) : SA c d nm σ η t xs v P' :=
  fun A env s pr y QQ E o I F r q => p A env s pr y QQ E o I F r fun s' σ' h => q s' σ' (k σ' h)
theorem ForL.toG {body : List Stmt} : ∀ {vs : List V} {σ : List (Option V)} {η : Hp}, ForL c d nm t xs body N R X vs σ η → ForLG c d nm t xs body N R X (fun _ => True) vs σ η
  | [], _, _, p => by unfold ForL at p; unfold ForLG; exact ⟨trivial, p⟩
  | v :: vs, _, _, p => by
    unfold ForL at p; unfold ForLG
    exact ⟨trivial, p.mono fun τ q => q.mono (fun _ _ q => ForL.toG q) (fun _ _ q => q) fun _ _ q => q⟩
theorem ForLG.cond {body : List Stmt} {G : Hp → Prop} : ∀ {vs : List V} {σ : List (Option V)} {η : Hp}, ForLG c d nm t xs body N R X G vs σ η → G η
  | [], _, _, p => by unfold ForLG at p; exact p.1
  | v :: vs, _, _, p => by unfold ForLG at p; exact p.1
theorem SA.name {K : List (Option V) → Prop} (p : Put nm σ x v σ') (k : K σ') : SA c d nm σ η (.Name x pos) [x] v K :=
  fun A env s pr y QQ E o I F r q => wpAny_assign_Name (store_var I F p r fun s' I' F' st _ => q s' σ' k I' F' st)

/-- more is private -/
theorem Inv.more (I : Inv c η pr A s) (k : ∀ b o, s.heap.get? b = some o → h'.get? b = some o) (hJ : ∀ b, J b → s.heap.get? b = none) (he : ∀ b, J b → ∃ o, h'.get? b = some o) (t : Nat) : Inv c η (fun b => pr b ∨ J b) A { s with heap := h', toks := t } := by
  have I' := I.grow k t
  have m : Mono pr η s.heap η (fun b => pr b ∨ J b) h' := ⟨fun b o e _ _ => k b o e, fun _ e => e, fun b o e n p => ⟨n, fun q => q.elim p fun j => by rw [hJ b j] at e; cases e⟩⟩
  refine ⟨I'.stays, fun a o q => (I.hrel a o q).mono m fun o' _ e => k a o' e, I'.apart, fun a p => ?_, I'.frames, fun b f => .inl (I.frs b f), I'.os, I'.gens⟩
  rcases p with p | p
  · exact I'.privs a p
  · obtain ⟨o, e⟩ := he a p
    refine ⟨by show (h'.get? a).isSome = true; rw [e]; rfl, ?_, ?_⟩
    · cases q : η a with
      | none => rfl
      | some mo => obtain ⟨ob, w, _⟩ := (I.hrel a mo q).nofields; rw [hJ a p] at w; cases w
    · cases q : c.base.get? a with
      | none => rfl
      | some ob => have := I.stays a ob q; rw [hJ a p] at this; cases this
theorem FrameR.more (F : FrameR c h η pr nm env σ) (k : ∀ b o, h.get? b = some o → h'.get? b = some o) (hJ : ∀ b, J b → h.get? b = none) : FrameR c h' η (fun b => pr b ∨ J b) nm env σ := by
  have F' := F.keeps (h' := h') k
  have m : Mono pr η h η (fun b => pr b ∨ J b) h' := ⟨fun b o e _ _ => k b o e, fun _ e => e, fun b o e n p => ⟨n, fun q => q.elim p fun j => by rw [hJ b j] at e; cases e⟩⟩
  refine ⟨F'.kind, F'.names, F'.nodup, F'.globals, F'.builtins, F'.ns, .inl F'.nsp, fun x a e => ⟨.inl (F'.cells x a e).1, (F'.cells x a e).2⟩, F'.inj, F'.has, fun x kd v a => ?_⟩
  obtain ⟨val, q, _⟩ := F'.vars x kd v a
  obtain ⟨val', q', r'⟩ := F.vars x kd v a
  refine ⟨val', ?_, Rv.mono m v r'⟩
  cases kd with
  | «local» => obtain ⟨m1, q1, q2⟩ := q'; exact ⟨m1, q1.keeps k, q2⟩
  | cell => obtain ⟨b, q1, q2⟩ := q'; exact ⟨b, q1, q2.keeps k⟩
  | free => obtain ⟨b, q1, q2⟩ := q'; exact ⟨b, q1, q2.keeps k⟩
  | globalImplicit => exact q'
  | globalExplicit => exact q'
/-- less is private -/
theorem Mono.down (k : ∀ b, pr b → pr' b) : Mono pr' η h η pr h := ⟨fun _ _ e _ _ => e, fun _ e => e, fun b _ _ n p => ⟨n, fun q => p (k b q)⟩⟩
theorem Inv.less (I : Inv c η pr' A s) (k : ∀ b, pr b → pr' b) (f : ∀ b, isFr A b → pr b) : Inv c η pr A s :=
  ⟨I.stays, fun a o q => (I.hrel a o q).mono (Mono.down k) fun _ _ e => e, I.apart, fun a p => I.privs a (k a p), I.frames, f, I.os, I.gens⟩
theorem FrameR.down {σ₀ : List (Option V)} {η₀ : Hp} (F₀ : FrameR c h₀ η₀ pr nm env σ₀) (F : FrameR c h η pr' nm env σ) (k : ∀ b, pr b → pr' b) : FrameR c h η pr nm env σ :=
  ⟨F.kind, F.names, F.nodup, F.globals, F.builtins, F.ns, F₀.nsp, fun x a e => ⟨(F₀.cells x a e).1, (F.cells x a e).2⟩, F.inj, F.has, fun x kd v a => let ⟨val, q, r⟩ := F.vars x kd v a; ⟨val, q, Rv.mono (Mono.down k) v r⟩⟩

/-- the iterator alone is written -/
theorem Inv.wr (I : Inv c η pr A s) (k : ∀ b o, ¬ J b → s.heap.get? b = some o → h'.get? b = some o) (hJ : ∀ b, J b → pr b) (he : ∀ b, J b → ∃ o, h'.get? b = some o) (hf : ∀ b, J b → ¬ isFr A b) (t : Nat) : Inv c η pr A { s with heap := h', toks := t } := by
  have m : Mono pr η s.heap η pr h' := ⟨fun b o e _ p => k b o (fun j => p (hJ b j)) e, fun _ e => e, fun b o e n p => ⟨n, p⟩⟩
  obtain ⟨fr, e, ff⟩ := I.frames
  refine ⟨fun b o q => k b o (fun j => ?_) (I.stays b o q), fun a o q => (I.hrel a o q).mono m fun o' _ e => k a o' (fun j => ?_) e, I.apart, fun a p => ?_, ⟨fr, e, ?_⟩, I.frs, I.os, I.gens⟩
  · have := (I.privs b (hJ b j)).2.2; rw [q] at this; cases this
  · have := (I.privs a (hJ a j)).2.1; rw [q] at this; cases this
  · obtain ⟨q1, q2, q3⟩ := I.privs a p
    refine ⟨?_, q2, q3⟩
    show (h'.get? a).isSome = true
    by_cases j : J a
    · obtain ⟨o, w⟩ := he a j; rw [w]; rfl
    · obtain ⟨o, w⟩ := Option.isSome_iff_exists.mp q1; rw [k a o j w]; rfl
  · have isF : ∀ x ∈ fr, ∀ L, x.frame = some L → isFr A L := fun x m L q => ⟨x, by rw [e]; exact m, q⟩
    clear e
    induction fr with
    | nil => trivial
    | cons x r ih =>
      obtain ⟨q, ⟨L, o, q1, q2, q3, q4⟩, r'⟩ := ff
      exact ⟨q, ⟨L, o, q1, q2, k L o (fun j => hf L j (isF x (.head _) L q1)) q3, q4⟩, ih r' fun y m => isF y (.tail _ m)⟩
theorem FrameR.wr (F : FrameR c h η pr nm env σ) (k : ∀ b o, ¬ J b → h.get? b = some o → h'.get? b = some o) (hJ : ∀ b, J b → pr b) (hn : ∀ b, J b → ¬ ownOf env b) : FrameR c h' η pr nm env σ := by
  have m : Mono pr η h η pr h' := ⟨fun b o e _ p => k b o (fun j => p (hJ b j)) e, fun _ e => e, fun b o e n p => ⟨n, p⟩⟩
  have kN : ∀ mm, h.Ns env.locals mm → h'.Ns env.locals mm := fun mm q => ns_upto q fun o e => ⟨o.slots, k _ o (fun j => hn _ j (.inl rfl)) e⟩
  have kC : ∀ y a v, env.cells.lookup y = some a → h.IsCell a v → h'.IsCell a v := fun y a v e q => isCell_upto q fun o e' => ⟨o.slots, k _ o (fun j => hn _ j (.inr ⟨y, e⟩)) e'⟩
  refine ⟨F.kind, F.names, F.nodup, F.globals, F.builtins, let ⟨mm, q⟩ := F.ns; ⟨mm, kN mm q⟩, F.nsp, fun x a e => ⟨(F.cells x a e).1, let ⟨v, q⟩ := (F.cells x a e).2; ⟨v, kC x a v e q⟩⟩, F.inj, F.has, fun x kd v a => ?_⟩
  obtain ⟨val, q, r⟩ := F.vars x kd v a
  refine ⟨val, ?_, Rv.mono m v r⟩
  cases kd with
  | «local» => obtain ⟨m1, q1, q2⟩ := q; exact ⟨m1, kN _ q1, q2⟩
  | cell => obtain ⟨b, q1, q2⟩ := q; exact ⟨b, q1, kC x b _ q1 q2⟩
  | free => obtain ⟨b, q1, q2⟩ := q; exact ⟨b, q1, kC x b _ q1 q2⟩
  | globalImplicit => exact q
  | globalExplicit => exact q
theorem Step.wr (k : ∀ b o, ¬ J b → h.get? b = some o → h'.get? b = some o) (he : ∀ b, J b → ∃ o, h'.get? b = some o) {own : Pr} (hJ : ∀ b, J b → own b) : Step A own η h η h' := by
  refine ⟨fun b o e _ n => ⟨o.slots, k b o (fun j => n (hJ b j)) e⟩, fun b o e _ n _ => k b o (fun j => n (hJ b j)) e, fun b o e => ?_, fun _ e => e, fun b e e' => by rw [e] at e'; cases e'⟩
  by_cases j : J b
  · obtain ⟨o', w⟩ := he b j; rw [w]; rfl
  · rw [k b o j e]; rfl
theorem Step.drop {own : Pr} (st : Step A (fun b => own b ∨ J b) η h η' h') (hJ : ∀ b, J b → h.get? b = Option.none) : Step A own η h η' h' := by
  have n : ∀ b o, h.get? b = some o → ¬ own b → ¬ (own b ∨ J b) := fun b o e n q => q.elim n fun j => by rw [hJ b j] at e; cases e
  exact ⟨fun b o e z w => st.upto b o e z (n b o e w), fun b o e z w => st.same b o e z (n b o e w), st.there, st.dom, st.new⟩

theorem Step.then_keep {own : Pr} {h₁ h₂ : Heap} (st : Step A own η h η' h₁) (k : ∀ b o, ¬ J b → h₁.get? b = some o → h₂.get? b = some o) (hJ : ∀ b, J b → h.get? b = Option.none) : Step A own η h η' h₂ := by
  have n : ∀ b o, h.get? b = some o → ¬ J b := fun b o e j => by rw [hJ b j] at e; cases e
  refine ⟨fun b o e z w => ?_, fun b o e z w f => k b o (n b o e) (st.same b o e z w f), fun b o e => ?_, st.dom, st.new⟩
  · obtain ⟨sl, e'⟩ := st.upto b o e z w; exact ⟨sl, k b _ (n b o e) e'⟩
  · obtain ⟨o', e'⟩ := Option.isSome_iff_exists.mp (st.there b o e); rw [k b o' (n b o e) e']; rfl
/-- the iterator is left behind -/
theorem Inv.end (I : Inv c η (fun b => pr b ∨ J b) A s) (k : ∀ b o, ¬ J b → s.heap.get? b = some o → h'.get? b = some o) (hd : ∀ b, pr b → ¬ J b) (f : ∀ b, isFr A b → pr b) (t : Nat) : Inv c η pr A { s with heap := h', toks := t } := by
  have m : Mono (fun b => pr b ∨ J b) η s.heap η pr h' := ⟨fun b o e _ p => k b o (fun j => p (.inr j)) e, fun _ e => e, fun b o e n p => ⟨n, fun q => p (.inl q)⟩⟩
  obtain ⟨fr, e, ff⟩ := I.frames
  refine ⟨fun b o q => k b o (fun j => ?_) (I.stays b o q), fun a o q => (I.hrel a o q).mono m fun o' _ e => k a o' (fun j => ?_) e, I.apart, fun a p => ?_, ⟨fr, e, ?_⟩, f, I.os, I.gens⟩
  · have := (I.privs b (.inr j)).2.2; rw [q] at this; cases this
  · have := (I.privs a (.inr j)).2.1; rw [q] at this; cases this
  · obtain ⟨q1, q2, q3⟩ := I.privs a (.inl p)
    obtain ⟨o, w⟩ := Option.isSome_iff_exists.mp q1
    exact ⟨by show (h'.get? a).isSome = true; rw [k a o (hd a p) w]; rfl, q2, q3⟩
  · have isF : ∀ x ∈ fr, ∀ L, x.frame = some L → isFr A L := fun x m L q => ⟨x, by rw [e]; exact m, q⟩
    clear e
    induction fr with
    | nil => trivial
    | cons x r ih =>
      obtain ⟨q, ⟨L, o, q1, q2, q3, q4⟩, r'⟩ := ff
      exact ⟨q, ⟨L, o, q1, q2, k L o (hd L (f L (isF x (.head _) L q1))) q3, q4⟩, ih r' fun y m => isF y (.tail _ m)⟩

/-- the exception's note is written as it stands -/
theorem land_same {M : Model} {e : Addr} {cls a0 : Value} {fl : Option Addr} {QQ : Unit → Shared → Prop} {E : Value → Shared → Prop} (t : s.heap.TracedAtW h₀ e cls a0 (fl.elim Value.none fun f => rawInt f))
    (h : ∀ h', (∀ b o, s.heap.get? b = some o → h'.get? b = some o) → QQ () { s with heap := h' }) : wpAny M A (setFlight (.ref e) fl) QQ E s := by
  obtain ⟨oe, vs, T, oT, ts, he, hcls, hdt, h1, hnT, hTe, hT, hdT, h3⟩ := t
  have hsz3 : 3 < ts.size := (Array.getElem?_eq_some_iff.mp h3).1
  unfold setFlight
  refine wpAny_bind (wpAny_field he hdt h1 ?_)
  rw [if_pos (show (Value.ref T != Value.none) = true from by simp)]
  refine wpAny_setField hT hdT hsz3 (h _ fun b o q => ?_)
  by_cases e : b = T
  · subst e
    rw [hT] at q; cases q
    have hd3 := Obj.data_mapFields hdT (·.setIfInBounds 3 (fl.elim Value.none fun f => rawInt f))
    rw [Heap.get?_update_self _ hT (Obj.isFreed_of_fields hd3)]
    congr 1
    obtain ⟨k1, k2, k3, k4⟩ := oT
    dsimp only at hdT
    subst hdT
    have : ts.setIfInBounds 3 (fl.elim Value.none fun f => rawInt f) = ts := by
      apply Array.ext_getElem?
      intro i
      by_cases q : 3 = i
      · subst q; rw [Array.getElem?_setIfInBounds_self_of_lt hsz3]; exact h3.symm
      · rw [Array.getElem?_setIfInBounds_ne q]
    show (⟨k1, k2, .fields (ts.setIfInBounds 3 (fl.elim Value.none fun f => rawInt f)), k4⟩ : Obj) = _
    rw [this]
  · rw [Heap.get?_update_other _ _ (Ne.symm e)]; exact q

/-- a raise inside a loop -/
theorem loop_raise {outer : List Env} {r : Value} {s₅ : Shared} {η₃ : Hp} (I₅ : Inv c η₃ pr' A s₅) (h1 : A.frames = some (env :: outer)) (h2 : env.frame = some env.locals) (hx : Exc c A (ownOf env) pr' η₃ s₅.heap X r s')
    (hk : ∀ {η' : Hp} {h : Heap}, Step A (ownOf env) η₃ s₅.heap η' h → Step A (ownOf env) η s.heap η' h) (hsub : ∀ b, pr b → pr' b) (hf : ∀ b, isFr A b → pr b) :
    notedBy c.M A env (fun e s' => cameBackBy c.M A env (Exc c A (ownOf env) pr η s.heap X) e s') r s' := by
  obtain ⟨ea, C, η', rfl, x, I', st', hnew, thr⟩ := hx
  have hp : ∀ b, pr' b → (s₅.heap.get? b).isSome = true := fun b p => (I₅.privs b p).1
  refine note_thr I' h1 h2 thr hnew hp I₅.stays st'.there fun h₁ a0 nw => ?_
  obtain ⟨tr, I₁, kp⟩ := leave_fin I' h1 h2 thr hnew hp I₅.stays st'.there nw
  have st₁ : Step A (ownOf env) η₃ s₅.heap η' h₁ := by
    refine ⟨fun b ob e n w => ?_, fun b ob e n w f => ?_, fun b ob e => ?_, st'.dom, st'.new⟩
    · obtain ⟨sl, e'⟩ := st'.upto b ob e n w
      obtain ⟨⟨sl', e''⟩, _⟩ := kp b _ e' (.inl (by rw [e]; rfl))
      exact ⟨sl', e''⟩
    · exact (kp b _ (st'.same b ob e n w f) (.inl (by rw [e]; rfl))).2 f
    · obtain ⟨ob', e'⟩ := Option.isSome_iff_exists.mp (st'.there b ob e)
      obtain ⟨⟨sl', e''⟩, _⟩ := kp b _ e' (.inl (by rw [e]; rfl))
      rw [e'']; rfl
  obtain ⟨oe, vs, T, oT, ts, t1, ⟨t2, t2'⟩, t3, t4, t5, t6, t7, t8, t9⟩ := id tr
  unfold cameBackBy
  refine wpAny_bind (wpAny_field (s := { s' with heap := h₁ }) t1 t3 t4 ?_)
  rw [if_neg (show ¬ ((Value.ref T == Value.none) = true) from by simp)]
  rw [h2]
  refine land_same (s := { s' with heap := h₁ }) (h₀ := s₅.heap) (cls := .ref C) (a0 := a0) (fl := some env.locals) tr fun h₂ k₂ => ?_
  have below : ∀ b, exPr pr ea h₂ b → exPr pr' ea h₁ b := fun b q => by
    rcases exPr_fields (k₂ _ _ t1) t3 q with q | q | q
    · exact .inl (hsub b q)
    · exact .inr (.inl q)
    · exact .inr (.inr ⟨oe, vs, t1, t3, q⟩)
  have stA := hk (st₁.trans (Step.of_keeps k₂))
  refine ⟨ea, C, η', rfl, x, (I₁.grow k₂ s'.toks).less below fun b f => .inl (hf b f), stA, ?_, .inr ⟨a0, rawInt env.locals, ⟨oe, vs, T, oT, ts, k₂ _ _ t1, ⟨t2, t2'⟩, t3, t4, ?_, t6, k₂ _ _ t7, t8, t9⟩, .inr ⟨env, outer, env.locals, h1, h2, rfl⟩⟩⟩
  · cases w : s.heap.get? ea with
    | none => rfl
    | some ob => have := (hk (Step.refl A (ownOf env) η₃ s₅.heap)).there ea ob w; rw [hnew] at this; cases this
  · cases w : s.heap.get? T with
    | none => rfl
    | some ob => have := (hk (Step.refl A (ownOf env) η₃ s₅.heap)).there T ob w; rw [t5] at this; cases this

theorem Inv.there (I : Inv c η pr A s) : ∀ b, pr b ∨ (η b).isSome = true → (s.heap.get? b).isSome = true := fun b q => by
  rcases q with q | q
  · exact (I.privs b q).1
  · obtain ⟨mo, e⟩ := Option.isSome_iff_exists.mp q
    obtain ⟨ob, w, _⟩ := (I.hrel b mo e).nofields; rw [w]; rfl

theorem SX.forJ {it : Expr} {body : List Stmt} (p : SJ c d nm σ η it t (fun G vs η₁ => ForLG c d nm t xs body N R X G vs σ η₁) X)
    (hs : ∀ env x, foldedSetIterable it env x = pure x := by intro _ _; with_unfolding_all rfl) : SX c d true nm σ η (.For t it body [] pos) N R X := by
  intro A env s pr outer o I F h1 h2
  refine wpAny_For (p A env s pr _ _ o I F (fun _ _ e => e.weak fun _ q => q.elim) fun G vs η₁ s₁ h₂ tk J I₀ St fl I₁ st₁ itr hJ hJf keep st0 => ?_) (hs env)
  have F₁ := F.step I st₁
  let pr' : Pr := fun b => pr b ∨ J b
  have hJ' : ∀ b, J b → pr' b := fun b j => .inr j
  have notOwn : ∀ b, J b → ¬ ownOf env b := fun b j q => by
    have : (s₁.heap.get? b).isSome = true := by
      rcases q with q | ⟨x, q⟩
      · rw [q]; exact (I₁.privs _ F₁.nsp).1
      · exact (I₁.privs _ (F₁.cells x b q).1).1
    rw [hJ b j] at this; cases this
  have I₂ : Inv c η₁ pr' A { s₁ with heap := h₂, toks := tk } := I₁.more keep hJ (fun b j => itr.nofr st0 j) tk
  have F₂ : FrameR c h₂ η₁ pr' nm env σ := F₁.more keep hJ
  have baseH : ∀ {η' : Hp} {h : Heap}, Step A (fun b => ownOf env b ∨ J b) η₁ h₂ η' h → Step A (ownOf env) η s.heap η' h := fun {η' h} st => by
    have q : Step A (fun b => ownOf env b ∨ J b) η₁ s₁.heap η' h := (Step.of_keeps keep).trans st
    exact st₁.own.trans (q.drop hJ)
  have base : ∀ {η' : Hp} {s' : Shared}, Step A (fun b => ownOf env b ∨ J b) η₁ h₂ η' s'.heap → Step A (ownOf env) η s.heap η' s'.heap := baseH
  refine codeAny_forLoop_any (fun m s' => ∃ i σ' η', m = vs.length + 1 - i ∧ i ≤ vs.length ∧ ForLG c d nm t xs body N R X G (vs.drop i) σ' η' ∧ Inv c η' pr' A s' ∧ FrameR c s'.heap η' pr' nm env σ' ∧ St i s'.heap η' pr' ∧
      Step A (fun b => ownOf env b ∨ J b) η₁ h₂ η' s'.heap) ?_ (vs.length + 1) ⟨0, σ, η₁, rfl, Nat.zero_le _, fl, I₂, F₂, st0, Step.refl ..⟩
  rintro m s₃ ⟨i, σ₃, η₃, rfl, hi, fl₃, I₃, F₃, st₃, stp₃⟩
  by_cases hlt : i < vs.length
  · have hv : vs[i]? = some vs[i] := List.getElem?_eq_getElem hlt
    have hdrop : vs.drop i = vs[i] :: vs.drop (i + 1) := List.drop_eq_getElem_cons hlt
    rw [hdrop] at fl₃
    refine wpAny_mono (itr.item (E := notedBy c.M A env fun e s' => cameBackBy c.M A env (Exc c A (ownOf env) pr η s.heap X) e s') (QQ := fun x s₄ => wpAny c.M A (PySem.assign t env x) (fun _ s₅ => wpAny c.M A (execs body env) (fun f s₆ => match f with
        | .next | .cont => ∃ m, m < vs.length + 1 - i ∧ ∃ i σ' η', m = vs.length + 1 - i ∧ i ≤ vs.length ∧ ForLG c d nm t xs body N R X G (vs.drop i) σ' η' ∧ Inv c η' pr' A s₆ ∧ FrameR c s₆.heap η' pr' nm env σ' ∧ St i s₆.heap η' pr' ∧ Step A (fun b => ownOf env b ∨ J b) η₁ h₂ η' s₆.heap
        | .brk => FPost c A pr nm env η s.heap N R .next s₆
        | .ret v => FPost c A pr nm env η s.heap N R (.ret v) s₆) (notedBy c.M A env fun e s' => cameBackBy c.M A env (Exc c A (ownOf env) pr η s.heap X) e s') s₅) (notedBy c.M A env fun e s' => cameBackBy c.M A env (Exc c A (ownOf env) pr η s.heap X) e s') s₄) hJ' I₃ fl₃.cond hv st₃ fun h₄ tk₄ x st₄ k₄ r₄ => ?_) (fun r s₄ q => ?_) fun _ _ e => e
    · have I₄ := I₃.wr k₄ hJ' (fun b j => itr.nofr st₄ j) hJf tk₄
      have F₄ := F₃.wr k₄ hJ' notOwn
      have stp₄ : Step A (fun b => ownOf env b ∨ J b) η₁ h₂ η₃ h₄ := stp₃.trans (Step.wr k₄ (fun b j => itr.nofr st₄ j) fun b j => .inr j)
      refine fl₃.2 A env _ pr' x _ _ o I₄ F₄ r₄ fun s₅ σ₅ ss₅ I₅ F₅ stp₅ => ?_
      have st₅ : St (i + 1) s₅.heap η₃ pr' := itr.move st₄ (stp₅.toMono (fun b q => by
          rcases ownX_of b q with q | ⟨x, q⟩
          · rw [q]; exact F₄.nsp
          · exact (F₄.cells x b q).1) I₄.frs) fun b j ob e => stp₅.same b ob e (I₄.privs b (hJ' b j)).2.1 (fun q => notOwn b j (ownX_of b q)) (hJf b j)
      refine wpAny_mono (ss₅ A env s₅ pr' outer o I₅ F₅ h1 h2) (fun f s₆ q₆ => ?_) fun _ _ e => loop_raise I₅ h1 h2 e (fun {η' h} st => baseH ((stp₄.trans (stp₅.weak fun b q => .inl (ownX_of b q))).trans (st.weak fun b q => .inl q))) (fun b q => .inl q) I.frs
      cases f with
      | next =>
        obtain ⟨σ₆, η₆, fl₆, I₆, F₆, stp₆⟩ := q₆
        refine ⟨vs.length + 1 - (i + 1), by omega, i + 1, σ₆, η₆, rfl, hlt, fl₆, I₆, F₆, ?_, (stp₄.trans (stp₅.weak fun b q => .inl (ownX_of b q))).trans (stp₆.weak fun b q => .inl q)⟩
        refine itr.move st₅ (stp₆.toMono (fun b q => by
          rcases q with q | ⟨x, q⟩
          · rw [q]; exact F₅.nsp
          · exact (F₅.cells x b q).1) I₅.frs) fun b j ob e => stp₆.same b ob e (I₅.privs b (hJ' b j)).2.1 (notOwn b j) (hJf b j)
      | ret r =>
        obtain ⟨w, η₆, q₆, I₆, r₆, stp₆⟩ := q₆
        exact ⟨w, η₆, q₆, I₆.less (fun b q => .inl q) I.frs, Rv.mono (Mono.down fun b q => .inl q) w r₆, base ((stp₄.trans (stp₅.weak fun b q => .inl (ownX_of b q))).trans (stp₆.weak fun b q => .inl q))⟩
      | brk => exact q₆.elim
      | cont => exact q₆.elim
    · cases r with
      | none => exact q.elim
      | some x => exact q
  · have hin : i = vs.length := by omega
    subst hin
    rw [List.drop_length] at fl₃
    refine itr.done (η := η₃) (pr := pr') I₃ fl₃.cond st₃ fun h₄ tk₄ k₄ => ?_
    refine wpAny_execs_nil ⟨σ₃, η₃, fl₃.2, ?_, ?_, ?_⟩
    · exact I₃.end k₄ (fun b q j => by have := (I₁.privs b q).1; rw [hJ b j] at this; cases this) I.frs tk₄
    · exact F.down (F₃.wr k₄ hJ' notOwn) fun b q => .inl q
    · exact (base stp₃).then_keep k₄ fun b j => by
        cases q : s.heap.get? b with
        | none => rfl
        | some ob => have := st₁.there b ob q; rw [hJ b j] at this; cases this
theorem SX.for {it : Expr} {body : List Stmt} (p : SE c d true nm σ η it (fun v η₁ => ∃ vs, SI c d t v η₁ vs ∧ ForL c d nm t xs body N R X vs σ η₁) X)
    (hs : ∀ env x, foldedSetIterable it env x = pure x := by intro _ _; with_unfolding_all rfl) : SX c d true nm σ η (.For t it body [] pos) N R X := SX.forJ (SJ.of (p.mono (fun _ _ ⟨vs, a, b⟩ => ⟨vs, a, b.toG⟩) fun _ _ q => q)) hs
theorem SS.for {it : Expr} {body : List Stmt} (xs : List Str) (p : SE c d true nm σ η it (fun v η₁ => ∃ vs, SI c d t v η₁ vs ∧ ForL c d nm t xs body (fun σ' η' => SS c d true nm σ' η' rest N R X) R X vs σ η₁) X)
    (hs : ∀ env x, foldedSetIterable it env x = pure x := by intro _ _; with_unfolding_all rfl) : SS c d true nm σ η (.For t it body [] pos :: rest) N R X := SS.cons (SX.for p hs)
theorem SS.forJ {it : Expr} {body : List Stmt} (xs : List Str) (p : SJ c d nm σ η it t (fun G vs η₁ => ForLG c d nm t xs body (fun σ' η' => SS c d true nm σ' η' rest N R X) R X G vs σ η₁) X)
    (hs : ∀ env x, foldedSetIterable it env x = pure x := by intro _ _; with_unfolding_all rfl) : SS c d true nm σ η (.For t it body [] pos :: rest) N R X := SS.cons (SX.forJ p hs)
end
end Mine

namespace Mine
open PySem PyProof.Rows PySem.W

/-- an own class of exceptions below ValueError -/
noncomputable def bmV : List Value := [.type "ValueError", .type "Exception", .type "BaseException", .type "object"]

theorem exc_obj {K : Frag} {h : Heap} {C : Addr} {bmB : List Value} {newId : String} (X : K.In h) (q : excIn K C bmB newId = true) :
    ∃ bm N nm qn bs hdct sn sub ab col dd k0 k1 k2 k3 k5 mN, h.get? C = some (excClassObj nm qn C N bs bm hdct sn sub ab col dd k0 k1 k2 k3 k5 newId) ∧ h.Ns N mN ∧ mN "__init__" = none ∧ OwnTail h bmB bm := by
  unfold excIn at q
  split at q
  case h_2 => cases q
  rename_i dd cd sl ho
  split at q
  case h_2 => cases q
  rename_i C' bm k0 k1 k2 k3 n k5 hm hs
  simp only [Bool.and_eq_true, beq_iff_eq, Bool.not_eq_true'] at q
  obtain ⟨⟨⟨⟨⟨rfl, rfl⟩, hdel⟩, ht⟩, hok⟩, hni⟩ := q
  have e : (⟨.type "type", dd, .cls cd, sl⟩ : Obj) = excClassObj cd.name cd.qualname C' cd.ns cd.bases bm cd.hasDict cd.slotNames cd.subclasses cd.abstract cd.collection dd k0 k1 k2 k3 k5 n := by
    unfold excClassObj
    obtain ⟨l⟩ := sl
    rw [show l = _ from hs]
    rw [← hm, ← hdel]
  exact ⟨bm, cd.ns, _, _, _, _, _, _, _, _, dd, k0, k1, k2, k3, k5, _, e ▸ X _ _ ho, .of_isNs (isNs_of_in X hok), nsMap_none_of_in X hok hni, tail_of_in X ht⟩

section
variable {c : Cx} {A : Around} {pr : Pr} {η η' η₁ : Hp} {s s' : Shared} {d : Nat} {hd : Bool} {nm : List (Str × NameKind)} {σ σ' : List (Option V)} {env : Env} {outer : List Env}
  {Q R R' : V → Hp → Prop} {B : Bool → Hp → Prop} {X X' : Addr → Hp → Prop} {N N' : List (Option V) → Hp → Prop} {v w : V} {x : Str} {pos np cp : Pos} {h₀ h₁ h' : Heap} {rest : List Stmt}
  {K : Params → Frag} {gt bt : List (Str × Value)} {C : Addr}

theorem SX.raise (W : Wd c K gt bt) {es : List Expr} (m : (x, NameKind.globalImplicit) ∈ nm) (mg : (x, .ref C) ∈ gt) (hC : excIn (K c.P) C bmV "ValueError.__new__" = true)
    (p : SL c d true nm σ η es (fun vs η₁ => vs.length ≤ sizeLine ∧ X C η₁) X) (hs : es.any star? = false := by with_unfolding_all rfl) (hn : (x == ("__debug__" : Str)) = false := by decide +kernel) :
    SX c d true nm σ η (.Raise (some (.Call (.Name x np) es [] cp)) none pos) N R X := by
  intro A env s pr outer o I F h1 h2
  obtain ⟨bm, NN, cn, qn, bs, hdct, sn, sub, ab, col, dd, k0, k1, k2, k3, k5, mN, e1, e2, e3, e4⟩ := exc_obj W.kin hC
  refine wpAny_Raise_call_subU (C := C) (N := NN) (bm := bm) (nm := cn) (q := qn) (bs := bs) (hdct := hdct) (sn := sn) (sub := sub) (ab := ab) (col := col) (dd := dd) (k0 := k0) (k1 := k1) (k2 := k2) (k3 := k3) (k5 := k5) (mN := mN) (bmB := bmV)
    (newId := "ValueError.__new__") PySem.F.excBase_ValueError (by rfl) PySem.F.excBase_ValueError (e4.hasType rfl) (o.handled rfl) (noStar hs) e3 ?_
  refine wpAny_mono (SE.glob (Q := fun v η' => v = .glob (.ref C) ∧ η' = η) (X := X) m (W.g mg) ⟨rfl, rfl⟩ hn A env s pr o I F) (fun f s₁ hq => ?_) fun _ _ e => e.weak fun _ q => q.elim
  obtain ⟨v, η₁, ⟨rfl, e⟩, I₁, rv, st⟩ := hq
  subst e
  unfold Rv at rv; subst rv
  refine ⟨rfl, evalArgs_SL p o I₁ (F.step I st) hs (fun vs η₂ s₂ xs q I₂ r st₂ => ?_) fun _ _ e => (e.older st).weak fun _ q => q.elim⟩
  refine ⟨rfl, by rw [rvs_length r]; exact q.1, I₂.stays _ _ e1, e2.keeps I₂.stays, e4.keeps I₂.stays, fun h' e mk => ?_⟩
  obtain ⟨t, he, ht, ht'⟩ := mk.there
  have nofl : ∀ b, exPr pr e h' b → pr b ∨ b = e := fun b q => by
    rcases exPr_fields he rfl q with q | q | q
    · exact .inl q
    · exact .inr q
    · cases q
  have I₃ : Inv c η₂ (fun b => pr b ∨ b = e) A { s₂ with heap := h' } := I₂.more (J := fun b => b = e) mk.keeps (fun b q => q ▸ mk.new) (fun b q => ⟨_, q ▸ he⟩) s₂.toks
  refine ⟨e, C, η₂, rfl, q.2, I₃.less nofl fun b f => .inl (I.frs b f), ((st.trans st₂).trans (Step.of_keeps mk.keeps)).own, ?_, .inl ⟨_, _, _, he, rfl, rfl, rfl, rfl⟩⟩
  cases w : s.heap.get? e with
  | none => rfl
  | some ob =>
    have := (st.trans st₂).there e ob w
    rw [mk.new] at this; cases this
theorem SS.raise (W : Wd c K gt bt) {es : List Expr} (m : (x, NameKind.globalImplicit) ∈ nm) (mg : (x, .ref C) ∈ gt) (hC : excIn (K c.P) C bmV "ValueError.__new__" = true)
    (p : SL c d true nm σ η es (fun vs η₁ => vs.length ≤ sizeLine ∧ X C η₁) X) (hs : es.any star? = false := by with_unfolding_all rfl) (hn : (x == ("__debug__" : Str)) = false := by decide +kernel) :
    SS c d true nm σ η (.Raise (some (.Call (.Name x np) es [] cp)) none pos :: rest) N R X := SS.cons (SX.raise W m mg hC p hs hn)

theorem Inv.mark {hv : Option Value} (I : Inv c η pr A s) : Inv c η pr (A.mark hv) s := ⟨I.stays, I.hrel, I.apart, I.privs, I.frames, I.frs, I.os, I.gens⟩
theorem Inv.unmark {hv : Option Value} (I : Inv c η pr (A.mark hv) s) : Inv c η pr A s := ⟨I.stays, I.hrel, I.apart, I.privs, I.frames, I.frs, I.os, I.gens⟩
theorem Step.unmark {hv : Option Value} {own : Pr} (x : Step (A.mark hv) own η h₀ η' h') : Step A own η h₀ η' h' := ⟨x.upto, x.same, x.there, x.dom, x.new⟩
theorem Ok.mark {hv : Option Value} (o : Ok d hd A) : Ok d false (A.mark hv) := ⟨⟨o.depth, o.units, (fun q => by cases q), o.guards⟩, o.live⟩

/-- an exception's class is matched -/
noncomputable def catches (K : Frag) (C W : Addr) : Bool := typeIn K (.ref W) == some (.type "type") && (clsIn K W).isSome && mroIn K W (.type "BaseException") == some true && mroIn K C (.ref W) == some true
theorem exc_matches {M : Model} {K : Frag} {W C e : Addr} {o : Obj} {Q : Bool → Shared → Prop} {E : Value → Shared → Prop} (k : K.In s.heap) (q : catches K C W = true) (ho : s.heap.get? e = some o) (hc : o.cls = .ref C) (h : Q true s) :
    wpAny M A (excMatches (.ref e) (.ref W)) Q E s := by
  unfold catches at q
  simp only [Bool.and_eq_true, beq_iff_eq] at q
  obtain ⟨⟨⟨q1, q2⟩, q3⟩, q4⟩ := q
  have L1 : Looks M s.heap (isInstance (.ref W) (.type "tuple")) false := (looks_typeIn k q1).andThen (looks_subIn k (K := K) (t := .type "type") (by rfl))
  have L2 : Looks M s.heap (isType (.ref W)) true := by
    obtain ⟨cd, q2⟩ := Option.isSome_iff_exists.mp q2
    unfold clsIn at q2
    split at q2
    · rename_i c' d' cd' sl' ho
      intro A' Q' E' s' k' q
      unfold isType loadHead
      exact wpAny_bind (wpAny_loadPart (k' _ _ (k _ _ ho)) (wpAny_pure q))
    · cases q2
  have L3 : Looks M s.heap (typeOf (.ref e)) (.ref C) := hc ▸ (Looks.ld ho).andThen .now
  have L4 := looks_mroIn (M := M) k q3
  have L5 := looks_mroIn (M := M) k q4
  unfold excMatches
  refine wpAny_bind (L1.here ?_)
  simp only [Bool.false_eq_true, if_false]
  refine wpAny_bind (wpAny_pure ?_)
  simp only [List.forIn_cons, List.forIn_nil, bind_assoc, pure_bind]
  unfold isExcClass
  simp only [bind_assoc]
  refine wpAny_bind (L2.here ?_)
  simp only [if_true]
  refine wpAny_bind (L4.here ?_)
  simp only [Bool.not_true, Bool.false_eq_true, if_false, bind_assoc, pure_bind]
  refine wpAny_bind (L3.here ?_)
  refine wpAny_bind (L5.here ?_)
  simp only [if_true, pure_bind]
  exact wpAny_pure h

/-- a call under try, caught -/
theorem SX.tryRet (W : Wd c K gt bt) {e e' : Expr} {n : Str} {rp rp' hp : Pos} {D : Addr} {hs : List ExceptHandler} (m : (x, NameKind.globalImplicit) ∈ nm) (mg : (x, .ref D) ∈ gt) (mn : (n, NameKind.local) ∈ nm)
    (p : SE c d true nm σ η e R (fun C η₁ => catches (K c.P) C D = true ∧ ∃ σ', Put nm σ n (.exc C) σ' ∧ SE c d false nm σ' η₁ e' R noX))
    (hn : (x == ("__debug__" : Str)) = false := by decide +kernel) :
    SX c d true nm σ η (.Try [.Return (some e) rp] (.ExceptHandler (some (.Name x np)) (some n) [.Return (some e') rp'] hp :: hs) [] [] pos) N R X := by
  intro A env s pr outer o I F h1 h2
  refine wpAny_Try_except (wpAny_execs_cons (wpAny_Return_some (wpAny_mono (p A env s pr o I F) (fun r s₁ hq => Post.weak hq fun _ q => q.elim) fun ev s₁ hx => ?_)))
  obtain ⟨ea, C, η₁, rfl, ⟨hcat, σ', put, ss⟩, I₁, st, hnew, t⟩ := hx
  refine (leave_both I₁ h1 h2 t hnew (fun b q => (I.privs b q).1) I.stays st.there fun h₂ a0 tr I₂ kp => ?_).2
  have st₂ : Step A noOwn η s.heap η₁ h₂ := by
    refine ⟨fun b ob e n w => ?_, fun b ob e n w f => ?_, fun b ob e => ?_, st.dom, st.new⟩
    · obtain ⟨sl, e'⟩ := st.upto b ob e n w
      obtain ⟨⟨sl', e''⟩, _⟩ := kp b _ e' (.inl (by rw [e]; rfl))
      exact ⟨sl', e''⟩
    · exact (kp b _ (st.same b ob e n w f) (.inl (by rw [e]; rfl))).2 f
    · obtain ⟨ob', e'⟩ := Option.isSome_iff_exists.mp (st.there b ob e)
      obtain ⟨⟨sl', e''⟩, _⟩ := kp b _ e' (.inl (by rw [e]; rfl))
      rw [e'']; rfl
  have F₂ := F.step I st₂
  have I₂' : Inv c η₁ pr A { s₁ with heap := h₂ } := I₂.less (fun b q => .inl q) I.frs
  have o' : Ok d false (A.mark (some (.ref ea))) := o.mark
  refine wpAny_handleBy_cons (codeAny_handlers_test ?_) (by intro q; cases q)
  refine wpAny_mono (SE.glob (Q := fun v η' => v = .glob (.ref D) ∧ η' = η₁) (X := noX) m (W.g mg) ⟨rfl, rfl⟩ hn (A.mark (some (.ref ea))) env _ pr o' I₂'.mark F₂) (fun f s₃ hq => ?_) fun _ _ e => e.absurd
  obtain ⟨v, η₃, ⟨rfl, e⟩, I₃, rv, st₃⟩ := hq
  subst e
  unfold Rv at rv; subst rv
  obtain ⟨oe, vs, T, oT, ts, t1, ⟨t2, t2'⟩, t3, t4, t5, t6, t7, t8, t9⟩ := tr
  have nfr : ∀ b, s.heap.get? b = none → ¬ isFr A b := fun b e f => by
    have := (I.privs b (I.frs b f)).1; rw [e] at this; cases this
  have npr : ∀ b, s.heap.get? b = none → ¬ pr b := fun b e f => by
    have := (I.privs b f).1; rw [e] at this; cases this
  have ηe := (I₂.privs ea (.inr (.inl rfl))).2.1
  have ηT := (I₂.privs T (.inr (.inr ⟨oe, vs, t1, t3, t4⟩))).2.1
  have u1 := st₃.same ea oe t1 ηe (fun q => q) (nfr ea hnew)
  have u7 := st₃.same T oT t7 ηT (fun q => q) (nfr T t5)
  refine exc_matches (W.kin.keeps I₃.stays) hcat u1 t2 ?_
  refine codeAny_handlers_suite_as (land_same (h₀ := s.heap) (cls := .ref C) (a0 := a0) (fl := none) ⟨oe, vs, T, oT, ts, u1, ⟨t2, t2'⟩, t3, t4, t5, t6, u7, t8, t9⟩ fun h₄ k₄ => ?_)
  have I₄ := I₃.grow k₄ s₃.toks
  have F₄ : FrameR c h₄ η₃ pr nm env σ := (F₂.step (s := { s₁ with heap := h₂ }) I₂' st₃.unmark).keeps k₄
  have rex : Rv c.P h₄ η₃ pr (.exc C) (.ref ea) := by
    unfold Rv; exact ⟨ea, oe, vs, rfl, k₄ _ _ u1, t2, t3, ηe, npr ea hnew⟩
  refine store_var (s := { s₃ with heap := h₄ }) I₄ F₄ put rex fun s₅ I₅ F₅ st₅ _ => ?_
  refine wpAny_execs_cons (wpAny_Return_some (wpAny_mono (ss (A.mark (some (.ref ea))) env s₅ pr o' I₅ F₅) (fun r s₆ hq => ?_) fun _ _ e => e.absurd))
  have all : Step A (ownOf env) η s.heap η₃ s₅.heap := ((st₂.own.trans st₃.unmark.own).trans (Step.of_keeps k₄)).trans (st₅.unmark.weak ownX_of)
  obtain ⟨rv', η₆, q₆, I₆, r₆, st₆⟩ := hq
  have st₆' := all.trans st₆.unmark.own
  obtain ⟨m6, hm6⟩ := (F₅.step I₅.unmark st₆.unmark).ns
  refine wpAny_nameGoes (F.kindOf mn) hm6 (by rw [F.kind]; rfl) fun h₇ m₇ hm₇ sb => ?_
  obtain ⟨oL, es, ep, eL, dL, _⟩ := id hm₇
  exact ⟨rv', η₆, q₆, I₆.unmark.but sb F.nsp ⟨oL, eL, fun vs q => by rw [dL] at q; cases q⟩, Rv.mono (Mono.of_but sb F.nsp) _ r₆, st₆'.trans (Step.of_but sb (.inl rfl) fun _ => by rw [eL]; rfl)⟩
theorem SS.tryRet (W : Wd c K gt bt) {e e' : Expr} {n : Str} {rp rp' hp : Pos} {D : Addr} {hs : List ExceptHandler} (m : (x, NameKind.globalImplicit) ∈ nm) (mg : (x, .ref D) ∈ gt) (mn : (n, NameKind.local) ∈ nm)
    (p : SE c d true nm σ η e R (fun C η₁ => catches (K c.P) C D = true ∧ ∃ σ', Put nm σ n (.exc C) σ' ∧ SE c d false nm σ' η₁ e' R noX))
    (hn : (x == ("__debug__" : Str)) = false := by decide +kernel) :
    SS c d true nm σ η (.Try [.Return (some e) rp] (.ExceptHandler (some (.Name x np)) (some n) [.Return (some e') rp'] hp :: hs) [] [] pos :: rest) N R X := SS.cons (SX.tryRet W m mg mn p hn)

end

section
open PySem.Calls Builtin Builtin.ObjectAttr Builtin.Getset_descriptor
variable {prog : Program} {w : World} {A : Around} {E : Value → Shared → Prop} {s : Shared} {Kf : Frag} {e C : Addr}
-- isinstance of an exception
theorem exc_find {M : Model} {h : Heap} (X : Kf.In h) {nme : Str} {a g : Value} (ha : findIn Kf (.ref C) nme = some (some a)) (hg : specialIn Kf a "__get__" = some (some g)) (ht : takesIn Kf a = some true) :
    Looks M h (find (.ref e) (.ref C) nme) (.bind g a) := by
  refine (looks_findIn X ha).andThen ((show Looks M h (getOf (some a)) (some g) from looks_specialIn X hg).andThen ?_)
  exact (show Looks M h (dataDescriptor? (some a) (some g)) (some (g, a)) from (looks_takesIn X ht).andThen .now).andThen (Looks.tag .now)

theorem exc_get {R : Result → Shared → Prop} {tp : Value} (X : Kf.In s.heap) (T : Looks (model prog w) s.heap (typeOf (.ref e)) (.ref C)) (hm : mroIn Kf C (.type "object") = some true) (h : R (.ok (.ret (.ref C))) s) :
    codeAny (model prog w) A (.call (.builtin "getset_descriptor.__get__") ⟨[.builtin "object.__class__", .ref e, tp], []⟩) R s := by
  obtain ⟨hh, g, dr, t, os⟩ := s
  have L1 := looks_mroIn (M := model prog w) X hm
  refine codeAny_call_builtin KF.slot_gs.plain KF.entry_gs (KF.slot_gs.check _ _ _ _ _ _ _ _ KF.type_class (KF.args_gs _ _ _) ?_)
  unfold Builtin.«getset_descriptor.__get__» descrGet
  rw [dga_obj]
  refine wpAny_bind (wpAny_pure ?_)
  unfold descrGetter descrCheckInstance descrNameAndClass isInstance
  simp only [KF.owner_class]
  repeat lk
  refine ⟨Code.quiet_builtin _ (by decide +kernel), codeAny_builtin KF.entry_class ?_⟩
  unfold Builtin.«object.__class__» shownTypeOf
  repeat lk
  exact h

theorem exc_class {Q : Option Value → Shared → Prop} (X : Kf.In s.heap) (L0 : Looks (model prog w) s.heap (typeOf (.ref e)) (.ref C)) (hg : plainGet Kf C "__class__" = true) (ha : findIn Kf (.ref C) "__class__" = some (some (.builtin "object.__class__")))
    (hn : specialIn Kf (.builtin "object.__class__") "__get__" = some (some (.builtin "getset_descriptor.__get__"))) (htk : takesIn Kf (.builtin "object.__class__") = some true) (hm : mroIn Kf C (.type "object") = some true)
    (h : Q (some (.ref C)) { s with toks := s.toks + 1 }) : wpAny (model prog w) A (getAttr? (.ref e) "__class__") Q E s := by
  have hh : wpAny (model prog w) A.in1 (Builtin.«proto.getattr_hooked» ⟨[.ref e, .str "__class__" s.toks], []⟩)
      (fun fin s' => match fin with | .done (.ret v) => wpAny (model prog w) A (handedOut v) (fun v s'' => Q (some v) s'') (fun _ _ => False) s' | _ => False) (fun _ _ => False) { s with toks := s.toks + 1 } := by
    obtain ⟨hh, gg, d, t, os⟩ := s
    have L1 := exc_find (M := model prog w) (e := e) X ha hn htk
    have L2 := looks_findIn (M := model prog w) X (plainGet_of hg).2
    refine wpAny_bind (wpAny_pure (wpAny_bind (L0.at (wpAny_bind (L1.at (wpAny_bind (L2.at ?_)))))))
    show wpAny _ _ (holding [_] (call _ [_, .ref e, .ref C]) >>= ret) _ _ _
    exact wpAny_bind (wpAny_holding (wpAny_mono (wpAny_call (exc_get (s := ⟨hh, gg, d, t + 1, os⟩) X L0 hm (handed_on (E := fun _ _ => False) (Q := fun v s'' => Q (some v) s'') rfl h))) (fun v s' z => wpAny_pure z) fun _ _ z => z))
  obtain ⟨h', g, d, t, os⟩ := s
  have L1 := looks_findIn (M := model prog w) X (plainGet_of hg).1
  unfold getAttr? getAttrBy? getAttrBy
  refine wpAny_bind (wpAny_mkText (wpAny_bind (wpAny_attempt (wpAny_holding (wpAny_bind (L0.at (wpAny_bind (L1.at ?_))))))))
  show wpAny _ _ (getAttrEveryday _ _ _) _ _ _
  refine wpAny_bind (wpAny_onRaise (wpAny_runValue (codeAny_builtin F.plainObj_entry_getattr_hooked (wpAny_mono hh (fun fin s' z => ?_) fun _ _ z => z.elim))))
  rcases fin with (_ | _ | _ | _) | _ <;> first | exact wpAny_mono z (fun v s'' hv => wpAny_pure hv) (fun _ _ z => z.elim) | exact z.elim
end
end Mine

namespace Mine
open PySem PyProof.Rows PySem.W

section
open PySem.Calls Builtin Builtin.ObjectAttr Builtin.Getset_descriptor
variable {prog : Program} {w : World} {A : Around} {E : Value → Shared → Prop} {Kf : Frag} {e C : Addr} {o : Obj} {h : Heap} {g : Array GenState} {d : Drawn} {t : Nat} {os : OsState}

theorem exc_entry {tk : Tok} {Q : Fin → Shared → Prop} (X : Kf.In h) (hx : h.get? e = some o) (hc : o.cls = .ref C) (ha : findIn Kf (.ref C) "__class__" = some (some (.builtin "object.__class__")))
    (hn : specialIn Kf (.builtin "object.__class__") "__get__" = some (some (.builtin "getset_descriptor.__get__"))) (htk : takesIn Kf (.builtin "object.__class__") = some true) (hm : mroIn Kf C (.type "object") = some true)
    (hq : Q (.done (.ret (.ref C))) ⟨h, g, d, t, os⟩) :
    wpAny (model prog w) A (Builtin.«object.__getattribute__» ⟨[.ref e, .str "__class__" tk], []⟩) Q E ⟨h, g, d, t, os⟩ := by
  have L0 : Looks (model prog w) h (typeOf (.ref e)) (.ref C) := hc ▸ (Looks.ld hx).andThen .now
  have L1 := exc_find (M := model prog w) (e := e) X ha hn htk
  unfold Builtin.«object.__getattribute__»
  repeat (any_goals (first | assumption | with_reducible refine L0.at ?_ | with_reducible refine L1.at ?_ | wp_step))
  refine exc_get (s := ⟨h, g, d, t, os⟩) X L0 hm ?_
  repeat (any_goals (first | assumption | wp_step))

theorem exc_check {M : Model} {nameV : Value} {Q : Unit → Shared → Prop} (X : Kf.In h) (hx : h.get? e = some o) (hc : o.cls = .ref C) (hb : mroIn Kf C (.type "BaseException") = some true) (hq : Q () ⟨h, g, d, t, os⟩) :
    wpAny M A (checkBuiltinCall "BaseException.__getattribute__" ⟨[.ref e, nameV], []⟩) Q E ⟨h, g, d, t, os⟩ := by
  have hk : builtinKind "BaseException.__getattribute__" = some .slot := by decide +kernel
  have hsplit : splitId "BaseException.__getattribute__" = some ("BaseException", "__getattribute__") := by decide +kernel
  have ha := PySem.F.args_bexc_ga (.ref e) nameV
  have L0 : Looks M h (typeOf (.ref e)) (.ref C) := hc ▸ (Looks.ld hx).andThen .now
  have L1 : Looks M h (isInstance (.ref e) (.type "BaseException")) true := L0.andThen (looks_mroIn X hb)
  simp only [checkBuiltinCall, hk, hsplit]
  refine wpAny_bind (L1.at ?_)
  repeat (first | assumption | wp_step)

theorem exc_classB {Q : Option Value → Shared → Prop} (X : Kf.In h) (hx : h.get? e = some o) (hc : o.cls = .ref C) (hga : findIn Kf (.ref C) "__getattribute__" = some (some (.builtin "BaseException.__getattribute__"))) (hgt : findIn Kf (.ref C) "__getattr__" = some none)
    (ha : findIn Kf (.ref C) "__class__" = some (some (.builtin "object.__class__")))
    (hn : specialIn Kf (.builtin "object.__class__") "__get__" = some (some (.builtin "getset_descriptor.__get__"))) (htk : takesIn Kf (.builtin "object.__class__") = some true) (hm : mroIn Kf C (.type "object") = some true)
    (hb : mroIn Kf C (.type "BaseException") = some true) (hq : Q (some (.ref C)) ⟨h, g, d, t + 1, os⟩) : wpAny (model prog w) A (getAttr? (.ref e) "__class__") Q E ⟨h, g, d, t, os⟩ := by
  have L0 : Looks (model prog w) h (typeOf (.ref e)) (.ref C) := hc ▸ (Looks.ld hx).andThen .now
  have L1 := looks_findIn (M := model prog w) X hga
  have L2 := looks_findIn (M := model prog w) X hgt
  have f3 := PySem.F.excAttr_ValueError.ga.bind (.ref e)
  have hx2 : (Value.builtin "BaseException.__getattribute__" == Value.builtin "object.__getattribute__") = false := by decide +kernel
  have hx1 : (onTheHeap (Value.ref C) && Value.builtin "BaseException.__getattribute__" == Value.builtin "object.__getattribute__") = false := by rw [hx2]; rfl
  unfold getAttr? getAttrBy? getAttrBy
  refine wpAny_bind (wpAny_mkText (wpAny_bind (wpAny_attempt (wpAny_holding (wpAny_bind (L0.at (wpAny_bind (L1.at ?_))))))))
  dsimp only
  rw [if_neg (by rw [hx1]; decide)]
  repeat (any_goals (first | assumption | with_reducible refine L0.at ?_ | with_reducible refine L2.at ?_ | wp_step))
  refine codeAny_call_builtin PySem.F.excAttr_ValueError.ga.plain PySem.F.entry_bexc_ga (exc_check X hx hc hb (exc_entry X hx hc ha hn htk hm ?_))
  exact handed_on rfl (wpAny_pure hq)
end

/-- a class whose instances tell their class as object does -/
noncomputable def clsOk (K : Frag) (C : Addr) : Bool := (clsIn K C).isSome && (plainGet K C "__class__" || (findIn K (.ref C) "__getattribute__" == some (some (.builtin "BaseException.__getattribute__")) && findIn K (.ref C) "__getattr__" == some none && mroIn K C (.type "BaseException") == some true)) &&
  findIn K (.ref C) "__class__" == some (some (.builtin "object.__class__")) &&
  specialIn K (.builtin "object.__class__") "__get__" == some (some (.builtin "getset_descriptor.__get__")) && takesIn K (.builtin "object.__class__") == some true && mroIn K C (.type "object") == some true

theorem kitx_at {K : Frag} {e C : Addr} (q : clsOk K C = true) : KitX K (.ref e) (.ref C) (fun h => ∃ o, h.get? e = some o ∧ o.cls = .ref C) := by
  unfold clsOk at q
  simp only [Bool.and_eq_true, Bool.or_eq_true, beq_iff_eq] at q
  obtain ⟨⟨⟨⟨⟨q0, q1⟩, q2⟩, q3⟩, q4⟩, q5⟩ := q
  obtain ⟨cd, q0⟩ := Option.isSome_iff_exists.mp q0
  unfold clsIn at q0
  split at q0
  case h_2 => cases q0
  rename_i c' d' cd' sl' ho
  have ty : ∀ (M : Model) (h : Heap), (∃ o, h.get? e = some o ∧ o.cls = .ref C) → Looks M h (typeOf (.ref e)) (.ref C) := fun M h ⟨o, w1, w2⟩ => w2 ▸ (Looks.ld w1).andThen .now
  refine ⟨fun M h _ p => ty M h p, fun M h X _ => ?_, fun h tp dd its n sl X htp => ?_, fun {prog w A E Q s} X p k => ?_⟩
  · intro A' Q' E' s' k q
    unfold isType loadHead
    exact wpAny_bind (wpAny_loadPart (k _ _ (X _ _ ho)) (wpAny_pure q))
  · refine Bool.eq_false_iff.mpr fun q => ?_
    have e : C = tp := Value.ref.inj (beq_iff_eq.mp q)
    subst e
    have z := (X _ _ ho).symm.trans htp
    cases z
  · rcases q1 with q1 | ⟨⟨q6, q7⟩, q8⟩
    · exact exc_class X (ty _ _ p) q1 q2 q3 q4 q5 k
    · obtain ⟨o, w1, w2⟩ := p
      obtain ⟨h, g, d, t, os⟩ := s
      exact exc_classB X w1 w2 q6 q7 q2 q3 q4 q5 q8 k

section
variable {c : Cx} {A : Around} {pr : Pr} {η η' η₁ : Hp} {s s' : Shared} {d : Nat} {hd : Bool} {nm : List (Str × NameKind)} {σ σ' : List (Option V)}
  {Q R : V → Hp → Prop} {X : Addr → Hp → Prop} {v w : V} {x : Str} {pos : Pos} {K : Params → Frag} {gt bt : List (Str × Value)} {C : Addr}

theorem SC.isi_exc (W : Wd c K gt bt) {t : Value} {b : Bool} (hC : clsOk (K c.P) C = true) (hb : kitOne (K c.P) (.ref C) t = some b) (q : Q (.bool b) η) : SC c d hd (.builtin "isinstance") [.exc C, .glob t] η Q X := by
  intro A s pr xs o I r
  obtain ⟨y, z, rfl, ry, rz⟩ := rvs2 r
  unfold Rv at ry rz
  subst rz
  obtain ⟨e, ob, fs, rfl, he, hc, _⟩ := ry
  refine kia_one (kitx_at hC) (W.kin.keeps I.stays) ⟨ob, he, hc⟩ hb (by intro q; cases q) fun tk => ?_
  exact Post.pure (v := .bool b) I (fun _ _ e => e) rfl q
end
end Mine

namespace Mine
open PySem PyProof.Rows PySem.W

section
variable {c : Cx} {A : Around} {pr : Pr} {η η' η₁ : Hp} {s s' : Shared} {d : Nat} {hd : Bool} {nm : List (Str × NameKind)} {σ σ' : List (Option V)} {env : Env}
  {Q R : V → Hp → Prop} {X : Addr → Hp → Prop} {v w : V} {x : Str} {pos ap : Pos} {K : Params → Frag} {gt bt : List (Str × Value)} {C : Addr}

/-- a value's method -/
noncomputable def Meth (c : Cx) (v : V) (η : Hp) (name : Str) (f : Value) : Prop :=
  ∀ A s pr y pl (QQ : Value × List Value → Shared → Prop) (E : Value → Shared → Prop), Inv c η pr A s → Rv c.P s.heap η pr v y → (∀ t, QQ (f, [y]) { s with toks := t }) → wpAny c.M A (getMethod y name pl) QQ E s

theorem meth_eq {e : Expr} {name : Str} {es : List Expr} (hs : es.any star? = false) (hn : decide (es.length < 30) = true) (hl : (ap.endLine == pos.line) = true) (hb : ∀ env, attributeBase e name env (eval e env) = eval e env) (env : Env) :
    eval (.Call (.Attribute e name ap) es [] pos) env = (do
      let ov ← eval e env
      standAt ap.atName
      let (f, first) ← holding [ov] (getMethod ov name (do return (← importBound e env).getD true))
      callWith pos f first (backTo pos (starEach es env)) (backToKw pos (keywordEach [] env))) := by
  have h1 : (backTo pos (starEach es env)).all (fun p => !p.1) = true := by
    have := noStar (pos := pos) (env := env) hs
    rw [List.all_eq_true]
    rw [List.any_eq_false] at this
    intro x m
    simpa using this x m
  have hf : methodCallForm (es.length + ([] : List Keyword).length) (backTo pos (starEach es env)) (backToKw pos (keywordEach [] env)) = true := by
    unfold methodCallForm
    rw [h1]
    show (true && true && decide (es.length + 0 + 0 < 30)) = true
    simpa using hn
  rw [arm_eval_Call, hb]
  unfold methodCall calleeOf methodCallPos
  rw [hf, hl]
  rfl

theorem SE.meth {e : Expr} {name : Str} {es : List Expr} (p : SE c d hd nm σ η e (fun v η₁ => ∃ f, Meth c v η₁ name f ∧ Callee c f ∧ SL c d hd nm σ η₁ es (fun vs η₂ => SC c d hd f (v :: vs) η₂ Q X) X) X)
    (hb : ∀ env, attributeBase e name env (eval e env) = eval e env := by intro _; with_unfolding_all rfl) (hs : es.any star? = false := by with_unfolding_all rfl) (hn : decide (es.length < 30) = true := by with_unfolding_all rfl) (hl : (ap.endLine == pos.line) = true := by with_unfolding_all rfl) :
    SE c d hd nm σ η (.Call (.Attribute e name ap) es [] pos) Q X := by
  intro A env s pr o I F
  refine methodCall_KW (wpAny_mono (p A env s pr o I F) (fun y s₁ hq => ?_) fun _ _ e => e) (meth_eq hs hn hl hb env)
  obtain ⟨v, η₁, ⟨f, mt, cf, sl⟩, I₁, rv, st⟩ := hq
  refine mt A s₁ pr y _ _ _ I₁ rv fun t => ?_
  have I₂ := I₁.toks t
  refine callWith_SL (s := { s₁ with toks := t }) cf sl o I₂ (F.step I st) hs (fun vs η₂ s₂ xs q I₂ r st₂ => ?_) fun _ _ e => e.older st
  exact wpAny_mono (q A s₂ pr (y :: xs) o I₂ ⟨y, xs, rfl, Rv.step (s := { s₁ with toks := t }) rv (I₁.toks t) st₂, r⟩) (fun _ _ e => e.older (st.trans st₂)) fun _ _ e => e.older (st.trans st₂)

theorem Callee.bi {id : String} : Callee c (.builtin id) := .inl ⟨_, rfl⟩
theorem Callee.ty {T : String} : Callee c (.type T) := .inr (.inl ⟨_, rfl⟩)
theorem Meth.join {u : Str} : Meth c (.str u) η "join" (.builtin "str.join") := fun A s pr y pl QQ E I r q => by
  unfold Rv at r; obtain ⟨t, rfl⟩ := r; exact GM.join (q s.toks)

theorem rvs_strs {P : Params} {h : Heap} : ∀ {ys : List Str} {xs : List Value}, Rvs P h η pr (ys.map V.str) xs → StrsAre xs ys
  | [], _, r => by unfold List.map Rvs at r; subst r; exact .nil
  | y :: ys, _, r => by
    rw [List.map_cons] at r; unfold Rvs at r; obtain ⟨z, zs, rfl, rz, rs⟩ := r
    unfold Rv at rz; obtain ⟨t, rfl⟩ := rz; exact .cons _ _ (rvs_strs rs)
theorem SC.join_lst {u : Str} {ys : List Str} (hz : (ys.map (·.length)).sum + ys.length * u.length ≤ 16777216) (q : Q (.str (Txt.join u ys)) η) : SC c d hd (.builtin "str.join") [.str u, .lst (ys.map V.str)] η Q X := by
  intro A s pr xs o I r
  obtain ⟨y, z, rfl, ry, rz⟩ := rvs2 r
  unfold Rv at ry rz
  obtain ⟨t, rfl⟩ := ry
  obtain ⟨a, zs, n, rfl, ho, _, _, rs⟩ := rz
  exact join_list ⟨_, ho, rfl, _, rfl⟩ (by simpa using rvs_strs rs) hz fun t' k => Post.tok (v := .str _) I k ⟨_, rfl⟩ q

theorem SE.dict0 (q : Q (.dct [] []) η) : SE c d hd nm σ η (.Dict [] [] pos) Q X := fun A env s pr o I F =>
  wpAny_Dict_empty (Post.pure (t := s.toks) (v := .dct [] []) I (fun _ _ e => Heap.get?_push_of_some _ e) ⟨_, [], #[], _, rfl, Heap.get?_push_size _ rfl, Rvs.fresh (vs := []) (xs := []) I, .nil, rfl⟩ q)
end
end Mine

namespace Mine
open PySem PyProof.Rows PySem.W

theorem len_ok {n : Nat} (h : Nat.ble n 10000 = true := by with_unfolding_all rfl) : n ≤ sizeLine := Nat.le_trans (Nat.le_of_ble_eq_true h) (by decide)

theorem iteT {a b : Prop} (h : a) : if true = true then a else b := h
theorem iteF {a b : Prop} (h : b) : if false = true then a else b := h
theorem iteNT {a b : Prop} (h : b) : if (!true) = true then a else b := h
theorem iteNF {a b : Prop} (h : a) : if (!false) = true then a else b := h
theorem iteS {a b : Prop} {u : Bool} (h : u = true → a) (h' : u = false → b) : if u = true then a else b := by cases u <;> simp_all

theorem gcd_step (a b : Int) (hb : 0 < b) : Int.gcd b (a.fmod b) = Int.gcd a b := by
  rw [Int.fmod_eq_emod_of_nonneg _ (by omega), Int.gcd_comm b]
  have := Int.gcd_add_mul_right_left b (a % b) (a / b)
  have e : a % b + a / b * b = a := by rw [Int.mul_comm]; exact Int.emod_add_mul_ediv a b
  rw [e] at this
  exact this.symm

theorem natAbs_log2_lt {a : Int} {k : Nat} (h : a.natAbs < 2 ^ k) (hk : 0 < k) : a.natAbs.log2 < k := by
  by_cases e : a.natAbs = 0
  · rw [e]; simpa using hk
  · exact (Nat.log2_lt e).mpr h
theorem noPylong_pow {a b : Int} (h : b.natAbs < 2 ^ 9000) : Builtin.divisionGoesByPylong a b = false := PyProof.noPylong_of_log2 (natAbs_log2_lt h (by decide))
theorem bits_le {a : Int} {k : Nat} (h : a.natAbs < 2 ^ k) : Builtin.Int.intBits a ≤ k := by
  unfold Builtin.Int.intBits
  split
  · exact Nat.zero_le _
  · rename_i q
    have : a.natAbs ≠ 0 := fun e => q (by simp [Int.natAbs_eq_zero.mp e])
    exact (Nat.log2_lt this).mpr h
section
variable {c : Cx} {A : Around} {pr : Pr} {η η' : Hp} {s : Shared} {d d' : Nat} {hd : Bool}
  {Q R : V → Hp → Prop} {X : Addr → Hp → Prop} {v w : V}
theorem S2.itemI_lst {e i : Expr} {vs : List V} {j : Int} {u : V} (h0 : 0 ≤ j) (hu : vs[j.toNat]? = some u) (q : Q u η) (hs : notSlice i = true := by with_unfolding_all rfl) : S2 c d hd (subscriptTail e i) (.lst vs) (.int j) η Q X := by
  rw [← Int.toNat_of_nonneg h0]; exact S2.item_lst hu q hs
theorem S2.itemI_tup {e i : Expr} {vs : List V} {j : Int} {u : V} (h0 : 0 ≤ j) (hu : vs[j.toNat]? = some u) (q : Q u η) (hs : notSlice i = true := by with_unfolding_all rfl) : S2 c d hd (subscriptTail e i) (.tup vs) (.int j) η Q X := by
  rw [← Int.toNat_of_nonneg h0]; exact S2.item_tup hu q hs
theorem S1.negI {a : Int} (q : Q (.int (-a)) η) : S1 c d hd (unaryOp .USub) (.int a) η Q X := fun _ _ _ _ _ I r => by
  unfold Rv at r; obtain ⟨t, rfl⟩ := r
  exact PySem.P.neg_int (Post.pure (v := .int (-a)) I (fun _ _ e => e) ⟨_, rfl⟩ q)
end
end Mine

namespace Mine
open PySem PyProof.Rows PySem.W

noncomputable def initσ : List V → List (Str × NameKind) → List (Option V)
  | v :: vs, _ :: nm => some v :: initσ vs nm
  | [], _ :: nm => none :: initσ [] nm
  | _, [] => []
noncomputable def prefOk : List Arg → List (Str × NameKind) → Bool
  | a :: as, p :: nm => a.arg == p.1 && prefOk as nm
  | [], _ => true
  | _ :: _, [] => false
theorem initσ_nil (ps : List Str) (ws : List V) : ∀ (nm : List (Str × NameKind)), InitR ps ws nm (initσ [] nm)
  | [] => by unfold initσ; exact .nil
  | p :: nm => by unfold initσ; exact .skip (initσ_nil ps ws nm)
theorem initσ_ok {ps : List Str} {ws : List V} : ∀ (as : List Arg) (vs : List V) (nm : List (Str × NameKind)), prefOk as nm = true → as.length = vs.length → (∀ p ∈ (as.map (·.arg)).zip vs, p ∈ ps.zip ws) → InitR ps ws nm (initσ vs nm)
  | [], [], nm, _, _, _ => initσ_nil ps ws nm
  | [], _ :: _, _, _, e, _ => by cases e
  | _ :: _, [], _, _, e, _ => by cases e
  | a :: as, v :: vs, [], h, _, _ => by cases h
  | a :: as, v :: vs, (x, k) :: nm, h, e, m => by
    unfold prefOk at h
    simp only [Bool.and_eq_true, beq_iff_eq] at h
    unfold initσ
    refine .bind (m (x, v) ?_) (initσ_ok as vs nm h.2 (by simpa using e) fun p q => m p ?_)
    · rw [List.map_cons, List.zip_cons_cons, h.1]; exact .head _
    · rw [List.map_cons, List.zip_cons_cons]; exact .tail _ q

section
variable {c : Cx} {K : Params → Frag} {gt bt : List (Str × Value)} {η : Hp} {d : Nat} {hd : Bool} {Q : V → Hp → Prop} {X : Addr → Hp → Prop}
theorem SCc.def (W : Wd c K gt bt) {a : Addr} {as : List Arg} {body : List Stmt} {vs : List V} {oc kV doc pm cdv ct : Value} {od an : Option Addr} {sl : Array (Option Value)} {name qual : Str} {scope : Scope}
    (ho : (K c.P).lookup a = some ⟨oc, od, .func (fnOf name qual (plainArgs as) body scope .none kV doc pm an cdv ct), sl⟩) (hcd : codeIn (K c.P) cdv qual = true) (htab : (tabOk scope.names as && prefOk as scope.names) = true)
    (hb : SS c d hd scope.names (initσ vs scope.names) η body (fun _ η' => Q .none η') Q X)
    (hl : as.length = vs.length := by with_unfolding_all rfl) (hco : scope.isCoroutine = false := by with_unfolding_all rfl) (hgen : scope.isGenerator = false := by with_unfolding_all rfl) (hk : scope.kind = .function := by with_unfolding_all rfl) : SCc c (d + 1) hd (.ref a) vs η Q X := by
  rw [Bool.and_eq_true] at htab
  exact SCc.fn W ho hcd htab.1 (initσ_ok as vs _ htab.2 hl fun _ q => q) hb hl hco hgen hk
/-- the def's text is looked up in the program -/
theorem SCc.def2 (W : Wd c K gt bt) {a : Addr} {as : List Arg} {body : List Stmt} {vs : List V} {oc kV doc pm cdv ct : Value} {od an : Option Addr} {sl : Array (Option Value)} {name qual : Str} {scope : Scope} {s : Stmt} {r : List Stmt} {p : Str × NameKind} {ps : List (Str × NameKind)}
    (ho : (K c.P).lookup a = some ⟨oc, od, .func (fnOf name qual (plainArgs as) body scope .none kV doc pm an cdv ct), sl⟩) (hcd : codeIn (K c.P) cdv qual = true) (htab : (tabOk scope.names as && prefOk as scope.names) = true) (h1 : body = s :: r) (h2 : scope.names = p :: ps)
    (hb : SS c d hd (p :: ps) (initσ vs (p :: ps)) η (s :: r) (fun _ η' => Q .none η') Q X)
    (hl : as.length = vs.length := by with_unfolding_all rfl) (hco : scope.isCoroutine = false := by with_unfolding_all rfl) (hgen : scope.isGenerator = false := by with_unfolding_all rfl) (hk : scope.kind = .function := by with_unfolding_all rfl) : SCc c (d + 1) hd (.ref a) vs η Q X := by
  subst h1
  exact SCc.def W ho hcd htab (by rw [h2]; exact hb) hl hco hgen hk
theorem SC.def2 (W : Wd c K gt bt) {a : Addr} {as : List Arg} {body : List Stmt} {vs : List V} {oc kV doc pm cdv ct : Value} {od an : Option Addr} {sl : Array (Option Value)} {name qual : Str} {scope : Scope} {s : Stmt} {r : List Stmt} {p : Str × NameKind} {ps : List (Str × NameKind)}
    (ho : (K c.P).lookup a = some ⟨oc, od, .func (fnOf name qual (plainArgs as) body scope .none kV doc pm an cdv ct), sl⟩) (hcd : codeIn (K c.P) cdv qual = true) (htab : (tabOk scope.names as && prefOk as scope.names) = true) (h1 : body = s :: r) (h2 : scope.names = p :: ps)
    (hb : SS c d hd (p :: ps) (initσ vs (p :: ps)) η (s :: r) (fun _ η' => Q .none η') Q X)
    (hl : as.length = vs.length := by with_unfolding_all rfl) (hco : scope.isCoroutine = false := by with_unfolding_all rfl) (hgen : scope.isGenerator = false := by with_unfolding_all rfl) (hk : scope.kind = .function := by with_unfolding_all rfl) : SC c (d + 1) hd (.ref a) vs η Q X := (SCc.def2 W ho hcd htab h1 h2 hb hl hco hgen hk).to
theorem SC0.def2 (W : Wd c K gt bt) {a : Addr} {as : List Arg} {body : List Stmt} {vs : List V} {oc kV doc pm cdv ct : Value} {od an : Option Addr} {sl : Array (Option Value)} {name qual : Str} {scope : Scope} {s : Stmt} {r : List Stmt} {p : Str × NameKind} {ps : List (Str × NameKind)}
    (ho : (K c.P).lookup a = some ⟨oc, od, .func (fnOf name qual (plainArgs as) body scope .none kV doc pm an cdv ct), sl⟩) (hcd : codeIn (K c.P) cdv qual = true) (htab : (tabOk scope.names as && prefOk as scope.names) = true) (h1 : body = s :: r) (h2 : scope.names = p :: ps)
    (hb : SS c d hd (p :: ps) (initσ vs (p :: ps)) η (s :: r) (fun _ η' => Q .none η') Q X)
    (hl : as.length = vs.length := by with_unfolding_all rfl) (hco : scope.isCoroutine = false := by with_unfolding_all rfl) (hgen : scope.isGenerator = false := by with_unfolding_all rfl) (hk : scope.kind = .function := by with_unfolding_all rfl) : SC0 c (d + 1) hd (.ref a) vs η Q X := (SCc.def2 W ho hcd htab h1 h2 hb hl hco hgen hk).to0
end
end Mine

namespace Mine
open PySem PyProof.Rows PySem.W

/-- what a comprehension's frame takes over -/
inductive CapR (nm : List (Str × NameKind)) (σ : List (Option V)) : List (Str × NameKind) → List (Str × NameKind) → List (Option V) → Prop
  | nil : CapR nm σ [] [] []
  | own {x k r r' τ} : k ≠ .free → CapR nm σ r r' τ → CapR nm σ ((x, k) :: r) ((x, k) :: r') (none :: τ)
  | cap {x v r r' τ} : At nm σ x .cell v → CapR nm σ r r' τ → CapR nm σ ((x, .free) :: r) ((x, .cell) :: r') (some v :: τ)
  | capF {x v r r' τ} : At nm σ x .free v → CapR nm σ r r' τ → CapR nm σ ((x, .free) :: r) ((x, .free) :: r') (some v :: τ)
  | skip {x r r' τ} : (x, NameKind.cell) ∈ nm → CapR nm σ r r' τ → CapR nm σ ((x, .free) :: r) ((x, .cell) :: r') (none :: τ)

section
variable {c : Cx} {A : Around} {pr : Pr} {η : Hp} {h : Heap} {nm : List (Str × NameKind)} {σ τ : List (Option V)} {env : Env} {r r' : List (Str × NameKind)}

theorem CapR.names (F : FrameR c h η pr nm env σ) (p : CapR nm σ r r' τ) :
    r.map (fun (n, k) => if (k == NameKind.free && env.scope.kind == .function && env.kindOf n == some .cell) then (n, NameKind.cell) else (n, k)) = r' := by
  induction p with
  | nil => rfl
  | own hk _ ih =>
    rw [List.map_cons, ih]
    have : (_ == NameKind.free) = false := beq_eq_false_iff_ne.mpr hk
    simp [this]
  | cap a _ ih => rw [List.map_cons, ih]; simp [F.kindOf (mem_fst a), F.kind]
  | capF a _ ih => rw [List.map_cons, ih]; simp [F.kindOf (mem_fst a)]
  | skip a _ ih => rw [List.map_cons, ih]; simp [F.kindOf a, F.kind]
theorem CapR.fsts (p : CapR nm σ r r' τ) : r'.map (·.1) = r.map (·.1) := by
  induction p with
  | nil => rfl
  | own _ _ ih => rw [List.map_cons, List.map_cons, ih]
  | cap _ _ ih => rw [List.map_cons, List.map_cons, ih]
  | capF _ _ ih => rw [List.map_cons, List.map_cons, ih]
  | skip _ _ ih => rw [List.map_cons, List.map_cons, ih]
/-- the cells taken over are there -/
theorem CapR.free (F : FrameR c h η pr nm env σ) (p : CapR nm σ r r' τ) : ∀ x, (x, NameKind.free) ∈ r → (env.cells.lookup x).isSome = true := by
  induction p with
  | nil => intro x m; cases m
  | own hk _ ih =>
    intro x m
    rcases List.mem_cons.mp m with e | m
    · injection e with _ e; exact absurd e.symm hk
    · exact ih x m
  | cap a _ ih =>
    intro x m
    rcases List.mem_cons.mp m with e | m
    · injection e with e _; rw [e]; exact F.has _ .cell (mem_fst a) (.inl rfl)
    · exact ih x m
  | capF a _ ih =>
    intro x m
    rcases List.mem_cons.mp m with e | m
    · injection e with e _; rw [e]; exact F.has _ .free (mem_fst a) (.inr rfl)
    · exact ih x m
  | skip a _ ih =>
    intro x m
    rcases List.mem_cons.mp m with e | m
    · injection e with e _; rw [e]; exact F.has _ .cell a (.inl rfl)
    · exact ih x m
theorem CapR.kinds (p : CapR nm σ r r' τ) : ∀ x k, (x, k) ∈ r' → k = .cell ∨ k = .free → (x, NameKind.cell) ∈ r ∨ (x, NameKind.free) ∈ r := by
  induction p with
  | nil => intro x k m; cases m
  | own hk _ ih =>
    intro x k m q
    rcases List.mem_cons.mp m with e | m
    · injection e with e1 e2
      subst e1 e2
      rcases q with rfl | rfl
      · exact .inl (.head _)
      · exact absurd rfl hk
    · exact (ih x k m q).imp (.tail _) (.tail _)
  | cap _ _ ih =>
    intro x k m q
    rcases List.mem_cons.mp m with e | m
    · injection e with e1 _; subst e1; exact .inr (.head _)
    · exact (ih x k m q).imp (.tail _) (.tail _)
  | capF _ _ ih =>
    intro x k m q
    rcases List.mem_cons.mp m with e | m
    · injection e with e1 _; subst e1; exact .inr (.head _)
    · exact (ih x k m q).imp (.tail _) (.tail _)
  | skip _ _ ih =>
    intro x k m q
    rcases List.mem_cons.mp m with e | m
    · injection e with e1 _; subst e1; exact .inr (.head _)
    · exact (ih x k m q).imp (.tail _) (.tail _)
/-- a known value comes from outside -/
theorem CapR.at {x : Str} {k : NameKind} {v : V} (p : CapR nm σ r r' τ) (a : At r' τ x k v) : (x, NameKind.free) ∈ r ∧ At nm σ x k v ∧ (k = .cell ∨ k = .free) := by
  induction p with
  | nil => cases a
  | own _ _ ih => cases a with | tail a => exact ⟨.tail _ (ih a).1, (ih a).2⟩
  | cap b _ ih =>
    cases a with
    | head => exact ⟨.head _, b, .inl rfl⟩
    | tail a => exact ⟨.tail _ (ih a).1, (ih a).2⟩
  | capF b _ ih =>
    cases a with
    | head => exact ⟨.head _, b, .inr rfl⟩
    | tail a => exact ⟨.tail _ (ih a).1, (ih a).2⟩
  | skip _ _ ih => cases a with | tail a => exact ⟨.tail _ (ih a).1, (ih a).2⟩

noncomputable def closL (env : Env) : List (Str × NameKind) → List (Str × Addr) → List (Str × Addr)
  | [], cs => cs
  | (n, k) :: r, cs => closL env r (if k == .free then (n, (env.cells.lookup n).getD 0) :: cs else cs)
theorem closure_eq {scope : Scope} (hf : ∀ x, (x, NameKind.free) ∈ scope.names → (env.cells.lookup x).isSome = true) : closureFor scope env = pure (closL env scope.names []) := by
  unfold closureFor
  have key : ∀ (l : List (Str × NameKind)) (acc : List (Str × Addr)), (∀ x, (x, NameKind.free) ∈ l → (env.cells.lookup x).isSome = true) →
      (forIn l acc fun (x : Str × NameKind) (cs : List (Str × Addr)) => (match x with | (name, kind) => if (kind == NameKind.free) = true then do let a ← cellOf env name; pure (ForInStep.yield ((name, a) :: cs)) else pure (ForInStep.yield cs) : Sem _)) = pure (closL env l acc) := by
    intro l
    induction l with
    | nil => intro acc _; rfl
    | cons p r ih =>
      intro acc hp
      obtain ⟨n, k⟩ := p
      rw [List.forIn_cons]
      unfold closL
      by_cases hk : (k == NameKind.free) = true
      · have : k = .free := by simpa using hk
        subst this
        obtain ⟨a, ha⟩ := Option.isSome_iff_exists.mp (hp n (.head _))
        have hc : cellOf env n = pure a := by unfold cellOf; rw [ha]
        simp only [beq_self_eq_true, if_true, hc, pure_bind, ha, Option.getD_some]
        exact ih _ fun x m => hp x (.tail _ m)
      · simp only [hk, Bool.false_eq_true, if_false, pure_bind]
        exact ih _ fun x m => hp x (.tail _ m)
  have := key scope.names [] hf
  simp only [bind_pure] at this ⊢
  exact this
theorem closL_mem : ∀ (l : List (Str × NameKind)) (acc : List (Str × Addr)) {x : Str} {a : Addr}, (x, a) ∈ closL env l acc → (x, a) ∈ acc ∨ ((x, NameKind.free) ∈ l ∧ a = (env.cells.lookup x).getD 0)
  | [], _, _, _, m => .inl m
  | (n, k) :: r, acc, x, a, m => by
    unfold closL at m
    rcases closL_mem r _ m with m₂ | ⟨m₂, e⟩
    · by_cases hk : k = .free
      · subst hk
        have m₃ : (x, a) ∈ (n, (env.cells.lookup n).getD 0) :: acc := m₂
        rcases List.mem_cons.mp m₃ with e | m₄
        · cases e; exact .inr ⟨.head _, rfl⟩
        · exact .inl m₄
      · have : (k == NameKind.free) = false := beq_eq_false_iff_ne.mpr hk
        rw [this] at m₂
        exact .inl m₂
    · exact .inr ⟨.tail _ m₂, e⟩
theorem closL_has : ∀ (l : List (Str × NameKind)) (acc : List (Str × Addr)) {x : Str}, (x, NameKind.free) ∈ l ∨ (acc.lookup x).isSome = true → ((closL env l acc).lookup x).isSome = true
  | [], _, _, m => m.elim (fun q => by cases q) id
  | (n, k) :: r, acc, x, m => by
    unfold closL
    refine closL_has r _ ?_
    rcases m with m | m
    · rcases List.mem_cons.mp m with e | m
      · cases e
        refine .inr ?_
        simp [List.lookup_cons]
      · exact .inl m
    · refine .inr ?_
      split
      · rw [List.lookup_cons]; split
        · rfl
        · exact m
      · exact m
theorem cellsFrom_app : ∀ (l : List (Str × NameKind)) (n : Nat) (acc : List (Str × Addr)), cellsFrom n l acc = cellsFrom n l [] ++ acc
  | [], _, _ => rfl
  | (x, k) :: r, n, acc => by
    unfold cellsFrom
    split
    · rw [cellsFrom_app r (n + 1) ((x, n) :: acc), cellsFrom_app r (n + 1) [(x, n)], List.append_assoc]; rfl
    · exact cellsFrom_app r n acc
theorem cellsFrom_names : ∀ (l : List (Str × NameKind)) (n : Nat) {x : Str} {a : Addr}, (x, a) ∈ cellsFrom n l [] → (x, NameKind.cell) ∈ l
  | [], _, _, _, m => by cases m
  | (y, k) :: r, n, x, a, m => by
    unfold cellsFrom at m
    split at m
    · rename_i hk
      have : k = .cell := by simpa using hk
      subst this
      rw [cellsFrom_app] at m
      rcases List.mem_append.mp m with m | m
      · exact .tail _ (cellsFrom_names r _ m)
      · simp at m; rw [m.1]; exact .head _
    · exact .tail _ (cellsFrom_names r n m)

/-- a comprehension's frame is laid -/
theorem comp_env {M : Model} {E : Value → Shared → Prop} {s : Shared} {scope : Scope} {cl : List (Str × Addr)} {QQ : Env → Shared → Prop}
    (h : ∀ h', h' = pushCells (s.heap.push { cls := .type "dict", data := .dict #[] }) scope.names →
      QQ (newEnv scope s.heap.objs.size env.globals (cellsFrom (s.heap.objs.size + 1) scope.names cl) env.qual none .none (some env) builtinsNs) { s with heap := h' }) :
    wpAny M A (newFunctionEnv scope env.globals cl [] env.qual none .none (some env)) QQ E s := by
  simp only [newFunctionEnv, Option.isSome_some, if_true]
  refine wpAny_bind (wpAny_alloc ?_)
  refine wpAny_bind (wpAny_layCells _ (fun name kind cells => by cases hkc : kind == NameKind.cell <;> simp [hkc]) _ _ _ _ ?_)
  rw [show ({ s with heap := s.heap.push { cls := .type "dict", data := .dict #[] } } : Shared).heap.objs.size = s.heap.objs.size + 1 from Heap.size_push ..]
  exact wpAny_bind (wpAny_pure (wpAny_pure (h _ rfl)))
end
end Mine

namespace Mine
open PySem PyProof.Rows PySem.W

/-- a comprehension over known items -/
noncomputable def CompL (c : Cx) (d : Nat) (nm : List (Str × NameKind)) (t : Expr) (xs : List Str) (cnd : Option Expr) (elt : Expr) (K : List V → Hp → Prop) : List V → List V → List (Option V) → Hp → Prop
  | [], ws, _, η => K ws η
  | v :: vs, ws, σ, η => SA c d nm σ η t xs v fun σ' => match cnd with
    | none => SE c d true nm σ' η elt (fun w η' => CompL c d nm t xs cnd elt K vs (ws ++ [w]) σ' η') noX
    | some q => ST c d true nm σ' η q (fun b η₁ => if b = true then SE c d true nm σ' η₁ elt (fun w η' => CompL c d nm t xs cnd elt K vs (ws ++ [w]) σ' η') noX else CompL c d nm t xs cnd elt K vs ws σ' η₁) noX

/-- the same, under a condition on the mutable objects -/
noncomputable def CompLG (c : Cx) (d : Nat) (nm : List (Str × NameKind)) (t : Expr) (xs : List Str) (cnd : Option Expr) (elt : Expr) (K : List V → Hp → Prop) (G : Hp → Prop) : List V → List V → List (Option V) → Hp → Prop
  | [], ws, _, η => G η ∧ K ws η
  | v :: vs, ws, σ, η => G η ∧ SA c d nm σ η t xs v fun σ' => match cnd with
    | none => SE c d true nm σ' η elt (fun w η' => CompLG c d nm t xs cnd elt K G vs (ws ++ [w]) σ' η') noX
    | some q => ST c d true nm σ' η q (fun b η₁ => if b = true then SE c d true nm σ' η₁ elt (fun w η' => CompLG c d nm t xs cnd elt K G vs (ws ++ [w]) σ' η') noX else CompLG c d nm t xs cnd elt K G vs ws σ' η₁) noX

section
variable {prog : Program} {w : World} {A : Around} {R : Result → Shared → Prop} {s : Shared}
theorem compLoop_any {elt target iter : Expr} {ifs : List Expr} {scope : Scope} {pos : Pos} {it acc : Value} {env : Env} (I : Nat → Shared → Prop)
    (turn : ∀ n s, I n s → wpAny (model prog w) A (pyNext it) (fun r s₁ => match r with
      | none => R (.ok .next) s₁
      | some v => wpAny (model prog w) A (letOwnedTupleGo target it v) (fun _ s₁' => wpAny (model prog w) A (assign target env v) (fun _ s₂ =>
          wpAny (model prog w) A (forIn ifs true fun c r => if r = true then do let ok ← isTrue c env (eval c env); pure (ForInStep.yield ok) else pure (ForInStep.yield r)) (fun ok s₃ =>
            if ok = true then wpAny (model prog w) A (eval elt env) (fun x s₄ =>
              wpAny (model prog w) A (call (.builtin "list.append") [acc, x]) (fun _ s₅ => ∃ m, m < n ∧ I m s₅) (notedBy (model prog w) A env fun e s' => R (.error e) s') s₄) (notedBy (model prog w) A env fun e s' => R (.error e) s') s₃
            else ∃ m, m < n ∧ I m s₃) (notedBy (model prog w) A env fun e s' => R (.error e) s') s₂) (notedBy (model prog w) A env fun e s' => R (.error e) s') s₁')
            (notedBy (model prog w) A env fun e s' => R (.error e) s') s₁) (notedBy (model prog w) A env fun e s' => R (.error e) s') s)
    (n : Nat) (h : I n s) : codeAny (model prog w) A (.compLoop (.ListComp elt [⟨target, iter, ifs, 0⟩] scope pos) 0 it acc env) R s := by
  refine codeAny_loop rfl I (fun n s hI => ?_) n h
  show wpAny _ A ((compTurn (.ListComp elt [⟨target, iter, ifs, 0⟩] scope pos) 0 it acc env).onRaise (fun x => do noteFrame x env; theTreesLotGoes x)) _ _ s
  refine wpAny_noted ?_
  rw [compTurn_list]
  refine wpAny_bind (wpAny_standAt (wpAny_bind (wpAny_mono (turn n s hI) (fun r s₁ h₁ => ?_) fun _ _ h' => h')))
  cases r with
  | none => exact wpAny_pure h₁
  | some v =>
    refine wpAny_bind (wpAny_mono h₁ (fun _ s₁' h₁' => ?_) fun _ _ h' => h')
    refine wpAny_bind (wpAny_mono h₁' (fun _ s₂ h₂ => wpAny_bind (wpAny_mono h₂ (fun ok s₃ h₃ => ?_) fun _ _ h' => h')) fun _ _ h' => h')
    cases ok with
    | false => exact wpAny_pure ⟨rfl, h₃⟩
    | true => exact wpAny_bind (wpAny_bind (wpAny_mono h₃ (fun x s₄ h₄ => wpAny_bind (wpAny_mono h₄ (fun _ s₅ h₅ => wpAny_pure (wpAny_pure ⟨rfl, h₅⟩)) fun _ _ h' => h')) fun _ _ h' => h'))
end

noncomputable def ifsOf : Option Expr → List Expr
  | none => []
  | some q => [q]

/-- the names a comprehension's target binds are its own -/
noncomputable def ownNames (names : List (Str × NameKind)) (xs : List Str) : Bool := xs.all fun x => names.any fun p => p.1 == x && p.2 != .free
/-- a comprehension's table, looked at once -/
noncomputable def compOk (scope : Scope) (xs : List Str) : Bool := scope.kind == .function && decide (scope.names.map (·.1)).Nodup && ownNames scope.names xs

section
variable {c : Cx} {A : Around} {J pr pr' : Pr} {η η' η₁ : Hp} {s s₁ : Shared} {d : Nat} {nm nmC : List (Str × NameKind)} {σ τ : List (Option V)} {env : Env} {vs : List V}
  {Q R : V → Hp → Prop} {X : Addr → Hp → Prop} {v w : V} {x : Str} {pos : Pos} {N : List (Option V) → Hp → Prop} {rest : List Stmt} {t elt iter : Expr} {h h' h₀ : Heap} {xs : List Str} {cnd : Option Expr} {scope : Scope} {K : List V → Hp → Prop}

theorem ST.mono {e : Expr} {B B' : Bool → Hp → Prop} {X X' : Addr → Hp → Prop} {hd : Bool} (p : ST c d hd nm σ η e B X) (k : ∀ b η', B b η' → B' b η') (kx : ∀ C η', X C η' → X' C η') : ST c d hd nm σ η e B' X' :=
  fun A env s pr o I F => wpAny_mono (p A env s pr o I F) (fun _ _ ⟨η', q, r⟩ => ⟨η', k _ _ q, r⟩) fun _ _ q => q.mono kx
theorem CompL.toG {vs ws : List V} {σ : List (Option V)} {η : Hp} (p : CompL c d nm t xs cnd elt K vs ws σ η) : CompLG c d nm t xs cnd elt K (fun _ => True) vs ws σ η := by
  induction vs generalizing ws σ η with
  | nil => unfold CompL at p; unfold CompLG; exact ⟨trivial, p⟩
  | cons v vs ih =>
    unfold CompL at p; unfold CompLG
    refine ⟨trivial, p.mono fun τ q => ?_⟩
    cases cnd with
    | none => exact SE.mono q (fun _ _ q => ih q) fun _ _ q => q
    | some e =>
      refine ST.mono q (fun b _ q => ?_) fun _ _ q => q
      cases b with
      | false => exact ih q
      | true => exact SE.mono q (fun _ _ q => ih q) fun _ _ q => q
/-- what a comprehension's frame owns -/
noncomputable def newOf (D C : Addr) (names : List (Str × NameKind)) : Pr := fun b => b = D ∨ b = C ∨ ∃ x, (x, b) ∈ cellsFrom (C + 1) names []

theorem comp_core {use : Option (Value → Sem Unit)} {PQ : Value → Shared → Prop} {E : Value → Shared → Prop} {h₂ : Heap} {tk : Nat} {I₀ : Addr} {St : Nat → Heap → Hp → Pr → Prop} {G : Hp → Prop} (ok : compOk scope xs = true) (o : Ok d true A) (I : Inv c η pr A s) (F : FrameR c s.heap η pr nm env σ)
    (cap : CapR nm σ scope.names nmC τ) (itr : Itr c A J I₀ t vs St G) (hJ : ∀ b, J b → s.heap.get? b = none) (hJf : ∀ b, J b → ¬ isFr A b) (keep : ∀ b o, s.heap.get? b = some o → h₂.get? b = some o) (st0 : St 0 h₂ η (fun b => pr b ∨ J b)) (hz : vs.length ≤ sizeLine) (cl : CompLG c d nmC t xs cnd elt K G vs [] τ η)
    (fin : ∀ ws η' s' D C xs n m, K ws η' → ws.length ≤ sizeLine → Inv c η' (fun b => pr b ∨ b = C ∨ b = D) A s' → s'.heap.get? D = some { cls := .type "list", data := .seq xs.toArray n } → Rvs c.P s'.heap η' (fun b => pr b ∨ b = C ∨ b = D) ws xs → η' D = none → ¬ (pr D ∨ D = C) → c.base.get? D = none →
      s.heap.get? D = none → s.heap.get? C = none → s'.heap.Ns C m → Step A noOwn η s.heap η' s'.heap → compPost c.M A E use PQ (.ref D) C (.ok .next) s') :
    wpAny c.M A (newList []) (fun acc s₃ => wpAny c.M A (newFunctionEnv scope env.globals (closL env scope.names []) [] env.qual none .none (some env)) (fun cenv s₄ =>
      codeAny c.M A (.compStart (.ListComp elt [⟨t, iter, ifsOf cnd, 0⟩] scope pos) 0 (.ref I₀) acc { cenv with scope := relabel scope env }) (compPost c.M A E use PQ acc cenv.locals) s₄) E s₃) E { s with heap := h₂, toks := tk } := by
  unfold compOk at ok
  simp only [Bool.and_eq_true, beq_iff_eq, decide_eq_true_eq] at ok
  obtain ⟨⟨hkind, hnd⟩, hxs⟩ := ok
  refine wpAny_newObj_type (T := "list") (comp_env fun h₄ e₄ => ?_)
  dsimp only at e₄ ⊢
  -- the two addresses
  generalize hD : h₂.objs.size = D
  have szD : (h₂.push { cls := .type "list", dict := none, data := .seq ([] : List Value).toArray }).objs.size = D + 1 := by rw [Heap.size_push, hD]
  rw [szD]
  generalize hC : D + 1 = C
  have szC : ((h₂.push { cls := .type "list", dict := none, data := .seq ([] : List Value).toArray }).push { cls := .type "dict", data := .dict #[] }).objs.size = C + 1 := by rw [Heap.size_push, szD, hC]
  have okC := cellsFrom_ok scope.names ((h₂.push { cls := .type "list", dict := none, data := .seq ([] : List Value).toArray }).push { cls := .type "dict", data := .dict #[] }) (C + 1) [] ⟨fun _ _ hm => (nomatch hm), List.Pairwise.nil⟩ (by rw [szC]; exact Nat.le_refl _)
  rw [szC, ← e₄] at okC
  have push : ∀ b ob, h₂.get? b = some ob → h₄.get? b = some ob := fun b ob e => by rw [e₄]; exact pushCells_keeps _ _ b ob (Heap.get?_push_of_some _ (Heap.get?_push_of_some _ e))
  have gD : h₄.get? D = some { cls := .type "list", data := .seq ([] : List Value).toArray } := by
    rw [e₄]; refine pushCells_keeps _ _ _ _ (Heap.get?_push_of_some _ ?_)
    rw [← hD]; exact Heap.get?_push_size _ rfl
  have nsC : h₄.Ns C (fun _ => none) := by
    rw [e₄, ← hC, ← szD]
    exact (Heap.Ns.new _ (.type "dict")).keeps (pushCells_keeps _ _)
  let NN : Pr := newOf D C scope.names
  have NNlo : ∀ b, NN b → h₂.objs.size ≤ b := by
    rintro b (q | q | ⟨x, q⟩)
    · rw [q, hD]; exact Nat.le_refl _
    · rw [q, ← hC, hD]; exact Nat.le_succ _
    · refine Nat.le_trans ?_ (okC.empty x b q).2
      rw [← hC, hD]; exact Nat.le_add_right D 2
  have h2none : ∀ b, h₂.objs.size ≤ b → h₂.get? b = none := fun b q => by
    cases e : h₂.get? b with
    | none => rfl
    | some ob => exact absurd (Heap.lt_size e) (Nat.not_lt.mpr q)
  have NNnone : ∀ b, NN b → h₂.get? b = none := fun b q => h2none b (NNlo b q)
  have keep4 : ∀ b ob, s.heap.get? b = some ob → h₄.get? b = some ob := fun b ob e => push b ob (keep b ob e)
  have NNs : ∀ b, NN b → s.heap.get? b = none := fun b q => by
    cases e : s.heap.get? b with
    | none => rfl
    | some ob => have := keep b ob e; rw [NNnone b q] at this; cases this
  have NNex : ∀ b, NN b → ∃ ob, h₄.get? b = some ob := by
    rintro b (rfl | rfl | ⟨x, q⟩)
    · exact ⟨_, gD⟩
    · obtain ⟨ob, _, _, e, _⟩ := nsC; exact ⟨ob, e⟩
    · obtain ⟨ob, e, _⟩ := (okC.empty x b q).1; exact ⟨ob, e⟩
  have NNnotJ : ∀ b, NN b → ¬ J b := fun b q j => by
    obtain ⟨ob, e⟩ := itr.nofr st0 j
    rw [NNnone b q] at e; cases e
  let pr' : Pr := fun b => (pr b ∨ NN b) ∨ J b
  have prs : ∀ b, pr b → (s.heap.get? b).isSome = true := fun b q => (I.privs b q).1
  have nfrNN : ∀ b, NN b → ¬ isFr A b := fun b q f => by have := prs b (I.frs b f); rw [NNs b q] at this; cases this
  have I₄ : Inv c η pr' A { s with heap := h₄, toks := tk } := by
    have := I.more (J := fun b => NN b ∨ J b) keep4 (fun b q => q.elim (NNs b) (hJ b)) (fun b q => q.elim (NNex b) fun j => by
      obtain ⟨ob, e⟩ := itr.nofr st0 j; exact ⟨ob, push b ob e⟩) tk
    exact this.less (fun b q => q.elim (fun q => q.elim .inl fun q => .inr (.inl q)) fun q => .inr (.inr q)) fun b f => .inl (.inl (I.frs b f))
  have hJ' : ∀ b, J b → pr' b := fun b j => .inr j
  have st4 : St 0 h₄ η pr' := itr.move st0 ⟨fun b ob e _ _ => push b ob e, fun _ e => e, fun b ob e n p => ⟨n, fun q => by
    rcases q with (q | q) | q
    · exact p (.inl q)
    · rw [NNnone b q] at e; cases e
    · exact p (.inr q)⟩⟩ fun b j ob e => push b ob e
  -- the frame
  have hfree := cap.free F
  generalize hcenv : ({ newEnv scope C env.globals (cellsFrom (C + 1) scope.names (closL env scope.names [])) env.qual none .none (some env) builtinsNs with scope := relabel scope env } : Env) = cenv
  have eL : cenv.locals = C := by rw [← hcenv]; rfl
  have eC : cenv.cells = cellsFrom (C + 1) scope.names [] ++ closL env scope.names [] := by rw [← hcenv, ← cellsFrom_app]; rfl
  have eS : cenv.scope = relabel scope env := by rw [← hcenv]
  have eN : cenv.scope.names = nmC := by rw [eS]; exact cap.names F
  have lk : ∀ x, cenv.cells.lookup x = ((cellsFrom (C + 1) scope.names []).lookup x).or ((closL env scope.names []).lookup x) := fun x => by rw [eC, List.lookup_append]
  have clm : ∀ {x a}, (closL env scope.names []).lookup x = some a → (x, NameKind.free) ∈ scope.names ∧ env.cells.lookup x = some a := fun {x a} e => by
    rcases closL_mem _ _ (mem_of_lookup e) with q | ⟨q, e'⟩
    · cases q
    · obtain ⟨a', ha'⟩ := Option.isSome_iff_exists.mp (hfree x q)
      rw [ha'] at e'; exact ⟨q, by rw [ha', e']; rfl⟩
  have oneKind : ∀ {x k k'}, (x, k) ∈ scope.names → (x, k') ∈ scope.names → k = k' := fun {x k k'} a b => by
    have e1 := lookup_of_mem hnd a
    have e2 := lookup_of_mem hnd b
    rw [e1] at e2; cases e2; rfl
  have cellCase : ∀ {x a}, cenv.cells.lookup x = some a → ((x, a) ∈ cellsFrom (C + 1) scope.names []) ∨ ((x, NameKind.free) ∈ scope.names ∧ env.cells.lookup x = some a) := fun {x a} e => by
    rw [lk] at e
    cases q : (cellsFrom (C + 1) scope.names []).lookup x with
    | some a' => rw [q] at e; cases e; exact .inl (mem_of_lookup q)
    | none => rw [q] at e; exact .inr (clm e)
  have F₄ : FrameR c h₄ η pr' nmC cenv τ := by
    refine ⟨by rw [eS]; exact hkind, eN, by rw [cap.fsts]; exact hnd, by rw [← hcenv]; exact F.globals, by rw [← hcenv]; exact F.builtins, ⟨_, by rw [eL]; exact nsC⟩, by rw [eL]; exact .inl (.inr (.inr (.inl rfl))), fun x a e => ?_, fun x y a e1 e2 => ?_, fun x k m q => ?_, fun x k u at' => ?_⟩
    · rcases cellCase e with q | ⟨q, e'⟩
      · exact ⟨.inl (.inr (.inr (.inr ⟨x, q⟩))), _, (okC.empty x a q).1⟩
      · obtain ⟨p1, u, p2⟩ := F.cells x a e'
        exact ⟨.inl (.inl p1), u, p2.keeps keep4⟩
    · rcases cellCase e1 with q1 | ⟨q1, f1⟩ <;> rcases cellCase e2 with q2 | ⟨q2, f2⟩
      · exact name_of_addr okC.apart q1 q2
      · have := prs a (F.cells y a f2).1; rw [NNs a (.inr (.inr ⟨x, q1⟩))] at this; cases this
      · have := prs a (F.cells x a f1).1; rw [NNs a (.inr (.inr ⟨y, q2⟩))] at this; cases this
      · exact F.inj x y a f1 f2
    · rw [lk]
      rcases cap.kinds x k m q with q | q
      · have := cellsFrom_has (x := x) scope.names (C + 1) [] (.inl q)
        obtain ⟨a, e⟩ := Option.isSome_iff_exists.mp this
        rw [e]; rfl
      · have := closL_has (env := env) scope.names [] (.inl q)
        cases e : (cellsFrom (C + 1) scope.names []).lookup x with
        | some a => rfl
        | none => exact this
    · obtain ⟨q1, q2, q3⟩ := cap.at at'
      obtain ⟨val, w1, w2⟩ := F.vars x k u q2
      refine ⟨val, ?_, Rv.mono ⟨fun b ob e _ _ => keep4 b ob e, fun _ e => e, fun b ob e n p => ⟨n, fun q => ?_⟩⟩ u w2⟩
      · have cellsX : ∀ a, env.cells.lookup x = some a → cenv.cells.lookup x = some a := fun a e => by
          rw [lk]
          have hno : (cellsFrom (C + 1) scope.names []).lookup x = none := by
            cases e' : (cellsFrom (C + 1) scope.names []).lookup x with
            | none => rfl
            | some a' => have := oneKind (cellsFrom_names _ _ (mem_of_lookup e')) q1; cases this
          rw [hno]
          obtain ⟨a', ha'⟩ := Option.isSome_iff_exists.mp (closL_has (env := env) scope.names [] (.inl q1))
          have := (clm ha').2
          rw [e] at this; cases this
          exact ha'
        rcases q3 with rfl | rfl
        · obtain ⟨a, g1, g2⟩ := w1; exact ⟨a, cellsX a g1, g2.keeps keep4⟩
        · obtain ⟨a, g1, g2⟩ := w1; exact ⟨a, cellsX a g1, g2.keeps keep4⟩
      · rcases q with (q | q) | q
        · exact p q
        · rw [NNs b q] at e; cases e
        · rw [hJ b q] at e; cases e
  have ownN : ∀ b, ownX cenv xs b → NN b := by
    rintro b (q | ⟨x, m, q⟩)
    · rw [q, eL]; exact .inr (.inl rfl)
    · rcases cellCase q with q | ⟨q, _⟩
      · exact .inr (.inr ⟨x, q⟩)
      · exfalso
        have := List.all_eq_true.mp hxs x m
        obtain ⟨⟨y, k⟩, m', e'⟩ := List.any_eq_true.mp this
        simp only [Bool.and_eq_true, beq_iff_eq, bne_iff_ne, ne_eq] at e'
        obtain ⟨rfl, e''⟩ := e'
        exact e'' (oneKind m' q)
  have ownPr : ∀ b, ownX cenv xs b → pr' b := fun b q => .inl (.inr (ownN b q))
  have JnotOwn : ∀ b, J b → ¬ ownX cenv xs b := fun b j q => NNnotJ b (ownN b q) j
  have JnotAll : ∀ b, J b → ¬ ownOf cenv b := fun b j q => by
    rcases q with q | ⟨x, q⟩
    · rw [eL] at q; exact NNnotJ b (.inr (.inl q)) j
    · rcases cellCase q with q | ⟨_, q⟩
      · exact NNnotJ b (.inr (.inr ⟨x, q⟩)) j
      · have := prs b (F.cells x b q).1; rw [hJ b j] at this; cases this
  have DneC : D ≠ C := by rw [← hC]; exact Nat.ne_of_lt (Nat.lt_succ_self D)
  have DnotCell : ∀ x, (x, D) ∉ cellsFrom (C + 1) scope.names [] := fun x q => by
    have := (okC.empty x D q).2
    rw [← hC] at this
    exact Nat.not_succ_le_self D (Nat.le_trans (Nat.le_succ (D + 1)) this)
  have DnotOwn : ¬ ownOf cenv D := fun q => by
    rcases q with q | ⟨x, q⟩
    · rw [eL] at q; exact DneC q
    · rcases cellCase q with q | ⟨_, q⟩
      · exact DnotCell x q
      · have := prs D (F.cells x D q).1; rw [NNs D (.inl rfl)] at this; cases this
  have prD : pr' D := .inl (.inr (.inl rfl))
  have start : ∀ (it' : Value), it' = .ref I₀ → codeAny c.M A (.compLoop (.ListComp elt [⟨t, iter, ifsOf cnd, 0⟩] scope pos) 0 it' (.ref D) cenv) (compPost c.M A E use PQ (.ref D) C) { s with heap := h₄, toks := tk } := by
    rintro _ rfl
    refine compLoop_any (fun m s' => ∃ i ws τ' η' its n, m = vs.length + 1 - i ∧ i ≤ vs.length ∧ ws.length ≤ i ∧ CompLG c d nmC t xs cnd elt K G (vs.drop i) ws τ' η' ∧ Inv c η' pr' A s' ∧ FrameR c s'.heap η' pr' nmC cenv τ' ∧ St i s'.heap η' pr' ∧
        s'.heap.get? D = some { cls := .type "list", data := .seq (its : List Value).toArray n } ∧ Rvs c.P s'.heap η' pr' ws its ∧ Step A (fun b => NN b ∨ J b) η h₄ η' s'.heap) ?_ (vs.length + 1)
      ⟨0, [], τ, η, [], 0, rfl, Nat.zero_le _, Nat.le_refl _, cl, I₄, F₄, st4, gD, rfl, Step.refl ..⟩
    rintro m s₅ ⟨i, ws, τ₅, η₅, its, n, rfl, hi, hws, cl₅, I₅, F₅, st₅, gD₅, rs₅, stp₅⟩
    by_cases hlt : i < vs.length
    · have hv : vs[i]? = some vs[i] := List.getElem?_eq_getElem hlt
      have hdrop : vs.drop i = vs[i] :: vs.drop (i + 1) := List.drop_eq_getElem_cons hlt
      rw [hdrop] at cl₅
      unfold CompLG at cl₅
      have gg := cl₅.1
      refine wpAny_mono (itr.item (E := notedBy c.M A cenv fun e s' => compPost c.M A E use PQ (.ref D) C (.error e) s') (QQ := fun x s₆ => wpAny c.M A (PySem.assign t cenv x) (fun _ s₂ =>
          wpAny c.M A (forIn (ifsOf cnd) true fun c r => if r = true then do let ok ← isTrue c cenv (eval c cenv); pure (ForInStep.yield ok) else pure (ForInStep.yield r)) (fun ok s₃ =>
            if ok = true then wpAny c.M A (eval elt cenv) (fun x s₄ =>
              wpAny c.M A (call (.builtin "list.append") [.ref D, x]) (fun _ s₅ => ∃ m, m < vs.length + 1 - i ∧ ∃ i ws τ' η' its n, m = vs.length + 1 - i ∧ i ≤ vs.length ∧ ws.length ≤ i ∧ CompLG c d nmC t xs cnd elt K G (vs.drop i) ws τ' η' ∧ Inv c η' pr' A s₅ ∧ FrameR c s₅.heap η' pr' nmC cenv τ' ∧ St i s₅.heap η' pr' ∧
                s₅.heap.get? D = some { cls := .type "list", data := .seq (its : List Value).toArray n } ∧ Rvs c.P s₅.heap η' pr' ws its ∧ Step A (fun b => NN b ∨ J b) η h₄ η' s₅.heap) (notedBy c.M A cenv fun e s' => compPost c.M A E use PQ (.ref D) C (.error e) s') s₄) (notedBy c.M A cenv fun e s' => compPost c.M A E use PQ (.ref D) C (.error e) s') s₃
            else ∃ m, m < vs.length + 1 - i ∧ ∃ i ws τ' η' its n, m = vs.length + 1 - i ∧ i ≤ vs.length ∧ ws.length ≤ i ∧ CompLG c d nmC t xs cnd elt K G (vs.drop i) ws τ' η' ∧ Inv c η' pr' A s₃ ∧ FrameR c s₃.heap η' pr' nmC cenv τ' ∧ St i s₃.heap η' pr' ∧
                s₃.heap.get? D = some { cls := .type "list", data := .seq (its : List Value).toArray n } ∧ Rvs c.P s₃.heap η' pr' ws its ∧ Step A (fun b => NN b ∨ J b) η h₄ η' s₃.heap) (notedBy c.M A cenv fun e s' => compPost c.M A E use PQ (.ref D) C (.error e) s') s₂) (notedBy c.M A cenv fun e s' => compPost c.M A E use PQ (.ref D) C (.error e) s') s₆) hJ' I₅ gg hv st₅ fun h₆ tk₆ x st₆ k₆ r₆ => ?_) (fun r s₆ q => ?_) fun _ _ e => e
      · have I₆ := I₅.wr k₆ hJ' (fun b j => itr.nofr st₆ j) hJf tk₆
        have F₆ := F₅.wr k₆ hJ' JnotAll
        have gD₆ := k₆ D _ (NNnotJ D (.inl rfl)) gD₅
        have m₆ : Mono pr' η₅ s₅.heap η₅ pr' h₆ := ⟨fun b ob e _ p => k₆ b ob (fun j => p (hJ' b j)) e, fun _ e => e, fun b ob e n p => ⟨n, p⟩⟩
        have rs₆ := Rvs.mono m₆ _ rs₅
        have stp₆ : Step A (fun b => NN b ∨ J b) η h₄ η₅ h₆ := stp₅.trans (Step.wr k₆ (fun b j => itr.nofr st₆ j) fun b j => .inr j)
        refine cl₅.2 A cenv _ pr' x _ _ o I₆ F₆ r₆ fun s₇ τ₇ k₇ I₇ F₇ stp₇ => ?_
        have ηD₆ := (I₆.privs D prD).2.1
        have gD₇ := stp₇.same D _ gD₆ ηD₆ (fun q => DnotOwn (ownX_of D q)) (nfrNN D (.inl rfl))
        have m₇ := stp₇.toMono ownPr I₆.frs
        have rs₇ := Rvs.mono m₇ _ rs₆
        have st₇ : St (i + 1) s₇.heap η₅ pr' := itr.move st₆ m₇ fun b j ob e => stp₇.same b ob e (I₆.privs b (hJ' b j)).2.1 (JnotOwn b j) (hJf b j)
        have stp₇' : Step A (fun b => NN b ∨ J b) η h₄ η₅ s₇.heap := stp₆.trans (stp₇.weak fun b q => .inl (ownN b q))
        -- the element is made and laid on
        have app : ∀ s₈ η₈, SE c d true nmC τ₇ η₈ elt (fun w η' => CompLG c d nmC t xs cnd elt K G (vs.drop (i + 1)) (ws ++ [w]) τ₇ η') noX → Inv c η₈ pr' A s₈ → FrameR c s₈.heap η₈ pr' nmC cenv τ₇ → St (i + 1) s₈.heap η₈ pr' →
            s₈.heap.get? D = some { cls := .type "list", data := .seq its.toArray n } → Rvs c.P s₈.heap η₈ pr' ws its → Step A (fun b => NN b ∨ J b) η h₄ η₈ s₈.heap →
            ∀ {EE : Value → Shared → Prop}, wpAny c.M A (eval elt cenv) (fun x s₄ => wpAny c.M A (call (.builtin "list.append") [.ref D, x]) (fun _ s₅ => ∃ m, m < vs.length + 1 - i ∧ ∃ i ws τ' η' its n, m = vs.length + 1 - i ∧ i ≤ vs.length ∧ ws.length ≤ i ∧ CompLG c d nmC t xs cnd elt K G (vs.drop i) ws τ' η' ∧ Inv c η' pr' A s₅ ∧ FrameR c s₅.heap η' pr' nmC cenv τ' ∧ St i s₅.heap η' pr' ∧
                s₅.heap.get? D = some { cls := .type "list", data := .seq (its : List Value).toArray n } ∧ Rvs c.P s₅.heap η' pr' ws its ∧ Step A (fun b => NN b ∨ J b) η h₄ η' s₅.heap) EE s₄) EE s₈ := by
          intro s₈ η₈ se I₈ F₈ st₈ gD₈ rs₈ stp₈ EE
          refine wpAny_mono (se A cenv s₈ pr' o I₈ F₈) (fun x₉ s₉ hq => ?_) fun _ _ e => e.absurd
          obtain ⟨w₉, η₉, cl₉, I₉, rw₉, stp₉⟩ := hq
          have m₉ := stp₉.toMono (pr := pr') (fun _ q => q.elim) I₈.frs
          have gD₉ := stp₉.same D _ gD₈ (I₈.privs D prD).2.1 (fun q => q) (nfrNN D (.inl rfl))
          have hsz : its.toArray.size ≤ sizeLine := by
            simp only [List.size_toArray, rvs_length rs₈]; exact Nat.le_trans hws (Nat.le_trans hi hz)
          refine wpAny_list_append_plain (l := D) (items := its.toArray) ⟨n, gD₉⟩ (fun h' pl sb => ?_) hsz
          obtain ⟨n', pl⟩ := pl
          have kD : ∀ b ob, ¬ b = D → s₉.heap.get? b = some ob → h'.get? b = some ob := fun b ob nb e => (sb.2 b nb).trans e
          have exD : ∀ b, b = D → ∃ ob, h'.get? b = some ob := fun b e => ⟨_, e ▸ pl⟩
          have inD : ∀ b, b = D → pr' b := fun b e => e ▸ prD
          have mD : Mono pr' η₉ s₉.heap η₉ pr' h' := ⟨fun b ob e _ p => kD b ob (fun q => p (inD b q)) e, fun _ e => e, fun b ob e n p => ⟨n, p⟩⟩
          have F₉ := F₈.step I₈ stp₉
          have st₉ : St (i + 1) s₉.heap η₉ pr' := itr.move st₈ m₉ fun b j ob e => stp₉.same b ob e (I₈.privs b (hJ' b j)).2.1 (fun q => q) (hJf b j)
          refine ⟨vs.length + 1 - (i + 1), by omega, i + 1, ws ++ [w₉], τ₇, η₉, its ++ [x₉], n', rfl, hlt, by rw [List.length_append]; simp only [List.length_singleton]; omega, cl₉, I₉.wr (J := fun b => b = D) kD inD exD (fun b e => e ▸ nfrNN D (.inl rfl)) s₉.toks,
            F₉.wr (J := fun b => b = D) kD inD (fun b e => e ▸ DnotOwn), itr.move st₉ mD fun b j ob e => kD b ob (fun q => NNnotJ D (.inl rfl) (q ▸ j)) e, ?_, ?_, (stp₈.trans stp₉.own).trans (Step.wr (J := fun b => b = D) kD exD fun b e => .inl (.inl e))⟩
          · show h'.get? D = _
            rw [pl]; simp
          · exact rvs_append (Rvs.mono mD _ (Rvs.mono m₉ _ rs₈)) ⟨x₉, [], rfl, Rv.mono mD _ rw₉, rfl⟩
        cases cnd with
        | none =>
          refine wpAny_tests_nil ?_
          rw [if_pos rfl]
          exact app s₇ η₅ k₇ I₇ F₇ st₇ gD₇ rs₇ stp₇'
        | some cq =>
          refine wpAny_tests_one (wpAny_mono (k₇ A cenv s₇ pr' o I₇ F₇) (fun b s₈ hq => ?_) fun _ _ e => e.absurd)
          obtain ⟨η₈, hb, I₈, stp₈⟩ := hq
          have m₈ := stp₈.toMono (pr := pr') (fun _ q => q.elim) I₇.frs
          have gD₈ := stp₈.same D _ gD₇ (I₇.privs D prD).2.1 (fun q => q) (nfrNN D (.inl rfl))
          have F₈ := F₇.step I₇ stp₈
          have st₈ : St (i + 1) s₈.heap η₈ pr' := itr.move st₇ m₈ fun b j ob e => stp₈.same b ob e (I₇.privs b (hJ' b j)).2.1 (fun q => q) (hJf b j)
          cases b with
          | true =>
            rw [if_pos rfl]
            exact app s₈ η₈ hb I₈ F₈ st₈ gD₈ (Rvs.mono m₈ _ rs₇) (stp₇'.trans stp₈.own)
          | false =>
            rw [if_neg (by decide)]
            exact ⟨vs.length + 1 - (i + 1), by omega, i + 1, ws, τ₇, η₈, its, n, rfl, hlt, by omega, hb, I₈, F₈, st₈, gD₈, Rvs.mono m₈ _ rs₇, stp₇'.trans stp₈.own⟩
      · cases r with
        | none => exact q.elim
        | some x => exact q
    · have hin : i = vs.length := by omega
      subst hin
      rw [List.drop_length] at cl₅
      unfold CompLG at cl₅
      refine itr.done (η := η₅) (pr := pr') I₅ cl₅.1 st₅ fun h₆ tk₆ k₆ => ?_
      obtain ⟨mC, nsC₅⟩ := F₅.ns
      rw [eL] at nsC₅
      have gD₆ := k₆ D _ (NNnotJ D (.inl rfl)) gD₅
      have I₆ : Inv c η₅ (fun b => pr b ∨ NN b) A { s₅ with heap := h₆, toks := tk₆ } := I₅.end k₆ (fun b q j => by
        rcases q with q | q
        · have := prs b q; rw [hJ b j] at this; cases this
        · exact NNnotJ b q j) (fun b f => .inl (I.frs b f)) tk₆
      have stAll : Step A noOwn η s.heap η₅ s₅.heap := ((Step.of_keeps keep4).trans (stp₅.weak (own' := fun b => noOwn b ∨ (NN b ∨ J b)) fun b q => .inr q)).drop fun b q => q.elim (NNs b) (hJ b)
      refine fin ws η₅ _ D C its n mC cl₅.2 (Nat.le_trans hws hz) (I₆.less (fun b q => q.imp id fun e => e.elim (fun e => .inr (.inl e)) .inl) fun b f => .inl (I.frs b f)) gD₆ ?_ (I₅.privs D prD).2.1 (fun q => ?_) (I₅.privs D prD).2.2 (NNs D (.inl rfl)) (NNs C (.inr (.inl rfl))) ?_ ?_
      · refine Rvs.mono ⟨fun b ob e _ p => k₆ b ob (fun j => p (hJ' b j)) e, fun _ e => e, fun b ob e n p => ⟨n, fun q => p ?_⟩⟩ _ rs₅
        rcases q with q | q
        · exact .inl (.inl q)
        · rcases q with q | q
          · exact .inl (.inr (.inr (.inl q)))
          · exact .inl (.inr (.inl q))
      · rcases q with q | q
        · have := prs D q; rw [NNs D (.inl rfl)] at this; cases this
        · exact DneC q
      · exact ns_upto nsC₅ fun ob e => ⟨ob.slots, k₆ C ob (NNnotJ C (.inr (.inl rfl))) e⟩
      · exact stAll.then_keep k₆ hJ
  exact codeAny_compStart_list (hcenv ▸ start _ rfl) (itr.self (η := η) (pr := pr') st4 (hcenv ▸ start _ rfl))

theorem compNames (ok : compOk scope xs = true) : scope.kind = .function ∧ ∀ y ∈ scope.names, y.2 = .local → scope.names.lookup y.1 = some .local := by
  unfold compOk at ok
  simp only [Bool.and_eq_true, beq_iff_eq, decide_eq_true_eq] at ok
  obtain ⟨⟨hkind, hnd⟩, _⟩ := ok
  refine ⟨hkind, fun y m e => ?_⟩
  obtain ⟨n, k⟩ := y
  dsimp only at e
  subst e
  exact lookup_of_mem hnd m

/-- a comprehension: a new list that nothing changes -/
theorem SE.compJ (xs : List Str) (cnd : Option Expr) (cap : CapR nm σ scope.names nmC τ)
    (p : SJ c d nm σ η iter t (fun G vs η₁ => vs.length ≤ sizeLine ∧ CompLG c d nmC t xs cnd elt (fun ws η₂ => Q (.lst ws) η₂) G vs [] τ η₁) X)
    (ok : compOk scope xs = true := by decide +kernel) (hs : ∀ env x, foldedSetIterable iter env x = pure x := by intro _ _; with_unfolding_all rfl) :
    SE c d true nm σ η (.ListComp elt [⟨t, iter, ifsOf cnd, 0⟩] scope pos) Q X := by
  intro A env s pr o I F
  rw [eval_ListComp]
  obtain ⟨hkind, hnames⟩ := compNames ok
  refine wpAny_comprehension_free (use := Option.none) (e := .ListComp elt [⟨t, iter, ifsOf cnd, 0⟩] scope pos) (g := ⟨t, iter, ifsOf cnd, 0⟩) (gs := []) rfl (hs env) (closure_eq (cap.free F)) hkind hnames (p A env s pr _ _ o I F (fun _ _ e => e) fun G vs η₁ s₁ h₂ tk J I₀ St k I₁ st itr hJ hJf keep st0 => ?_)
  obtain ⟨hz, cl⟩ := k
  refine comp_core ok o I₁ (F.step I st) cap itr hJ hJf keep st0 hz cl fun ws η' s' D C its n m k hl I' gD rs ηD nD bD sD sC ns stp => ?_
  have I' := I'.less (pr := fun b => pr b ∨ b = C) (fun b q => q.imp id .inl) fun b f => .inl (I.frs b f)
  have rs := Rvs.mono (Mono.down (pr := fun b => pr b ∨ b = C) fun b q => q.imp id .inl) _ rs
  refine ⟨m, ns, fun h' sb => ?_⟩
  have kC : ∀ b ob, ¬ b = C → s'.heap.get? b = some ob → h'.get? b = some ob := fun b ob nb e => (sb.2 b nb).trans e
  have nCpr : ∀ b, pr b → ¬ b = C := fun b q e => by
    subst e
    have := (I₁.privs _ q).1; rw [sC] at this; cases this
  have DneC : ¬ D = C := fun e => nD (.inr e)
  refine ⟨.lst ws, η', k, I'.end (J := fun b => b = C) kC nCpr I.frs s'.toks, ?_, (st.trans stp).then_keep (J := fun b => b = C) kC fun b e => ?_⟩
  · unfold Rv
    exact ⟨D, its, n, rfl, kC D _ DneC gD, ⟨ηD, fun q => nD (.inl q)⟩, hl, Rvs.mono ⟨fun b ob e _ p => kC b ob (fun q => p (.inr q)) e, fun _ e => e, fun b ob e n p => ⟨n, fun q => p (.inl q)⟩⟩ _ rs⟩
  · subst e
    cases q : s.heap.get? b with
    | none => rfl
    | some ob => have := st.there b ob q; rw [sC] at this; cases this

theorem SE.comp (xs : List Str) (cnd : Option Expr) (cap : CapR nm σ scope.names nmC τ)
    (p : SE c d true nm σ η iter (fun v η₁ => ∃ vs, SI c d t v η₁ vs ∧ vs.length ≤ sizeLine ∧ CompL c d nmC t xs cnd elt (fun ws η₂ => Q (.lst ws) η₂) vs [] τ η₁) X)
    (ok : compOk scope xs = true := by decide +kernel) (hs : ∀ env x, foldedSetIterable iter env x = pure x := by intro _ _; with_unfolding_all rfl) :
    SE c d true nm σ η (.ListComp elt [⟨t, iter, ifsOf cnd, 0⟩] scope pos) Q X := SE.compJ xs cnd cap (SJ.of (p.mono (fun _ _ ⟨vs, a, b, e⟩ => ⟨vs, a, b, e.toG⟩) fun _ _ q => q)) ok hs
/-- a comprehension that a name takes -/
theorem SX.assignComp {x : Str} {px : Pos} {spos : Pos} (xs : List Str) (cnd : Option Expr) (cap : CapR nm σ scope.names nmC τ) (hk : (x, NameKind.local) ∈ nm ∨ (x, NameKind.cell) ∈ nm)
    (p : SE c d true nm σ η iter (fun v η₁ => ∃ vs, SI c d t v η₁ vs ∧ vs.length ≤ sizeLine ∧ CompL c d nmC t xs cnd elt (fun ws η₂ => ∃ σ', Put nm σ x (.lst ws) σ' ∧ N σ' η₂) vs [] τ η₁) X)
    (hl : (px.line == pos.line) = true := by with_unfolding_all rfl) (hn : (scope.names.any fun (n, k) => n == x && (k == .local || k == .cell)) = false := by decide +kernel)
    (ok : compOk scope xs = true := by decide +kernel) (hs : ∀ env x, foldedSetIterable iter env x = pure x := by intro _ _; with_unfolding_all rfl) :
    SX c d true nm σ η (.Assign [.Name x px] (.ListComp elt [⟨t, iter, ifsOf cnd, 0⟩] scope pos) spos) N R X := by
  rcases hk with hk | hk
  · intro A env s pr outer o I F h1 h2
    have kb : env.blockKind = .function := by unfold Env.blockKind; rw [F.kind]; rfl
    have hsw : swapsWith (.ListComp elt [⟨t, iter, ifsOf cnd, 0⟩] scope pos) (some (.Name x px)) spos.line env = pure true := by
      unfold swapsWith
      have e1 : ((Expr.ListComp elt [⟨t, iter, ifsOf cnd, 0⟩] scope pos).pos.line) = pos.line := rfl
      simp only [pure_bind, kb, F.kindOf hk, e1, hl, hn, beq_self_eq_true, Bool.and_self, Bool.not_false]
    rw [exec_Assign_Name_used _ _ _ _ hsw]
    obtain ⟨hkind, hnames⟩ := compNames ok
    refine wpAny_bind (wpAny_standAt (wpAny_bind ?_))
    show wpAny _ A (do let _ ← comprehension (.ListComp elt [⟨t, iter, ifsOf cnd, 0⟩] scope pos) scope env _ (newList []) false (eval iter env) (some (PySem.assign (.Name x px) env))) _ _ s
    refine wpAny_bind (wpAny_mono (wpAny_comprehension_free (use := some (PySem.assign (.Name x px) env)) (Q := fun _ s' => FPost c A pr nm env η s.heap N R .next s') (e := .ListComp elt [⟨t, iter, ifsOf cnd, 0⟩] scope pos) (g := ⟨t, iter, ifsOf cnd, 0⟩) (gs := []) rfl (hs env) (closure_eq (cap.free F)) hkind hnames
      ((SJ.of (K := fun G vs η₁ => vs.length ≤ sizeLine ∧ CompLG c d nmC t xs cnd elt (fun ws η₂ => ∃ σ', Put nm σ x (.lst ws) σ' ∧ N σ' η₂) G vs [] τ η₁) (p.mono (fun _ _ ⟨vs, a, b, e⟩ => ⟨vs, a, b, e.toG⟩) fun _ _ q => q)) A env s pr _ _ o I F (fun _ _ e => e.weak fun _ q => q.elim) fun G vs η₁ s₁ h₂ tk J I₀ St k I₁ st itr hJ hJf keep st0 => ?_)) (fun _ s' hq => wpAny_pure (wpAny_pure hq)) fun _ _ e => e)
    obtain ⟨hz, cl⟩ := k
    have F₁ := F.step I st
    refine comp_core ok o I₁ F₁ cap itr hJ hJf keep st0 hz cl fun ws η' s' D C its n m k hlen I' gD rs ηD nD bD sD sC ns stp => ?_
    have I' := I'.less (pr := fun b => pr b ∨ b = C) (fun b q => q.imp id .inl) fun b f => .inl (I.frs b f)
    have rs := Rvs.mono (Mono.down (pr := fun b => pr b ∨ b = C) fun b q => q.imp id .inl) _ rs
    obtain ⟨σ', put, hN⟩ := k
    have nCpr : ∀ b, pr b → ¬ b = C := fun b q e => by
      subst e
      have := (I₁.privs _ q).1; rw [sC] at this; cases this
    have F₁' : FrameR c s₁.heap η₁ (fun b => pr b ∨ b = C) nm env σ := F₁.more (J := fun b => b = C) (fun _ _ e => e) fun b e => e ▸ sC
    have F' : FrameR c s'.heap η' (fun b => pr b ∨ b = C) nm env σ := by
      refine F₁'.move (stp.toMono (fun _ q => q.elim) fun b f => .inl (I.frs b f)) fun b q ob e => ?_
      rcases q with q | q
      · exact stp.upto b ob e (I₁.privs b q).2.1 fun q => q
      · rw [q, sC] at e; cases e
    have rD : Rv c.P s'.heap η' (fun b => pr b ∨ b = C) (.lst ws) (.ref D) := by
      unfold Rv; exact ⟨D, its, n, rfl, gD, ⟨ηD, nD⟩, hlen, rs⟩
    refine wpAny_assign_Name (store_var I' F' put rD fun s₂ I₂ F₂ st₂ _ => ?_)
    have ownC : ¬ ownOf env C := fun q => by
      rcases q with q | ⟨z, q⟩
      · exact nCpr _ F.nsp q.symm
      · exact nCpr _ (F.cells z C q).1 rfl
    obtain ⟨oC, eC⟩ : ∃ ob, s'.heap.get? C = some ob := by obtain ⟨ob, _, _, e, _⟩ := ns; exact ⟨ob, e⟩
    have nfC : ¬ isFr A C := fun f => nCpr C (I.frs C f) rfl
    have ns₂ : s₂.heap.Ns C m := ns_upto ns fun ob e => ⟨ob.slots, st₂.same C ob e (I'.privs C (.inr rfl)).2.1 (fun q => ownC (ownX_of C q)) nfC⟩
    refine ⟨m, ns₂, fun h' sb => ?_⟩
    have kC : ∀ b ob, ¬ b = C → s₂.heap.get? b = some ob → h'.get? b = some ob := fun b ob nb e => (sb.2 b nb).trans e
    refine ⟨σ', η', hN, I₂.end (J := fun b => b = C) kC nCpr I.frs s₂.toks, F.down (F₂.wr (J := fun b => b = C) kC (fun b e => .inr e) fun b e => e ▸ ownC) fun b q => .inl q,
      ((st.own.trans stp.own).trans (st₂.weak ownX_of)).then_keep (J := fun b => b = C) kC fun b e => ?_⟩
    subst e
    cases q : s.heap.get? b with
    | none => rfl
    | some ob => have := st.there b ob q; rw [sC] at this; cases this
  · intro A env s pr outer o I F h1 h2
    have hsw : swapsWith (.ListComp elt [⟨t, iter, ifsOf cnd, 0⟩] scope pos) (some (.Name x px)) spos.line env = pure false := by
      unfold swapsWith
      have : (some NameKind.cell == some NameKind.local) = false := by decide
      simp only [pure_bind, F.kindOf hk, this, Bool.and_false, Bool.false_and]
    refine wpAny_Assign_Name (wpAny_mono ((SE.comp (Q := fun v η₁ => ∃ σ', Put nm σ x v σ' ∧ N σ' η₁) xs cnd cap p ok hs) A env s pr o I F) (fun y s₁ hq => ?_) fun _ _ e => e.weak fun _ q => q.elim) hsw
    obtain ⟨v, η₁, ⟨σ', pt, q⟩, I₁, rv, st⟩ := hq
    exact store_var I₁ (F.step I st) pt rv fun s₂ I₂ F₂ st₂ _ => ⟨σ', η₁, q, I₂, F₂, st.own.trans (st₂.weak ownX_of)⟩
theorem SS.assignComp {x : Str} {px : Pos} {spos : Pos} (xs : List Str) (cnd : Option Expr) (cap : CapR nm σ scope.names nmC τ) (hk : (x, NameKind.local) ∈ nm ∨ (x, NameKind.cell) ∈ nm)
    (p : SE c d true nm σ η iter (fun v η₁ => ∃ vs, SI c d t v η₁ vs ∧ vs.length ≤ sizeLine ∧ CompL c d nmC t xs cnd elt (fun ws η₂ => ∃ σ', Put nm σ x (.lst ws) σ' ∧ SS c d true nm σ' η₂ rest N R X) vs [] τ η₁) X)
    (hl : (px.line == pos.line) = true := by with_unfolding_all rfl) (hn : (scope.names.any fun (n, k) => n == x && (k == .local || k == .cell)) = false := by decide +kernel)
    (ok : compOk scope xs = true := by decide +kernel) (hs : ∀ env x, foldedSetIterable iter env x = pure x := by intro _ _; with_unfolding_all rfl) :
    SS c d true nm σ η (.Assign [.Name x px] (.ListComp elt [⟨t, iter, ifsOf cnd, 0⟩] scope pos) spos :: rest) N R X := SS.cons (SX.assignComp xs cnd cap hk p hl hn ok hs)
end
end Mine

namespace Mine
open PySem PyProof.Rows PySem.W

/-- the items of a range -/
noncomputable def rngL (lo hi : Int) : List V := (List.range (hi - lo).toNat).map fun k => V.int (lo + (k : Nat))
section
variable {c : Cx} {A : Around} {pr : Pr} {η : Hp} {s : Shared} {d : Nat} {hd : Bool} {Q : V → Hp → Prop} {X : Addr → Hp → Prop} {t : Expr}

theorem SC.range1 {n : Int} (q : Q (.rng 0 n) η) : SC c d hd (.type "range") [.int n] η Q X := by
  intro A s pr xs o I r
  obtain ⟨y, rfl, ry⟩ := rvs1 r
  unfold Rv at ry; obtain ⟨u, rfl⟩ := ry
  refine call_range_1 ?_
  exact Post.pure (v := .rng 0 n) I (fun _ _ e => Heap.get?_push_of_some _ e) ⟨_, _, _, _, rfl, Heap.get?_push_size _ rfl, Rvs.fresh (vs := []) (xs := []) I⟩ q
theorem SI.rng {lo hi : Int} (h1 : -(2 ^ 60) ≤ lo) (h2 : hi < 2 ^ 60) (h3 : lo < 2 ^ 60) (h4 : -(2 ^ 60) ≤ hi) : SI c d t (.rng lo hi) η (rngL lo hi) := by
  intro A s pr y QQ E o I r hQ
  unfold Rv at r; obtain ⟨a, t1, t2, t3, rfl, ho, n1, n2⟩ := r
  have hsize : Builtin.Range.rangeSize lo hi 1 = ((hi - lo).toNat : Int) := by
    unfold Builtin.Range.rangeSize
    rw [if_pos (by decide)]
    split <;> omega
  have fit : ∀ x : Int, -(2 ^ 61) ≤ x → x < 2 ^ 61 → Builtin.Range.rangeFitsLong x = true := fun x a b => by
    unfold Builtin.Range.rangeFitsLong; simp; omega
  have small : Builtin.Range.small lo hi 1 = true := by
    unfold Builtin.Range.small
    rw [hsize, fit lo (by omega) (by omega), fit hi (by omega) (by omega), fit 1 (by omega) (by omega), fit _ (by omega) (by omega), if_pos (by decide), fit _ (by omega) (by omega)]
    simp
  refine wpAny_pyIter_range ho small ?_
  have keep : ∀ b ob, s.heap.get? b = some ob → (s.heap.push { cls := .type "range_iterator", data := .fields #[rawInt lo, rawInt (Builtin.Range.rangeSize lo hi 1), rawInt 1] }).get? b = some ob := fun b ob e => Heap.get?_push_of_some _ e
  refine hQ _ s.toks (fun b => b = s.heap.objs.size) s.heap.objs.size _
    (itr_walks (P := fun i v => ∃ t, v = .int (lo + i * 1) t) (K := fun _ h η pr => True) (cls := "range_iterator")
      (Walks.range (o.handled rfl) s.heap.objs.size lo 1 (hi - lo).toNat) (by simp [rngL]) (by decide +kernel) (fun st => ⟨_, _, st, rfl, rfl⟩) (fun _ _ => trivial) ?_ ?_)
    (fun b e => by cases e; exact fresh_none s) (fresh_frame I) keep ⟨?_, trivial⟩
  · intro h η pr b st hb
    simp only [List.mem_cons, List.not_mem_nil, or_false] at hb
    exact .inl hb
  · intro i y h η pr v st hp hv
    obtain ⟨tk, rfl⟩ := hp
    unfold rngL at hv
    rw [List.getElem?_map] at hv
    obtain ⟨k, hk, rfl⟩ := Option.map_eq_some_iff.mp hv
    have : k = i := by
      rw [List.getElem?_eq_some_iff] at hk
      obtain ⟨hl, e⟩ := hk
      simpa using e.symm
    subst this
    exact ⟨tk, by rw [Int.mul_one]⟩
  · show IsRangeIter _ _ _ _ _
    have := Heap.get?_push_size s.heap (o := { cls := .type "range_iterator", data := .fields #[rawInt lo, rawInt (Builtin.Range.rangeSize lo hi 1), rawInt 1] }) rfl
    rw [hsize] at this
    rw [hsize]
    simpa using this
end
end Mine

namespace Mine
open PySem PyProof.Rows PySem.W
section
variable {c : Cx} {η : Hp} {d : Nat} {nm : List (Str × NameKind)} {σ τ : List (Option V)} {t elt : Expr} {xs : List Str} {cnd : Option Expr} {K : List V → Hp → Prop} {x y : Str} {px py tp : Pos}

theorem SA.forget {v : V} {KK : List (Option V) → Prop} (l : Less τ σ) (p : SA c d nm τ η t xs v KK) : SA c d nm σ η t xs v KK :=
  fun A env s pr y QQ E o I F r q => p A env s pr y QQ E o I (F.less l) r q
theorem CompL.forget (l : Less τ σ) : ∀ {vs ws : List V}, CompL c d nm t xs cnd elt K vs ws τ η → CompL c d nm t xs cnd elt K vs ws σ η
  | [], _, p => by unfold CompL at p ⊢; exact p
  | v :: vs, _, p => by unfold CompL at p ⊢; exact SA.forget l p

end
end Mine

namespace Mine
open PySem PyProof.Rows PySem.W

noncomputable def byOf (t b : Int) : Int := if b < 0 then 0 - (Int.gcd t b : Int) else Int.gcd t b
noncomputable def shareOf (t b : Int) : V := .tup [.int (t.fdiv (byOf t b)), .int (b.fdiv (byOf t b))]
theorem byOf_ne {t b : Int} (h : b ≠ 0) : byOf t b ≠ 0 := by
  have : 0 < Int.gcd t b := Int.gcd_pos_of_ne_zero_right _ h
  unfold byOf; split <;> omega
theorem byOf_abs {t b : Int} : (byOf t b).natAbs = Int.gcd t b := by unfold byOf; split <;> omega
theorem byOf_dvd_left {t b : Int} : byOf t b ∣ t := by
  rw [← Int.natAbs_dvd_natAbs, byOf_abs]; exact Int.ofNat_dvd.mp (by rw [Int.dvd_natAbs]; exact Int.gcd_dvd_left ..)
theorem byOf_dvd_right {t b : Int} : byOf t b ∣ b := by
  rw [← Int.natAbs_dvd_natAbs, byOf_abs]; exact Int.ofNat_dvd.mp (by rw [Int.dvd_natAbs]; exact Int.gcd_dvd_right ..)

/-- the normal form of a share -/
structure Normal (t b p q : Int) : Prop where
  pos : 1 ≤ q
  cop : Int.gcd p q = 1
  eq : p * b = t * q
  top : p.natAbs ≤ t.natAbs
  bot : q.natAbs ≤ b.natAbs
theorem shareOf_normal {t b : Int} (h : b ≠ 0) : Normal t b (t.fdiv (byOf t b)) (b.fdiv (byOf t b)) := by
  have hg := @byOf_ne t b h
  have d1 := @byOf_dvd_left t b
  have d2 := @byOf_dvd_right t b
  have ab := @byOf_abs t b
  rw [Int.fdiv_eq_ediv_of_dvd d1, Int.fdiv_eq_ediv_of_dvd d2]
  generalize hG : byOf t b = g at *
  obtain ⟨p, hp⟩ := d1
  obtain ⟨q, hq⟩ := d2
  have e1 : t / g = p := by rw [hp]; exact Int.mul_ediv_cancel_left _ hg
  have e2 : b / g = q := by rw [hq]; exact Int.mul_ediv_cancel_left _ hg
  rw [e1, e2]
  have gpos : 0 < g.natAbs := Int.natAbs_pos.mpr hg
  have cop : Int.gcd p q = 1 := by
    have : Int.gcd (g * p) (g * q) = g.natAbs * Int.gcd p q := Int.gcd_mul_left ..
    rw [← hp, ← hq, ← ab] at this
    have e3 : g.natAbs * 1 = g.natAbs * Int.gcd p q := by omega
    exact (Nat.eq_of_mul_eq_mul_left gpos e3).symm
  refine ⟨?_, cop, by rw [hp, hq]; simp only [Int.mul_comm, Int.mul_left_comm, Int.mul_assoc], ?_, ?_⟩
  · have q0 : q ≠ 0 := fun e => h (by rw [hq, e, Int.mul_zero])
    by_cases hb : b < 0
    · have hgn : g < 0 := by
        have : 0 < Int.gcd t b := Int.gcd_pos_of_ne_zero_right _ h
        rw [← hG]; unfold byOf; rw [if_pos hb]; omega
      by_cases hq0 : q < 0
      · have := Int.mul_pos_of_neg_of_neg hgn hq0; omega
      · omega
    · have hgn : 0 < g := by
        have : 0 < Int.gcd t b := Int.gcd_pos_of_ne_zero_right _ h
        rw [← hG]; unfold byOf; rw [if_neg hb]; omega
      by_cases hq0 : q < 0
      · have := Int.mul_neg_of_pos_of_neg hgn hq0; omega
      · omega
  · rw [hp, Int.natAbs_mul]; exact Nat.le_mul_of_pos_left _ gpos
  · rw [hq, Int.natAbs_mul]; exact Nat.le_mul_of_pos_left _ gpos

section
variable {c : Cx} {η : Hp} {d : Nat} {hd : Bool} {Q : V → Hp → Prop} {X : Addr → Hp → Prop} {v : V}
theorem S2.neB {a b : Bool} (q : Q (.bool (a != b)) η) : S2 c d hd (compareOp .NotEq) (.bool a) (.bool b) η Q X := by
  refine S2.neD (a := .bool a) (b := .bool b) .bool .bool (by cases a <;> rfl) (by cases b <;> rfl) ?_
  have : (!PyData.eqv (.bool a) (.bool b)) = (a != b) := by cases a <;> cases b <;> decide +kernel
  rw [this]; exact q
theorem S2.mulB {vs : List V} {b : Bool} (hz : vs.length ≤ sizeLine) (q : Q (.lst (if b then vs else [])) η) : S2 c d hd (binaryOp .Mult) (.lst vs) (.int (if b then 1 else 0)) η Q X := by
  cases b with
  | true => exact S2.mulL (by decide) (by decide) (by simpa using hz) (by simpa using q)
  | false => exact S2.mulL (by decide) (by decide) (by simp) (by simpa using q)
theorem SC.join_of {u : Str} {vs : List V} {ys : List Str} (e : vs = ys.map V.str) (hz : (ys.map (·.length)).sum + ys.length * u.length ≤ 16777216) (q : Q (.str (Txt.join u ys)) η) : SC c d hd (.builtin "str.join") [.str u, .lst vs] η Q X := by
  subst e; exact SC.join_lst hz q
end
end Mine

namespace Mine
open PySem PyProof.Rows PySem.W
section
variable {c : Cx} {K : Params → Frag} {gt bt : List (Str × Value)} {η : Hp} {d : Nat} {hd : Bool} {nm : List (Str × NameKind)} {σ : List (Option V)}
  {Q R : V → Hp → Prop} {X : Addr → Hp → Prop} {v w : V} {x : Str} {pos : Pos}

theorem A.var {kd : NameKind} (q : Q v η) (a : At nm σ x kd v := by with_reducible (repeat (first | exact At.head | apply At.tail))) (hn : (x == ("__debug__" : Str)) = false := by decide +kernel) (hc : (x == ("__classdict__" : Str)) = false := by decide +kernel) :
    SE c d hd nm σ η (.Name x pos) Q X := SE.var a q hn hc
theorem A.gname {g : Value} (q : Q (.glob g) η) (W : Wd c K gt bt := by assumption) (m : (x, NameKind.globalImplicit) ∈ nm := by with_reducible (repeat (first | exact List.mem_cons_self | apply List.mem_cons_of_mem)))
    (mg : (x, g) ∈ gt := by with_reducible (repeat (first | exact List.mem_cons_self | apply List.mem_cons_of_mem))) (hn : (x == ("__debug__" : Str)) = false := by decide +kernel) : SE c d hd nm σ η (.Name x pos) Q X := SE.gname W m mg q hn
theorem A.bname {g : Value} (q : Q (.glob g) η) (W : Wd c K gt bt := by assumption) (m : (x, NameKind.globalImplicit) ∈ nm := by with_reducible (repeat (first | exact List.mem_cons_self | apply List.mem_cons_of_mem)))
    (mg : (x, g) ∈ bt := by with_reducible (repeat (first | exact List.mem_cons_self | apply List.mem_cons_of_mem))) (hn : (x == ("__debug__" : Str)) = false := by decide +kernel) : SE c d hd nm σ η (.Name x pos) Q X := SE.bname W m mg q hn
theorem A.gcall {f : Str} {fp : Pos} {es : List Expr} {a : Addr} (p : SL c d hd nm σ η es (fun vs η₁ => SC c d hd (.ref a) vs η₁ Q X) X) (W : Wd c K gt bt := by assumption)
    (m : (f, NameKind.globalImplicit) ∈ nm := by with_reducible (repeat (first | exact List.mem_cons_self | apply List.mem_cons_of_mem))) (mg : (f, .ref a) ∈ gt := by with_reducible (repeat (first | exact List.mem_cons_self | apply List.mem_cons_of_mem)))
    (hf : fnIn (K c.P) a = true := by kernel_rfl) (hs : es.any star? = false := by with_unfolding_all rfl) (hn : (f == ("__debug__" : Str)) = false := by decide +kernel) : SE c d hd nm σ η (.Call (.Name f fp) es [] pos) Q X := SE.gcall W m mg hf p hs hn
theorem A.bcall {f id : String} {fp : Pos} {es : List Expr} (p : SL c d hd nm σ η es (fun vs η₁ => SC c d hd (.builtin id) vs η₁ Q X) X) (W : Wd c K gt bt := by assumption)
    (m : (Str.ofString f, NameKind.globalImplicit) ∈ nm := by with_reducible (repeat (first | exact List.mem_cons_self | apply List.mem_cons_of_mem))) (mg : (Str.ofString f, .builtin id) ∈ bt := by with_reducible (repeat (first | exact List.mem_cons_self | apply List.mem_cons_of_mem)))
    (hs : es.any star? = false := by with_unfolding_all rfl) (hn : ((Str.ofString f) == ("__debug__" : Str)) = false := by decide +kernel) : SE c d hd nm σ η (.Call (.Name (Str.ofString f) fp) es [] pos) Q X := SE.bcall W m mg p hs hn
theorem A.tcall {f id : String} {fp : Pos} {es : List Expr} (p : SL c d hd nm σ η es (fun vs η₁ => SC c d hd (.type id) vs η₁ Q X) X) (W : Wd c K gt bt := by assumption)
    (m : (Str.ofString f, NameKind.globalImplicit) ∈ nm := by with_reducible (repeat (first | exact List.mem_cons_self | apply List.mem_cons_of_mem))) (mg : (Str.ofString f, .type id) ∈ bt := by with_reducible (repeat (first | exact List.mem_cons_self | apply List.mem_cons_of_mem)))
    (hs : es.any star? = false := by with_unfolding_all rfl) (hn : ((Str.ofString f) == ("__debug__" : Str)) = false := by decide +kernel) : SE c d hd nm σ η (.Call (.Name (Str.ofString f) fp) es [] pos) Q X := SE.tcall W m mg p hs hn
theorem A.itup {e i : Expr} {vs : List V} {j : Int} {u : V} (q : Q u η) (h0 : 0 ≤ j := by decide) (hu : vs[j.toNat]? = some u := by with_unfolding_all rfl) (hs : notSlice i = true := by with_unfolding_all rfl) : S2 c d hd (subscriptTail e i) (.tup vs) (.int j) η Q X := S2.itemI_tup h0 hu q hs
theorem A.ilst {e i : Expr} {vs : List V} {j : Int} {u : V} (q : Q u η) (h0 : 0 ≤ j := by decide) (hu : vs[j.toNat]? = some u := by with_unfolding_all rfl) (hs : notSlice i = true := by with_unfolding_all rfl) : S2 c d hd (subscriptTail e i) (.lst vs) (.int j) η Q X := S2.itemI_lst h0 hu q hs
theorem A.put {y : Str} {P : List (Option V) → Prop} {σ' : List (Option V)} (k : P σ') (p : Put nm σ y v σ' := by with_reducible (repeat (first | exact Put.loc | exact Put.cell | apply Put.tail))) : ∃ σ', Put nm σ y v σ' ∧ P σ' := ⟨σ', p, k⟩
theorem A.len {n : Nat} {P : Prop} (k : P) (h : Nat.ble n 10000 = true := by with_unfolding_all rfl) : n ≤ sizeLine ∧ P := ⟨len_ok h, k⟩
end
end Mine

namespace Mine
open PySem PyProof.Rows PySem.W

theorem ints_rvs {P : Params} {h : Heap} {η : Hp} {pr : Pr} : ∀ {ns : List Int} {vs : List Value}, WellAll P h vs (ofPys (ns.map PyData.int)) → Rvs P h η pr (ns.map V.int) vs
  | [], _, w => by
    unfold List.map ofPys at w
    cases w; rfl
  | n :: ns, _, w => by
    rw [List.map_cons] at w
    unfold ofPys at w
    cases w with
    | cons a b =>
      unfold ofPy at a
      cases a
      exact ⟨_, _, rfl, ⟨_, rfl⟩, ints_rvs b⟩
theorem weight_ints : ∀ (ns : List Int) (n : Int), n ∈ ns → Builtin.Int.intBits n ≤ PyData.weightAll (ns.map PyData.int)
  | [], _, m => by cases m
  | k :: ns, n, m => by
    rw [List.map_cons]; unfold PyData.weightAll
    rcases List.mem_cons.mp m with rfl | m
    · have : PyData.weight (.int n) = Builtin.Int.intBits n := by unfold PyData.weight Builtin.Int.intBits; rfl
      omega
    · have := weight_ints ns n m
      omega
theorem bits_of_layable {ns : List Int} (h : (PyData.list (ns.map PyData.int)).layable0 = true) : ∀ n ∈ ns, Builtin.Int.intBits n ≤ 2 ^ 20 := by
  intro n m
  unfold PyData.layable0 at h
  simp only [Bool.and_eq_true, decide_eq_true_eq] at h
  have e : PyData.weight (.list (ns.map PyData.int)) = PyData.weightAll (ns.map PyData.int) := by unfold PyData.weight; rfl
  have := weight_ints ns n m
  omega

theorem law_end {claim : ClaimW} {cl : Str → Option Addr} {mean : ExcName → Option Value} {args : List WData} {prog : Program} {w : World} {s₁ : Shared} {mg mb : Str → Option Value} {p : Program} {loose : List Str} {mean' : ExcName → Option Value}
    {K : Params → Frag} {gt bt : List (Str × Value)} {ns : List Int} {l a fa : Addr} (T : Top p loose mean' mg mb s₁.heap) (KX : (K w.params).In s₁.heap) (hg : s₁.gens = #[])
    (h1 : gtOk (K w.params) gt = true) (h2 : btOk (K w.params) bt = true) (h3 : btOk' bt = true) (w1 : Well w.params s₁.heap (.ref l) (ofPy (.list (ns.map .int)))) (hlen : ns.length ≤ 63) (hL : (PyData.list (ns.map PyData.int)).layable0 = true)
    (hmg : mg (Str.ofString "law") = some (.ref fa)) (hma : (Str.ofString "law", .ref a) ∈ gt) (hr : ∀ cls, claim.raises args cls = false) (hp : claim.post args (.bool true) args = true)
    (hi : importsNone p = true) (ht : prog.given.tree = none) (hlaw : ∀ c : Cx, Wd c K gt bt → SC0 c 150 true (.ref a) [.lst (ns.map V.int)] (fun _ => none) (fun v _ => v = .bool true) noX) :
    wpAny (model prog w) callerA ((fun f vs => call f vs) (.ref fa) [.ref l]) (fun v s' => GoodWG claim cl mean args s₁ (.ok (.ret v)) s') (fun e s' => GoodWG claim cl mean args s₁ (.error e) s') s₁ := by
  let c : Cx := ⟨prog, w, s₁.heap, s₁.os, mg, mb, T.g, T.b, T.nolimit, T.nodigits, T.seer hi, ht⟩
  have W : Wd c K gt bt := Wd.of (c := c) KX h1 h2 h3 T.builtins
  have e : a = fa := by
    have := W.glob _ hma
    have q : mg (Str.ofString "law") = some (.ref a) := this
    rw [hmg] at q; injection q with q; injection q with q; exact q.symm
  subst e
  have I : Inv c (fun _ => none) (fun _ => False) callerA s₁ := by
    refine ⟨fun _ _ e => e, (fun a o e => by cases e), (fun a e => by cases e), (fun _ e => e.elim), ⟨[], rfl, trivial⟩, fun b f => ?_, rfl, hg⟩
    obtain ⟨env, m, _⟩ := f
    cases m
  have ok : Ok0 150 true callerA := ⟨by decide, by decide, fun _ => rfl, rfl⟩
  have r : Rvs c.P s₁.heap (fun _ => none) (fun _ => False) [V.lst (ns.map V.int)] [.ref l] := by
    unfold ofPy at w1
    cases w1 with
    | list ho wa =>
      refine ⟨_, _, rfl, ?_, rfl⟩
      unfold Rv
      exact ⟨l, _, _, rfl, ho, ⟨rfl, fun q => q⟩, by rw [List.length_map]; exact Nat.le_trans hlen (by decide), ints_rvs wa⟩
  refine wpAny_mono (hlaw c W callerA s₁ (fun _ => False) [.ref l] ok I r) (fun v s' hq => ?_) fun _ _ e => e.absurd
  obtain ⟨u, η', rfl, I', rv, st⟩ := hq
  unfold Rv at rv; subst rv
  refine ⟨.inl ⟨_, .bool true, [], rfl, hr, ?_, hp, fun _ => ⟨List.nodup_nil, fun _ m => by cases m⟩⟩, ?_, I'.os, .of_eq I'.gens⟩
  · exact ReadsW.bool true
  · exact .of_keep fun b o e => st.same b o e rfl (fun q => q) fun f => by
      obtain ⟨env, m, _⟩ := f
      cases m
end Mine



namespace Mine
open PySem PyProof.Rows PySem.W

section
variable {c : Cx} {A : Around} {pr : Pr} {η η' : Hp} {s : Shared} {d : Nat} {hd : Bool} {nm : List (Str × NameKind)} {σ : List (Option V)} {env : Env}
  {Q R : V → Hp → Prop} {B : Bool → Hp → Prop} {X : Addr → Hp → Prop} {v w : V} {x : Str} {pos p' : Pos} {K : Params → Frag} {gt bt : List (Str × Value)} {a b : Str} {t : Expr}

-- slices
-- calls
-- a text's signs
-- two tests in a chain
-- plain values of the top
end
end Mine

namespace Mine
open PySem PyProof.Rows PySem.W

section
variable {c : Cx} {η η' : Hp} {d : Nat} {hd : Bool} {nm : List (Str × NameKind)} {σ σ' τ : List (Option V)}
  {Q R : V → Hp → Prop} {B : Bool → Hp → Prop} {X : Addr → Hp → Prop} {v w : V} {x : Str} {pos p' : Pos} {K : Params → Frag} {gt bt : List (Str × Value)} {t : Expr} {N : List (Option V) → Hp → Prop} {rest : List Stmt} {xs : List Str}

/-- tests whose outcome is known and that touch nothing -/
noncomputable abbrev TP (c : Cx) (d : Nat) (hd : Bool) (nm : List (Str × NameKind)) (σ : List (Option V)) (η : Hp) (e : Expr) (u : Bool) (X : Addr → Hp → Prop) : Prop := ST c d hd nm σ η e (fun b η' => b = u ∧ η' = η) X
theorem TP.to {e : Expr} {u : Bool} (p : TP c d hd nm σ η e u X) (k : B u η) : ST c d hd nm σ η e B X := p.mono (fun b η' q => by obtain ⟨rfl, rfl⟩ := q; exact k) fun _ _ q => q
theorem TP.and {e₁ e₂ : Expr} {u₁ u₂ : Bool} (p : TP c d hd nm σ η e₁ u₁ X) (p₂ : u₁ = true → TP c d hd nm σ η e₂ u₂ X) : TP c d hd nm σ η (.BoolOp .And [e₁, e₂] pos) (u₁ && u₂) X := by
  refine ST.boolop (STs.and_cons (p.to ?_))
  cases u₁ with
  | false => exact ⟨rfl, rfl⟩
  | true =>
    refine STs.and_cons ((p₂ rfl).to ?_)
    cases u₂ with
    | false => exact ⟨rfl, rfl⟩
    | true => exact STs.and_nil ⟨rfl, rfl⟩
theorem TP.or {e₁ e₂ : Expr} {u₁ u₂ : Bool} (p : TP c d hd nm σ η e₁ u₁ X) (p₂ : u₁ = false → TP c d hd nm σ η e₂ u₂ X) : TP c d hd nm σ η (.BoolOp .Or [e₁, e₂] pos) (u₁ || u₂) X := by
  refine ST.boolop (STs.or_cons (p.to ?_))
  cases u₁ with
  | true => exact ⟨rfl, rfl⟩
  | false =>
    refine STs.or_cons ((p₂ rfl).to ?_)
    cases u₂ with
    | true => exact ⟨rfl, rfl⟩
    | false => exact STs.or_nil ⟨rfl, rfl⟩
theorem TP.or3 {e₁ e₂ e₃ : Expr} {u₁ u₂ u₃ : Bool} (p : TP c d hd nm σ η e₁ u₁ X) (p₂ : u₁ = false → TP c d hd nm σ η e₂ u₂ X) (p₃ : u₁ = false → u₂ = false → TP c d hd nm σ η e₃ u₃ X) : TP c d hd nm σ η (.BoolOp .Or [e₁, e₂, e₃] pos) (u₁ || u₂ || u₃) X := by
  refine ST.boolop (STs.or_cons (p.to ?_))
  cases u₁ with
  | true => exact ⟨rfl, rfl⟩
  | false =>
    refine STs.or_cons ((p₂ rfl).to ?_)
    cases u₂ with
    | true => exact ⟨rfl, rfl⟩
    | false =>
      refine STs.or_cons ((p₃ rfl rfl).to ?_)
      cases u₃ with
      | true => exact ⟨rfl, rfl⟩
      | false => exact STs.or_nil ⟨rfl, rfl⟩
theorem TP.not {e : Expr} {u : Bool} (p : TP c d hd nm σ η e u X) : TP c d hd nm σ η (.UnaryOp .Not e pos) (!u) X := ST.not (p.to ⟨rfl, rfl⟩)

/-- expressions whose value is known and that touch nothing -/
noncomputable abbrev EP (c : Cx) (d : Nat) (hd : Bool) (nm : List (Str × NameKind)) (σ : List (Option V)) (η : Hp) (e : Expr) (v : V) (X : Addr → Hp → Prop) : Prop := SE c d hd nm σ η e (fun w η' => w = v ∧ η' = η) X
theorem EP.to {e : Expr} (p : EP c d hd nm σ η e v X) (k : Q v η) : SE c d hd nm σ η e Q X := p.mono (fun w η' q => by obtain ⟨rfl, rfl⟩ := q; exact k) fun _ _ q => q
/-- an if that leaves the block or does nothing -/
theorem SS.ifX {a : List Stmt} (u : Bool) (p : TP c d hd nm σ η t u X) (ha : u = true → SS c d hd nm σ η a (fun _ _ => False) R X) (k : u = false → SS c d hd nm σ η rest N R X) : SS c d hd nm σ η (.If t a [] pos :: rest) N R X := by
  refine SS.if (p.to ?_)
  cases u with
  | true => exact (ha rfl).mono (fun τ η' q => q.elim) (fun _ _ q => q) fun _ _ q => q
  | false => exact SS.nil (k rfl)

/-- a loop that looks at each item -/
theorem ForL.check {body : List Stmt} (g : V → Bool) (T : List (Option V)) {vs : List V} (hb : ∀ v ∈ vs, SA c d nm T η t xs v fun τ => SS c d true nm τ η body (fun τ' η' => g v = true ∧ Less T τ' ∧ η' = η) R X)
    (hN : (∀ v ∈ vs, g v = true) → ∀ σ', Less T σ' → N σ' η) {σ : List (Option V)} (l : Less T σ) : ForL c d nm t xs body N R X vs σ η := by
  induction vs generalizing σ with
  | nil => unfold ForL; exact hN (fun _ m => by cases m) σ l
  | cons v vs ih =>
    unfold ForL
    refine SA.forget l ((hb v (.head _)).mono fun τ p => p.mono (fun τ' η' q => ?_) (fun _ _ q => q) fun _ _ q => q)
    obtain ⟨hv, l', rfl⟩ := q
    exact ih (fun u m => hb u (.tail _ m)) (fun h => hN fun u m => by
      rcases List.mem_cons.mp m with rfl | m
      · exact hv
      · exact h u m) l'
end
end Mine

namespace Mine
open PySem PyProof.Rows PySem.W

mutual
/-- the mutable objects of a value are known -/
def Lin (η : Hp) : V → Prop
  | .loc a => (η a).isSome = true
  | .tup vs => Lins η vs
  | .lst vs => Lins η vs
  | .dct _ vs => Lins η vs
  | .obj _ _ vs => Lins η vs
  | _ => True
def Lins (η : Hp) : List V → Prop
  | [] => True
  | v :: vs => Lin η v ∧ Lins η vs
end
noncomputable def Ext (η η₁ : Hp) : Prop := ∀ b o, η b = some o → η₁ b = some o
theorem Ext.none {η η₁ : Hp} (x : Ext η η₁) {b : Addr} (e : η₁ b = none) : η b = none := by
  cases q : η b with
  | none => rfl
  | some o => rw [x b o q] at e; cases e
section
variable {P : Params} {pr : Pr} {η η₁ : Hp} {h h' : Heap}
mutual
theorem Rv.lin : ∀ (v : V) {x : Value}, Rv P h η pr v x → Lin η v
  | .none, _, e => trivial
  | .bool _, _, e => trivial
  | .int _, _, e => trivial
  | .str _, _, e => trivial
  | .glob _, _, e => trivial
  | .exc _, _, e => trivial
  | .rng _ _, _, e => trivial
  | .loc a, _, e => by unfold Rv at e; exact e.2
  | .tup vs, _, e => by unfold Rv at e; obtain ⟨_, _, _, _, _, _, _, r⟩ := e; exact Rvs.lin vs r
  | .lst vs, _, e => by unfold Rv at e; obtain ⟨_, _, _, _, _, _, _, r⟩ := e; exact Rvs.lin vs r
  | .dct ks vs, _, e => by unfold Rv at e; obtain ⟨_, _, _, _, _, _, _, _, r⟩ := e; exact Rvs.lin vs r
  | .obj C ks vs, _, e => by unfold Rv at e; obtain ⟨_, _, _, _, _, _, _, _, _, _, _, r⟩ := e; exact Rvs.lin vs r
theorem Rvs.lin : ∀ (vs : List V) {xs : List Value}, Rvs P h η pr vs xs → Lins η vs
  | [], _, _ => trivial
  | v :: vs, _, e => by unfold Rvs at e; obtain ⟨_, _, _, r, rs⟩ := e; exact ⟨Rv.lin v r, Rvs.lin vs rs⟩
end
mutual
/-- fewer mutable objects -/
theorem Rv.frz (x : Ext η η₁) : ∀ (v : V) {y : Value}, Lin η v → Rv P h η₁ pr v y → Rv P h η pr v y
  | .none, _, _, e => by unfold Rv at e ⊢; exact e
  | .bool _, _, _, e => by unfold Rv at e ⊢; exact e
  | .int _, _, _, e => by unfold Rv at e ⊢; exact e
  | .str _, _, _, e => by unfold Rv at e ⊢; exact e
  | .glob _, _, _, e => by unfold Rv at e ⊢; exact e
  | .exc C, _, _, e => by
    unfold Rv at e ⊢
    obtain ⟨a, o, fs, e1, e2, e3, e4, n, p⟩ := e
    exact ⟨a, o, fs, e1, e2, e3, e4, x.none n, p⟩
  | .rng lo hi, _, _, e => by
    unfold Rv at e ⊢
    obtain ⟨a, t, u, k, e1, ho, n, p⟩ := e
    exact ⟨a, t, u, k, e1, ho, x.none n, p⟩
  | .loc a, _, l, e => by unfold Rv at e ⊢; exact ⟨e.1, l⟩
  | .tup vs, _, l, e => by
    unfold Rv at e ⊢
    obtain ⟨a, xs, n', e1, ho, ⟨n, p⟩, z, r⟩ := e
    exact ⟨a, xs, n', e1, ho, ⟨x.none n, p⟩, z, Rvs.frz x vs l r⟩
  | .lst vs, _, l, e => by
    unfold Rv at e ⊢
    obtain ⟨a, xs, n', e1, ho, ⟨n, p⟩, z, r⟩ := e
    exact ⟨a, xs, n', e1, ho, ⟨x.none n, p⟩, z, Rvs.frz x vs l r⟩
  | .dct ks vs, _, l, e => by
    unfold Rv at e ⊢
    obtain ⟨a, xs, es, n', e1, ho, ⟨n, p⟩, q, r⟩ := e
    exact ⟨a, xs, es, n', e1, ho, ⟨x.none n, p⟩, q, Rvs.frz x vs l r⟩
  | .obj C ks vs, _, l, e => by
    unfold Rv at e ⊢
    obtain ⟨a, dd, xs, es, n', e1, ho, hd, ⟨n, p⟩, ⟨n2, p2⟩, q, r⟩ := e
    exact ⟨a, dd, xs, es, n', e1, ho, hd, ⟨x.none n, p⟩, ⟨x.none n2, p2⟩, q, Rvs.frz x vs l r⟩
theorem Rvs.frz (x : Ext η η₁) : ∀ (vs : List V) {xs : List Value}, Lins η vs → Rvs P h η₁ pr vs xs → Rvs P h η pr vs xs
  | [], _, _, e => by unfold Rvs at e ⊢; exact e
  | v :: vs, _, l, e => by
    unfold Rvs at e ⊢
    obtain ⟨y, ys, e1, r, rs⟩ := e
    exact ⟨y, ys, e1, Rv.frz x v l.1 r, Rvs.frz x vs l.2 rs⟩
end

mutual
/-- mutable objects that are left alone from now on -/
inductive Frz (η η₁ : Hp) : V → V → Prop
  | keep {v} : Lin η v → Frz η η₁ v v
  | lst {a vs₁ vs} : η₁ a = some (.lst vs₁) → η a = none → Frzs η η₁ vs₁ vs → Frz η η₁ (.loc a) (.lst vs)
  | obj {a dd C ks vs₁ vs} : η₁ a = some (.inst C dd) → η₁ dd = some (.idict ks vs₁) → η a = none → η dd = none → Frzs η η₁ vs₁ vs → Frz η η₁ (.loc a) (.obj C ks vs)
  | tup {vs₁ vs} : Frzs η η₁ vs₁ vs → Frz η η₁ (.tup vs₁) (.tup vs)
  | lst' {vs₁ vs} : Frzs η η₁ vs₁ vs → Frz η η₁ (.lst vs₁) (.lst vs)
inductive Frzs (η η₁ : Hp) : List V → List V → Prop
  | nil : Frzs η η₁ [] []
  | cons {v₁ v vs₁ vs} : Frz η η₁ v₁ v → Frzs η η₁ vs₁ vs → Frzs η η₁ (v₁ :: vs₁) (v :: vs)
end
theorem Frzs.keep : ∀ {vs : List V}, Lins η vs → Frzs η η₁ vs vs
  | [], _ => .nil
  | _ :: _, l => .cons (.keep l.1) (Frzs.keep l.2)
end

section
variable {c : Cx} {A : Around} {pr : Pr} {η η₁ : Hp} {s s' : Shared} {d : Nat} {hd : Bool} {Q : V → Hp → Prop} {X : Addr → Hp → Prop} {vs : List V} {f : Value}
theorem Frzs.len : ∀ {vs₁ vs : List V}, Frzs η η₁ vs₁ vs → vs.length = vs₁.length
  | _, _, .nil => rfl
  | _, _, .cons _ r => by rw [List.length_cons, List.length_cons, Frzs.len r]
mutual
theorem Frz.rv (I : Inv c η₁ pr A s) (x : Ext η η₁) : ∀ {v₁ v : V} {y : Value}, Frz η η₁ v₁ v → Rv c.P s.heap η₁ pr v₁ y → Rv c.P s.heap η pr v y
  | _, _, _, .keep l, r => Rv.frz x _ l r
  | _, _, _, .lst e n fs, r => by
    unfold Rv at r ⊢
    obtain ⟨rfl, _⟩ := r
    obtain ⟨xs, k, ho, z, rs⟩ := I.hrel _ _ e
    exact ⟨_, xs, k, rfl, ho, ⟨n, fun p => by have := (I.privs _ p).2.1; rw [e] at this; cases this⟩, by rw [Frzs.len fs]; exact z, Frzs.rv I x fs rs⟩
  | _, _, _, .obj e e2 n n2 fs, r => by
    unfold Rv at r ⊢
    obtain ⟨rfl, _⟩ := r
    obtain ⟨ho, _⟩ := I.hrel _ _ e
    obtain ⟨xs, es, k, hd, en, rs⟩ := I.hrel _ _ e2
    exact ⟨_, _, xs, es, k, rfl, ho, hd, ⟨n, fun p => by have := (I.privs _ p).2.1; rw [e] at this; cases this⟩, ⟨n2, fun p => by have := (I.privs _ p).2.1; rw [e2] at this; cases this⟩, en, Frzs.rv I x fs rs⟩
  | _, _, _, .tup fs, r => by
    unfold Rv at r ⊢
    obtain ⟨a, xs, n', e1, ho, ⟨n, p⟩, z, r⟩ := r
    exact ⟨a, xs, n', e1, ho, ⟨x.none n, p⟩, by rw [Frzs.len fs]; exact z, Frzs.rv I x fs r⟩
  | _, _, _, .lst' fs, r => by
    unfold Rv at r ⊢
    obtain ⟨a, xs, n', e1, ho, ⟨n, p⟩, z, r⟩ := r
    exact ⟨a, xs, n', e1, ho, ⟨x.none n, p⟩, by rw [Frzs.len fs]; exact z, Frzs.rv I x fs r⟩
theorem Frzs.rv (I : Inv c η₁ pr A s) (x : Ext η η₁) : ∀ {vs₁ vs : List V} {ys : List Value}, Frzs η η₁ vs₁ vs → Rvs c.P s.heap η₁ pr vs₁ ys → Rvs c.P s.heap η pr vs ys
  | _, _, _, .nil, r => by unfold Rvs at r ⊢; exact r
  | _, _, _, .cons g gs, r => by
    unfold Rvs at r ⊢
    obtain ⟨y, ys, rfl, r1, rs⟩ := r
    exact ⟨y, ys, rfl, Frz.rv I x g r1, Frzs.rv I x gs rs⟩
end
theorem Inv.frz {A₀ : Around} {pr₀ : Pr} {s₀ : Shared} (I₀ : Inv c η pr₀ A₀ s₀) (I : Inv c η₁ pr A s) (x : Ext η η₁) : Inv c η pr A s := by
  refine ⟨I.stays, fun a o e => ?_, fun a e => I₀.apart a e, fun a p => ⟨(I.privs a p).1, x.none (I.privs a p).2.1, (I.privs a p).2.2⟩, I.frames, I.frs, I.os, I.gens⟩
  have r₀ := I₀.hrel a o e
  have r := I.hrel a o (x a o e)
  cases o with
  | lst vs =>
    obtain ⟨_, _, _, _, q⟩ := r₀
    obtain ⟨xs, n, ho, z, rs⟩ := r
    exact ⟨xs, n, ho, z, Rvs.frz x vs (Rvs.lin vs q) rs⟩
  | inst C dd =>
    obtain ⟨ho, _⟩ := r
    exact ⟨ho, r₀.2⟩
  | idict ks vs =>
    obtain ⟨_, _, _, _, _, q⟩ := r₀
    obtain ⟨xs, es, n, ho, en, rs⟩ := r
    exact ⟨xs, es, n, ho, en, Rvs.frz x vs (Rvs.lin vs q) rs⟩
theorem Step.frz {own : Pr} {h h' : Heap} (st : Step A own η h η₁ h') : Step A own η h η h' := ⟨st.upto, st.same, st.there, fun _ e => e, fun b e e' => by rw [e] at e'; cases e'⟩
/-- a call whose new mutable objects are left alone from now on -/
theorem SC.frz (p : SC c d hd f vs η (fun v₁ η₁ => Ext η η₁ ∧ ∃ v, Frz η η₁ v₁ v ∧ Q v η) (fun C η₁ => Ext η η₁ ∧ X C η)) : SC c d hd f vs η Q X := by
  intro A s pr xs o I r
  refine wpAny_mono (p A s pr xs o I r) (fun y s' hq => ?_) fun y s' hx => ?_
  · obtain ⟨v₁, η₁, ⟨x, v, fz, q⟩, I₁, rv, st⟩ := hq
    exact ⟨v, η, q, I.frz I₁ x, fz.rv I₁ x rv, st.frz⟩
  · obtain ⟨e, C, η₁, rfl, ⟨x, q⟩, I₁, st, n, t⟩ := hx
    exact ⟨e, C, η, rfl, q, I.frz I₁ x, st.frz, n, t⟩

-- mutable lists
theorem Ext.set {a : Addr} {o : MObj} (n : η a = Option.none) : Ext η (η.set a o) := fun b o' e => by
  rw [Hp.set_ne]
  · exact e
  · rintro rfl; rw [n] at e; cases e
theorem Ext.trans {η₂ : Hp} (x : Ext η η₁) (y : Ext η₁ η₂) : Ext η η₂ := fun b o e => y b o (x b o e)
end
end Mine

namespace Mine
open PySem PyProof.Rows PySem.W

section
variable {c : Cx} {A : Around} {pr pr' : Pr} {η η' : Hp} {s : Shared} {d : Nat} {hd : Bool} {nm : List (Str × NameKind)} {σ : List (Option V)} {env : Env}
  {Q R : V → Hp → Prop} {X : Addr → Hp → Prop} {v w : V} {x : Str} {pos : Pos} {N : List (Option V) → Hp → Prop} {rest : List Stmt} {h h' : Heap} {a : Addr} {mo : MObj}

theorem MRel.mono2 {o : MObj} (m : Mono pr η h η' pr' h') (ki : ∀ d ks vs, η d = some (.idict ks vs) → ∃ ks vs, η' d = some (.idict ks vs)) (k : ∀ o, (∀ vs, o.data ≠ .fields vs) → h.get? a = some o → h'.get? a = some o) (r : MRel c.P h η pr a o) : MRel c.P h' η' pr' a o := by
  cases o with
  | lst vs => obtain ⟨xs, n, e, z, q⟩ := r; exact ⟨xs, n, k _ (fun _ q => by cases q) e, z, Rvs.mono m vs q⟩
  | inst C dd => obtain ⟨e, ks, vs, q⟩ := r; exact ⟨k _ (fun _ q => by cases q) e, ki dd ks vs q⟩
  | idict ks vs => obtain ⟨xs, es, n, e, en, q⟩ := r; exact ⟨xs, es, n, k _ (fun _ q => by cases q) e, en, Rvs.mono m vs q⟩

/-- a new mutable object -/
theorem Mono.newM (n : h.get? a = none) (k : ∀ b o, h.get? b = some o → h'.get? b = some o) : Mono pr η h (η.set a mo) pr h' := by
  refine ⟨fun b o e _ _ => k b o e, fun b e => ?_, fun b o e n' p => ⟨?_, p⟩⟩
  · by_cases q : b = a
    · subst q; rw [Hp.set_self]; rfl
    · rw [Hp.set_ne _ _ q]; exact e
  · rw [Hp.set_ne]
    · exact n'
    · rintro rfl; rw [n] at e; cases e
theorem Step.newM (n : h.get? a = Option.none) (k : ∀ b o, h.get? b = some o → h'.get? b = some o) : Step A noOwn η h (η.set a mo) h' := by
  refine ⟨fun b o e _ _ => ⟨o.slots, k b o e⟩, fun b o e _ _ _ => k b o e, fun b o e => by rw [k b o e]; rfl, fun b e => ?_, fun b e e' => ?_⟩
  · by_cases q : b = a
    · subst q; rw [Hp.set_self]; rfl
    · rw [Hp.set_ne _ _ q]; exact e
  · by_cases q : b = a
    · subst q; exact n
    · rw [Hp.set_ne _ _ q, e] at e'; cases e'
theorem Inv.fresh_none (I : Inv c η pr A s) (n : s.heap.get? a = none) : η a = none := by
  cases q : η a with
  | none => rfl
  | some o => obtain ⟨b, e, _⟩ := (I.hrel a o q).nofields; rw [n] at e; cases e
theorem Inv.newM {t : Nat} (I : Inv c η pr A s) (n : s.heap.get? a = none) (k : ∀ b o, s.heap.get? b = some o → h'.get? b = some o) (r : MRel c.P h' (η.set a mo) pr a mo) : Inv c (η.set a mo) pr A { s with heap := h', toks := t } := by
  have I' := I.grow k t
  have na := I.fresh_none n
  refine ⟨I'.stays, fun b o e => ?_, fun b e => ?_, fun b p => ?_, I'.frames, I'.frs, I'.os, I'.gens⟩
  · by_cases q : b = a
    · subst q; rw [Hp.set_self] at e; cases e; exact r
    · rw [Hp.set_ne _ _ q] at e
      refine (I.hrel b o e).mono2 (Mono.newM n k) (fun dd ks vs qd => ?_) fun o' _ e => k b o' e
      refine ⟨ks, vs, ?_⟩
      rw [Hp.set_ne]
      · exact qd
      · rintro rfl; rw [na] at qd; cases qd
  · by_cases q : b = a
    · subst q
      cases w : c.base.get? b with
      | none => rfl
      | some o => have := I.stays b o w; rw [n] at this; cases this
    · rw [Hp.set_ne _ _ q] at e; exact I.apart b e
  · obtain ⟨q1, q2, q3⟩ := I'.privs b p
    refine ⟨q1, ?_, q3⟩
    rw [Hp.set_ne]
    · exact q2
    · rintro rfl
      have := (I.privs _ p).1; rw [n] at this; cases this

/-- a mutable object is changed -/
theorem Mono.updM (e : η a = some mo) {mo' : MObj} (k : Heap.SameBut a h h') : Mono pr η h (η.set a mo') pr h' := by
  refine ⟨fun b o e' n _ => ?_, fun b e' => ?_, fun b o e' n p => ⟨?_, p⟩⟩
  · rw [k.2 b (by rintro rfl; rw [e] at n; cases n)]; exact e'
  · by_cases q : b = a
    · subst q; rw [Hp.set_self]; rfl
    · rw [Hp.set_ne _ _ q]; exact e'
  · rw [Hp.set_ne]
    · exact n
    · rintro rfl; rw [e] at n; cases n
theorem Step.updM (e : η a = some mo) {mo' : MObj} (k : Heap.SameBut a h h') (hx : (h'.get? a).isSome = true) : Step A noOwn η h (η.set a mo') h' := by
  have ne : ∀ b, η b = Option.none → b ≠ a := fun b n q => by subst q; rw [e] at n; cases n
  refine ⟨fun b o e' n _ => ⟨o.slots, by rw [k.2 b (ne b n)]; exact e'⟩, fun b o e' n _ _ => by rw [k.2 b (ne b n)]; exact e', fun b o e' => ?_, fun b e' => ?_, fun b n e' => ?_⟩
  · by_cases q : b = a
    · subst q; exact hx
    · rw [k.2 b q, e']; rfl
  · by_cases q : b = a
    · subst q; rw [Hp.set_self]; rfl
    · rw [Hp.set_ne _ _ q]; exact e'
  · rw [Hp.set_ne _ _ (ne b n), n] at e'; cases e'
theorem Inv.updM {t : Nat} (I : Inv c η pr A s) (e : η a = some mo) {mo' : MObj} (hk : ∀ ks vs, mo = .idict ks vs → ∃ ks vs, mo' = .idict ks vs) (k : Heap.SameBut a s.heap h') (r : MRel c.P h' (η.set a mo') pr a mo') :
    Inv c (η.set a mo') pr A { s with heap := h', toks := t } := by
  obtain ⟨fr, ef, ff⟩ := I.frames
  have na : ¬ pr a := fun p => by have := (I.privs a p).2.1; rw [e] at this; cases this
  have ba := I.apart a (by rw [e]; rfl)
  refine ⟨fun b o q => ?_, fun b o q => ?_, fun b q => ?_, fun b p => ?_, ⟨fr, ef, funFrames_but ff k fun _ _ => r.nofields⟩, I.frs, I.os, I.gens⟩
  · rw [k.2 b (by rintro rfl; rw [ba] at q; cases q)]; exact I.stays b o q
  · by_cases z : b = a
    · subst z; rw [Hp.set_self] at q; cases q; exact r
    · rw [Hp.set_ne _ _ z] at q
      refine (I.hrel b o q).mono2 (Mono.updM e k) (fun dd ks vs q => ?_) fun o' _ e' => (k.2 b z).trans e'
      by_cases z : dd = a
      · subst z
        rw [e] at q; cases q
        obtain ⟨ks', vs', w⟩ := hk ks vs rfl
        exact ⟨ks', vs', by rw [Hp.set_self, w]⟩
      · exact ⟨ks, vs, by rw [Hp.set_ne _ _ z]; exact q⟩
  · by_cases z : b = a
    · subst z; exact ba
    · rw [Hp.set_ne _ _ z] at q; exact I.apart b q
  · have z : b ≠ a := by rintro rfl; exact na p
    obtain ⟨q1, q2, q3⟩ := I.privs b p
    exact ⟨by show (h'.get? b).isSome = true; rw [k.2 b z]; exact q1, by rw [Hp.set_ne _ _ z]; exact q2, q3⟩

/-- a list that will be changed -/
theorem SE.lstM {es : List Expr} (p : SL c d hd nm σ η es (fun vs η₁ => vs.length ≤ sizeLine ∧ ∀ a, η₁ a = Option.none → Q (.loc a) (η₁.set a (.lst vs))) X) : SE c d hd nm σ η (.List es pos) Q X :=
  fun A env s pr o I F => wpAny_List (wpAny_mono (p A env s pr pos o I F) (fun xs s₁ ⟨vs, η₁, ⟨hl, q⟩, I₁, r, st⟩ => ⟨by rw [rvs_length r]; exact hl, by
    have fr := fresh_none s₁
    have keep : ∀ b ob, s₁.heap.get? b = some ob → (s₁.heap.push { cls := .type "list", data := .seq xs.toArray }).get? b = some ob := fun b ob e => Heap.get?_push_of_some _ e
    refine ⟨.loc s₁.heap.objs.size, _, q _ (I₁.fresh_none fr), I₁.newM (t := s₁.toks) fr keep ⟨xs, _, Heap.get?_push_size _ rfl, hl, Rvs.mono (Mono.newM fr keep) vs r⟩, ⟨rfl, by rw [Hp.set_self]; rfl⟩, st.trans (Step.newM fr keep)⟩⟩) fun _ _ e => e)
theorem Meth.append {vs : List V} (e : η a = some (.lst vs)) : Meth c (.loc a) η "append" (.builtin "list.append") := fun A s pr y pl QQ E I r q => by
  unfold Rv at r; obtain ⟨rfl, _⟩ := r
  obtain ⟨xs, n, ho, _, _⟩ := I.hrel _ _ e
  exact PySem.Calls.getMethod_list_append ho rfl rfl (q s.toks)
theorem SC.append {vs : List V} (e : η a = some (.lst vs)) (hz : vs.length + 1 ≤ sizeLine) (q : Q .none (η.set a (.lst (vs ++ [v])))) : SC c d hd (.builtin "list.append") [.loc a, v] η Q X := by
  intro A s pr xs o I r
  obtain ⟨y, z, rfl, ry, rz⟩ := rvs2 r
  unfold Rv at ry; obtain ⟨rfl, _⟩ := ry
  obtain ⟨its, n, ho, hl, rs⟩ := I.hrel _ _ e
  have hle := rvs_length rs
  refine wpAny_list_append_plain (l := a) (items := its.toArray) ⟨n, ho⟩ (fun h' pl sb => ?_) (by simp only [List.size_toArray, hle]; omega)
  obtain ⟨n', pl⟩ := pl
  have mD : Mono pr η s.heap (η.set a (.lst (vs ++ [v]))) pr h' := Mono.updM e sb
  have pl' : h'.get? a = some { cls := .type "list", data := .seq (its ++ [z]).toArray n' } := by rw [pl]; simp
  exact ⟨.none, _, q, I.updM (t := s.toks) e (fun _ _ x => by cases x) sb ⟨its ++ [z], n', pl', by simpa using hz, rvs_append (Rvs.mono mD _ rs) ⟨z, [], rfl, Rv.mono mD _ rz, rfl⟩⟩, rfl, Step.updM e sb (by rw [pl]; rfl)⟩
end
end Mine

namespace Mine
open PySem PyProof.Rows PySem.W

section
variable {P : Params}
/-- a name among the entries -/
theorem Ents.find {es : List DictEntry} {ks : List Str} {xs : List Value} (e : Ents P es ks xs) (name : Str) : (∃ (i : Nat) (y : Value) (en : DictEntry), ks[i]? = some name ∧ xs[i]? = some y ∧ es.find? (·.key.isStr name) = some en ∧ en.val = y) ∨ (name ∉ ks ∧ es.find? (·.key.isStr name) = none) := by
  induction e with
  | nil => exact .inr ⟨(fun m => by cases m), rfl⟩
  | @cons k t x es ks xs _ ih =>
    rw [List.find?_cons]
    have key : (Value.str k t).isStr name = decide (k = name) := by
      show _ = _
      rw [PySem.W.isStr_of]
      unfold Value.isStrOf
      by_cases q : k = name
      · subst q; simp
      · simp [q]
    dsimp only
    rw [key]
    by_cases q : k = name
    · subst q
      simp only [decide_true]
      exact .inl ⟨0, x, _, rfl, rfl, rfl, rfl⟩
    · rw [decide_eq_false q]
      dsimp only
      rcases ih with ⟨i, y, en, a, b, c, d⟩ | ⟨a, b⟩
      · exact .inl ⟨i + 1, y, en, a, b, c, d⟩
      · exact .inr ⟨fun m => by
          rcases List.mem_cons.mp m with rfl | m
          · exact q rfl
          · exact a m, b⟩
theorem Ents.noref {es : List DictEntry} {ks : List Str} {xs : List Value} (e : Ents P es ks xs) : es.any (·.refKey) = false := by
  induction e with
  | nil => rfl
  | cons _ ih => rw [List.any_cons, ih]; rfl
theorem Ents.len {es : List DictEntry} {ks : List Str} {xs : List Value} (e : Ents P es ks xs) : es.length = ks.length ∧ xs.length = ks.length := by
  induction e with
  | nil => exact ⟨rfl, rfl⟩
  | cons _ ih => simp [ih.1, ih.2]
theorem Ents.snoc {es : List DictEntry} {ks : List Str} {xs : List Value} (e : Ents P es ks xs) (k : Str) (t : Tok) (x : Value) : Ents P (es ++ [(⟨PyData.keyHash P k, .str k t, x⟩ : DictEntry)]) (ks ++ [k]) (xs ++ [x]) := by
  induction e with
  | nil => exact .cons .nil
  | cons _ ih => exact .cons ih
theorem Ents.put {es : List DictEntry} {ks : List Str} {xs : List Value} (e : Ents P es ks xs) {name : Str} (hn : name ∉ ks) (t : Tok) (v : Value) (n : Nat) :
    Obj.putName name (PyData.keyHash P name) (.str name t) v { cls := .type "dict", data := .dict es.toArray n } = { cls := .type "dict", data := .dict (es ++ [(⟨PyData.keyHash P name, .str name t, v⟩ : DictEntry)]).toArray (n + 1) } := by
  rcases e.find name with ⟨i, y, en, a, _⟩ | ⟨_, b⟩
  · exact absurd (List.mem_of_getElem? a) hn
  · have : es.toArray.findIdx? (·.key.isStr name) = none := by
      rw [List.findIdx?_toArray, List.findIdx?_eq_none_iff]
      intro x hx
      rw [List.find?_eq_none] at b
      simpa using b x hx
    rw [Obj.putName_eq]
    simp only [Obj.putNameByArray, this]
    simp
end

section
variable {c : Cx} {A : Around} {pr : Pr} {η η' : Hp} {s : Shared} {d : Nat} {hd : Bool} {nm : List (Str × NameKind)} {σ : List (Option V)} {env : Env}
  {Q R : V → Hp → Prop} {X : Addr → Hp → Prop} {v w : V} {x name : Str} {pos np ap : Pos} {N : List (Option V) → Hp → Prop} {rest : List Stmt} {K : Params → Frag} {gt bt : List (Str × Value)} {C a dd : Addr} {ks : List Str} {vs : List V}

/-- what is asked of a class of one's own -/
noncomputable def setsIn (K : Frag) (C : Addr) (name : Str) : Bool := findIn K (.ref C) "__setattr__" == some (some (.builtin "object.__setattr__")) && plainOver K C && takerIn K C name == some none && hasDictIn K C
noncomputable def getsIn (K : Frag) (C : Addr) (name : Str) : Bool := plainGet K C name && hasDictIn K C && findIn K (.ref C) name == some none

theorem setAttr_M {y : Value} {QQ : Unit → Shared → Prop} {E : Value → Shared → Prop} (W : Wd c K gt bt) (I : Inv c η pr A s) (ea : η a = some (.inst C dd)) (ed : η dd = some (.idict ks vs)) (hn : name ∉ ks) (rv : Rv c.P s.heap η pr v y)
    (hC : setsIn (K c.P) C name = true) (hz : ks.length ≤ 100)
    (q : ∀ s', Inv c (η.set dd (.idict (ks ++ [name]) (vs ++ [v]))) pr A s' → Step A noOwn η s.heap (η.set dd (.idict (ks ++ [name]) (vs ++ [v]))) s'.heap → QQ () s') : wpAny c.M A (setAttr (.ref a) name y) QQ E s := by
  unfold setsIn at hC
  simp only [Bool.and_eq_true, beq_iff_eq] at hC
  obtain ⟨⟨⟨h1, h2⟩, h3⟩, h4⟩ := hC
  have X := W.kin.keeps I.stays
  obtain ⟨ho, _⟩ := I.hrel a _ ea
  obtain ⟨xs, es, n, hD, en, rs⟩ := I.hrel dd _ ed
  have hD' : s.heap.get? dd = some { cls := .type "dict", data := .dict es.toList.toArray n } := by simpa using hD
  have IA : InstAt s.heap a { cls := .ref C, dict := some dd, data := .plain } C (some { cls := .type "dict", data := .dict es.toList.toArray n }) := ⟨ho, rfl, rfl, hD'⟩
  have ne : a ≠ dd := fun e => by rw [e, ed] at ea; cases ea
  obtain ⟨hh, gg, dw, tk, os⟩ := s
  dsimp only at X ho hD hD' IA rs rv q ⊢
  refine set_plain X IA h1 (osa_open (s := ⟨hh, gg, dw, tk + 1, os⟩) X IA h2 h3 fun b => ?_)
  obtain ⟨cd, hc, hd'⟩ := any_some h4
  refine wpAny_bind (wpAny_pure (wpAny_bind (wpAny_bind (wpAny_loadPart ho (wpAny_bind ((looks_clsIn X hc).at ?_))))))
  rw [hd']
  refine wpAny_pure (a := some dd) (wpAny_bind (wpAny_pure (wpAny_bind ?_)))
  unfold nsSet
  refine wpAny_bind (wpAny_bind (wpAny_askSetting (wpAny_pure (wpAny_bind (wpAny_mkText (wpAny_bind (wpAny_loadPart hD' ?_)))))))
  dsimp only
  have nr : (!es.toList.toArray.any (·.key.isStr name) && es.toList.toArray.any (·.refKey)) = false := by
    rw [← Array.any_toList, ← Array.any_toList]
    simp only [en.noref, Bool.and_false]
  rw [aRefKeyMayBeTheName_at, nr]
  have put := en.put hn (tk + 1) y n
  refine wpAny_updatePart hD' ?_
  have up := Heap.get?_update_self (Obj.putName name (PyData.keyHash c.P name) (.str name (tk + 1)) y) hD' (by rw [put]; rfl)
  rw [put] at up
  have sb : Heap.SameBut dd hh (hh.update dd (Obj.putName name (PyData.keyHash c.P name) (.str name (tk + 1)) y)) := Heap.SameBut.update ..
  refine wpAny_bind (wpAny_lookBehind up ?_ ?_)
  · refine pastItsLine_dict ?_
    have l1 := en.len
    rw [List.size_toArray, sizeLine_eq, List.length_append, List.length_singleton]; omega
  · have m : Mono pr η hh (η.set dd (.idict (ks ++ [name]) (vs ++ [v]))) pr (hh.update dd (Obj.putName name (PyData.keyHash c.P name) (.str name (tk + 1)) y)) := Mono.updM ed sb
    have hx : ((hh.update dd (Obj.putName name (PyData.keyHash c.P name) (.str name (tk + 1)) y)).get? dd).isSome = true := by rw [up]; rfl
    refine wpAny_pure (q _ (Inv.updM (s := ⟨hh, gg, dw, tk, os⟩) (t := tk + 1 + 1) I ed (fun _ _ _ => ⟨_, _, rfl⟩) sb ⟨xs ++ [y], _, n + 1, up, by simpa using en.snoc name (tk + 1) y, rvs_append (Rvs.mono m _ rs) ⟨y, [], rfl, Rv.mono m _ rv, rfl⟩⟩) (Step.updM ed sb hx))

theorem SX.setattr (W : Wd c K gt bt) {e : Expr} (p : SE c d hd nm σ η e (fun v η₁ => SE c d hd nm σ η₁ (.Name x np) (fun w η₂ => ∃ a C dd ks vs, w = .loc a ∧ η₂ a = some (.inst C dd) ∧ η₂ dd = some (.idict ks vs) ∧ name ∉ ks ∧ setsIn (K c.P) C name = true ∧ ks.length ≤ 100 ∧ N σ (η₂.set dd (.idict (ks ++ [name]) (vs ++ [v])))) X) X)
    (hs : ∀ env, swapsWith e (some (.Attribute (.Name x np) name ap)) pos.line env = pure false := by intro _; with_unfolding_all rfl) : SX c d hd nm σ η (.Assign [.Attribute (.Name x np) name ap] e pos) N R X := by
  intro A env s pr outer o I F h1 h2
  refine plainObj_wpAny_Assign_Attribute (wpAny_mono (p A env s pr o I F) (fun y s₁ hq => ?_) fun _ _ e => e.weak fun _ q => q.elim) (hs env)
  obtain ⟨v, η₁, q, I₁, rv, st⟩ := hq
  refine wpAny_mono (q A env s₁ pr o I₁ (F.step I st)) (fun z s₂ hq => ?_) fun _ _ e => (e.older st).weak fun _ q => q.elim
  obtain ⟨w, η₂, ⟨a, C, dd, ks, vs, rfl, ea, ed, hn, hC, hz, k⟩, I₂, rw', st₂⟩ := hq
  unfold Rv at rw'; obtain ⟨rfl, _⟩ := rw'
  refine setAttr_M W I₂ ea ed hn (rv.step I₁ st₂) hC hz fun s₃ I₃ st₃ => ?_
  have all := (st.trans st₂).trans st₃
  exact ⟨σ, _, k, I₃, F.step I all, all.own⟩
theorem SS.setattr (W : Wd c K gt bt) {e : Expr} (p : SE c d hd nm σ η e (fun v η₁ => SE c d hd nm σ η₁ (.Name x np) (fun w η₂ => ∃ a C dd ks vs, w = .loc a ∧ η₂ a = some (.inst C dd) ∧ η₂ dd = some (.idict ks vs) ∧ name ∉ ks ∧ setsIn (K c.P) C name = true ∧ ks.length ≤ 100 ∧ SS c d hd nm σ (η₂.set dd (.idict (ks ++ [name]) (vs ++ [v]))) rest N R X) X) X)
    (hs : ∀ env, swapsWith e (some (.Attribute (.Name x np) name ap)) pos.line env = pure false := by intro _; with_unfolding_all rfl) : SS c d hd nm σ η (.Assign [.Attribute (.Name x np) name ap] e pos :: rest) N R X := SS.cons (SX.setattr W p hs)

-- attributes are read
theorem SE.attr (p : SE c d hd nm σ η (.Name x np) (fun v η₁ => S1 c d hd (fun y => getAttr y name true) v η₁ Q X) X) : SE c d hd nm σ η (.Attribute (.Name x np) name ap) Q X := by
  intro A env s pr o I F
  refine PyProof.Rows.Attribute_name (wpAny_mono (p A env s pr o I F) (fun y s₁ hq => ?_) fun _ _ e => e)
  obtain ⟨v, η₁, q, I₁, rv, st⟩ := hq
  exact wpAny_mono (q A s₁ pr y o I₁ rv) (fun _ _ e => e.older st) fun _ _ e => e.older st
theorem handed_of {P : Params} {h : Heap} {y : Value} (r : Rv P h η pr v y) (hv : ∀ g, v ≠ .glob g) : handedIn y = true := by
  cases v <;> unfold Rv at r
  case none => subst r; rfl
  case bool => subst r; rfl
  case int => obtain ⟨_, rfl⟩ := r; rfl
  case str => obtain ⟨_, rfl⟩ := r; rfl
  case tup => obtain ⟨_, _, _, rfl, _⟩ := r; rfl
  case lst => obtain ⟨_, _, _, rfl, _⟩ := r; rfl
  case dct => obtain ⟨_, _, _, _, rfl, _⟩ := r; rfl
  case loc => obtain ⟨rfl, _⟩ := r; rfl
  case glob g => exact absurd rfl (hv g)
  case exc => obtain ⟨_, _, _, rfl, _⟩ := r; rfl
  case rng => obtain ⟨_, _, _, _, rfl, _⟩ := r; rfl
  case obj => obtain ⟨_, _, _, _, _, rfl, _⟩ := r; rfl
theorem getAttr_M {a dd : Addr} {es : Array DictEntry} {n i : Nat} {xs : List Value} {E : Value → Shared → Prop} {QQ : Value → Shared → Prop} (W : Wd c K gt bt) (I : Inv c η pr A s) (ho : s.heap.get? a = some { cls := .ref C, dict := some dd, data := .plain }) (hD : s.heap.get? dd = some { cls := .type "dict", data := .dict es n })
    (en : Ents c.P es.toList ks xs) (rs : Rvs c.P s.heap η pr vs xs) (hC : getsIn (K c.P) C name = true) (hi : ks[i]? = some name) (hf : ∀ j, j < i → ks[j]? ≠ some name) (hv : vs[i]? = some v) (ng : ∀ g, v ≠ .glob g)
    (q : ∀ y, Rv c.P s.heap η pr v y → QQ y { s with toks := s.toks + 1 }) : wpAny c.M A (getAttr (.ref a) name true) QQ E s := by
  unfold getsIn at hC
  simp only [Bool.and_eq_true, beq_iff_eq] at hC
  obtain ⟨⟨h1, h2⟩, h3⟩ := hC
  have X := W.kin.keeps I.stays
  have IA : InstAt s.heap a { cls := .ref C, dict := some dd, data := .plain } C (some { cls := .type "dict", data := .dict es n }) := ⟨ho, rfl, rfl, hD⟩
  obtain ⟨y, hy, ry⟩ := rvs_get rs hv
  have key : ∀ {es : List DictEntry} {ks : List Str} {xs : List Value} {i : Nat}, Ents c.P es ks xs → ks[i]? = some name → (∀ j, j < i → ks[j]? ≠ some name) → xs[i]? = some y → ∃ e, es.find? (·.key.isStr name) = some e ∧ e.val = y := by
    intro es ks xs i e
    induction e generalizing i with
    | nil => intro h; cases h
    | @cons k t x es ks xs _ ih =>
      intro g1 g2 g3
      rw [List.find?_cons]
      have kk : (Value.str k t).isStr name = decide (k = name) := by
        rw [PySem.W.isStr_of]
        unfold Value.isStrOf
        by_cases q : k = name
        · subst q; simp
        · simp [q]
      dsimp only
      rw [kk]
      cases i with
      | zero =>
        simp only [List.getElem?_cons_zero, Option.some.injEq] at g1 g3
        rw [decide_eq_true g1]
        exact ⟨_, rfl, g3⟩
      | succ i =>
        have ne : k ≠ name := fun q => g2 0 (Nat.succ_pos _) (by rw [List.getElem?_cons_zero, q])
        rw [decide_eq_false ne]
        simp only [List.getElem?_cons_succ] at g1 g3
        exact ih g1 (fun j hj => by have := g2 (j + 1) (by omega); simpa using this) g3
  obtain ⟨e, he, hval⟩ := key en hi hf hy
  have hl : lookIn name { cls := .type "dict", data := .dict es n } = some (some y) := by
    unfold lookIn
    dsimp only
    rw [he, ← hval]
  exact get_value X IA (plainGet_of h1).1 (findObj_own h2 h3 rfl hl) (handed_of ry ng) (q y ry)
theorem S1.attr_loc (W : Wd c K gt bt) (i : Nat) (ea : η a = some (.inst C dd)) (ed : η dd = some (.idict ks vs)) (hC : getsIn (K c.P) C name = true) (hi : ks[i]? = some name) (hf : ∀ j, j < i → ks[j]? ≠ some name) (hv : vs[i]? = some v) (ng : ∀ g, v ≠ .glob g) (q : Q v η) :
    S1 c d hd (fun y => getAttr y name true) (.loc a) η Q X := by
  intro A s pr y o I r
  unfold Rv at r
  obtain ⟨rfl, _⟩ := r
  obtain ⟨ho, _⟩ := I.hrel a _ ea
  obtain ⟨xs, es, n, hD, en, rs⟩ := I.hrel dd _ ed
  exact getAttr_M W I ho hD en rs hC hi hf hv ng fun y ry => Post.tok I _ ry q

-- an instance is made
theorem isFr_eq {A' : Around} (hf : A'.frames = A.frames) (b : Addr) : isFr A' b ↔ isFr A b := by unfold isFr; rw [hf]
theorem Inv.around {A' : Around} (hf : A'.frames = A.frames) (I : Inv c η pr A s) : Inv c η pr A' s := ⟨I.stays, I.hrel, I.apart, I.privs, by rw [hf]; exact I.frames, fun b f => I.frs b ((isFr_eq hf b).mp f), I.os, I.gens⟩
theorem Step.around {A' : Around} {own : Pr} {h h' : Heap} (hf : A'.frames = A.frames) (x : Step A own η h η' h') : Step A' own η h η' h' := ⟨x.upto, fun b o e n w f => x.same b o e n w fun q => f ((isFr_eq hf b).mpr q), x.there, x.dom, x.new⟩
theorem Thr.around {A' : Around} {h₀ h : Heap} {e C : Addr} (hf : A'.frames = A.frames) (x : Thr A h₀ h e C) : Thr A' h₀ h e C := by
  rcases x with x | ⟨a0, fl, x, z⟩
  · exact .inl x
  · exact .inr ⟨a0, fl, x, z.imp id fun ⟨env, outer, L, q, r⟩ => ⟨env, outer, L, hf.trans q, r⟩⟩
theorem under_frames (A : Around) (C : Addr) (args : List Value) : (A.under (.builtin "type.__call__" ⟨.ref C :: args, []⟩)).frames = A.frames := by
  show pushEnvs [] A.frames = A.frames
  cases A.frames <;> rfl
theorem under_guards (A : Around) (C : Addr) (args : List Value) : (A.under (.builtin "type.__call__" ⟨.ref C :: args, []⟩)).guards = A.guards := by
  show pushGuards [] A.guards = A.guards
  cases A.guards <;> rfl
theorem Ok.make {args : List Value} (o : Ok (d + 1) hd A) : Ok0 d hd (A.under (.builtin "type.__call__" ⟨.ref C :: args, []⟩)) :=
  ⟨by have := o.depth; show A.depth + 1 + d ≤ _; omega, by have := o.units; show A.units + 1 + 10 * d + 100 ≤ _; omega, o.handled, (under_guards A C args).trans o.guards⟩
theorem SC.make (W : Wd c K gt bt) {fI : Addr} (hm : makesIn (K c.P) C = true) (hi : findIn (K c.P) (.ref C) "__init__" = some (some (.ref fI))) (hfn : typeIn (K c.P) (.ref fI) = some (.type "function"))
    (p : ∀ a dd, η a = Option.none → η dd = Option.none → a ≠ dd → SCc c d hd (.ref fI) (.loc a :: vs) ((η.set dd (.idict [] [])).set a (.inst C dd)) (fun v η₁ => v = .none ∧ Q (.loc a) η₁) X) : SC c (d + 1) hd (.ref C) vs η Q X := by
  intro A s pr xs o I r
  have X' := W.kin.keeps I.stays
  have fr := fresh_none s
  obtain ⟨hh, gg, dw, tk, os⟩ := s
  dsimp only at X' fr r ⊢
  refine wpAny_call (make_core (makes_of X' hm) (looks_findIn X' hi) (fun self => bind_fn X' self hfn) (.inl rfl) ?_)
  have hf := under_frames A C xs
  have n1 := I.fresh_none fr
  have k1 : ∀ b o, hh.get? b = some o → (hh.push emptyDict).get? b = some o := fun b o e => Heap.get?_push_of_some _ e
  have I1 : Inv c (η.set hh.objs.size (.idict [] [])) pr A ⟨hh.push emptyDict, gg, dw, tk, os⟩ := Inv.newM (s := ⟨hh, gg, dw, tk, os⟩) (t := tk) I fr k1 ⟨[], #[], _, Heap.get?_push_size _ rfl, .nil, rfl⟩
  have sz : (hh.push emptyDict).objs.size = hh.objs.size + 1 := Heap.size_push ..
  have fr2 : (hh.push emptyDict).get? (hh.objs.size + 1) = Option.none := by rw [← sz]; exact fresh_none ⟨hh.push emptyDict, gg, dw, tk, os⟩
  have k2 : ∀ b o, (hh.push emptyDict).get? b = some o → ((hh.push emptyDict).push (instObj C hh.objs.size)).get? b = some o := fun b o e => Heap.get?_push_of_some _ e
  have ne : hh.objs.size + 1 ≠ hh.objs.size := by omega
  have I2 : Inv c ((η.set hh.objs.size (.idict [] [])).set (hh.objs.size + 1) (.inst C hh.objs.size)) pr A ⟨(hh.push emptyDict).push (instObj C hh.objs.size), gg, dw, tk, os⟩ :=
    Inv.newM (s := ⟨hh.push emptyDict, gg, dw, tk, os⟩) (t := tk) I1 fr2 k2 ⟨by rw [← sz]; exact Heap.get?_push_size _ rfl, [], [], by rw [Hp.set_ne _ _ (Ne.symm ne), Hp.set_self]⟩
  have frA : hh.get? (hh.objs.size + 1) = Option.none := by
    cases q : hh.get? (hh.objs.size + 1) with
    | none => rfl
    | some ob => exact absurd (Nat.lt_of_succ_lt (Heap.lt_size q)) (Nat.lt_irrefl _)
  have nA := I.fresh_none frA
  have m : Mono pr η hh ((η.set hh.objs.size (.idict [] [])).set (hh.objs.size + 1) (.inst C hh.objs.size)) pr ((hh.push emptyDict).push (instObj C hh.objs.size)) := by
    refine ⟨fun b ob e _ _ => k2 b ob (k1 b ob e), fun b e => ?_, fun b ob e n pp => ⟨?_, pp⟩⟩
    · have b1 : b ≠ hh.objs.size + 1 := by rintro rfl; rw [nA] at e; cases e
      have b2 : b ≠ hh.objs.size := by rintro rfl; rw [n1] at e; cases e
      rw [Hp.set_ne _ _ b1, Hp.set_ne _ _ b2]; exact e
    · have l := Heap.lt_size e
      rw [Hp.set_ne _ _ (Nat.ne_of_lt (Nat.lt_succ_of_lt l)), Hp.set_ne _ _ (Nat.ne_of_lt l)]; exact n
  have st0 : Step A noOwn η hh ((η.set hh.objs.size (.idict [] [])).set (hh.objs.size + 1) (.inst C hh.objs.size)) ((hh.push emptyDict).push (instObj C hh.objs.size)) := (Step.newM fr k1).trans (Step.newM fr2 k2)
  refine codeAny_mono (p (hh.objs.size + 1) hh.objs.size nA n1 ne _ _ pr (.ref (hh.objs.size + 1) :: xs) o.make (I2.around hf) ⟨_, _, rfl, ⟨rfl, by rw [Hp.set_self]; rfl⟩, Rvs.mono m _ r⟩) fun res s' z => ?_
  cases res with
  | error e =>
    obtain ⟨ea, C', η', rfl, xx, I', st, nw, th⟩ := z
    refine ⟨ea, C', η', rfl, xx, I'.around hf.symm, st0.trans (st.around hf.symm), ?_, (Thr.older st0.there th).around hf.symm⟩
    cases q : hh.get? ea with
    | none => rfl
    | some ob => have := st0.there ea ob q; rw [nw] at this; cases this
  | ok f =>
    cases f with
    | ret v =>
      obtain ⟨w, η', ⟨rfl, q⟩, I', rv, st⟩ := z
      unfold Rv at rv
      exact ⟨rv, .loc (hh.objs.size + 1), η', q, I'.around hf.symm, ⟨rfl, st.dom _ (by rw [Hp.set_self]; rfl)⟩, st0.trans (st.around hf.symm)⟩
    | _ => exact z
end
end Mine

namespace Mine
open PySem PyProof.Rows PySem.W

section
variable {c : Cx} {A : Around} {pr pr' : Pr} {η η' : Hp} {s : Shared} {d : Nat} {hd : Bool} {nm : List (Str × NameKind)} {σ : List (Option V)} {env : Env}
  {Q R : V → Hp → Prop} {X : Addr → Hp → Prop} {v w : V} {x : Str} {pos fp : Pos} {N : List (Option V) → Hp → Prop} {rest : List Stmt} {h h' : Heap} {a : Addr} {mo : MObj} {K : Params → Frag} {gt bt : List (Str × Value)}

-- sum, all, list
theorem SC.all {bs : List Bool} (q : Q (.bool (bs.all id)) η) : SC c d true (.builtin "all") [.lst (bs.map V.bool)] η Q X := by
  intro A s pr xs o I r
  obtain ⟨y, rfl, ry⟩ := rvs1 r
  unfold Rv at ry
  obtain ⟨b, its, n, rfl, ho, _, _, rs⟩ := ry
  refine call_all_walk ?_
  refine wpAny_pyIter_list (A := A.in1) ⟨_, ho, rfl, _, rfl⟩ ?_
  have keep : ∀ b ob, s.heap.get? b = some ob → (s.heap.push { cls := .type "list_iterator", data := .fields #[.ref b, .int 0 0] }).get? b = some ob := fun b ob e => Heap.get?_push_of_some _ e
  refine ⟨_, _, _, _, _, _, fun i => bs.getD i true, rfl, Walks.list (A := A.in1) (o.handled rfl) s.heap.objs.size b (fresh_ne ho) its.toArray, ⟨⟨_, Heap.get?_push_size _ rfl, rfl, rfl⟩, _, Heap.get?_push_of_some _ ho, rfl, _, rfl⟩, ?_, fun h' tk k => ?_⟩
  · intro i z s' QQ E hp hq
    simp only [List.getElem?_toArray] at hp
    have hl := rvs_length rs
    have hi : i < bs.length := by
      have := (List.getElem?_eq_some_iff.mp hp).1
      simpa [hl] using this
    obtain ⟨z', hz', rz⟩ := rvs_get rs (k := i) (u := .bool bs[i]) (by simp [hi])
    rw [hz'] at hp; cases hp
    unfold Rv at rz; subst rz
    have e : bs.getD i true = bs[i] := by simp [hi]
    dsimp only at hq
    rw [e] at hq
    exact wpAny_truthy_bool hq
  · have hl := rvs_length rs
    have e : ((List.range its.toArray.size).all fun i => bs.getD i true) = bs.all id := by
      have : its.toArray.size = bs.length := by simpa using hl
      rw [this, Bool.eq_iff_iff, List.all_eq_true, List.all_eq_true]
      constructor
      · intro g b m
        obtain ⟨i, hi, rfl⟩ := List.getElem_of_mem m
        have := g i (List.mem_range.mpr hi)
        simpa [hi] using this
      · intro g i m
        have hi := List.mem_range.mp m
        have := g bs[i] (List.getElem_mem hi)
        simpa [hi] using this
    rw [e]
    refine Post.pure (v := .bool (bs.all id)) I (fun b' ob e => k b' ob (fun m => ?_) (Heap.get?_push_of_some _ e)) rfl q
    simp only [List.mem_cons, List.not_mem_nil, or_false] at m
    exact fresh_ne e m
theorem SC.listOf {vs : List V} (q : Q (.lst vs) η) : SC c d hd (.type "list") [.lst vs] η Q X := by
  intro A s pr xs o I r
  obtain ⟨y, rfl, ry⟩ := rvs1 r
  unfold Rv at ry
  obtain ⟨b, its, n, rfl, ho, _, hz, rs⟩ := ry
  refine call_list_seq b (.inl rfl) ho rfl rfl (fun h' c' k g => ?_) (by simpa [rvs_length rs] using hz)
  refine Post.pure (t := s.toks) (v := .lst vs) I k ?_ q
  unfold Rv
  exact ⟨_, its, c', rfl, g, Rvs.fresh (vs := vs) (xs := its) I, hz, Rvs.mono (Mono.of_keeps k) vs rs⟩
/-- a copy that will be changed -/
theorem SC.listM {vs : List V} (q : ∀ a, η a = Option.none → Q (.loc a) (η.set a (.lst vs))) : SC c d hd (.type "list") [.lst vs] η Q X := by
  intro A s pr xs o I r
  obtain ⟨y, rfl, ry⟩ := rvs1 r
  unfold Rv at ry
  obtain ⟨b, its, n, rfl, ho, _, hz, rs⟩ := ry
  refine call_list_seq b (.inl rfl) ho rfl rfl (fun h' c' k g => ?_) (by simpa [rvs_length rs] using hz)
  have fr := fresh_none s
  refine ⟨.loc s.heap.objs.size, _, q _ (I.fresh_none fr), I.newM (t := s.toks) fr k ⟨its, c', g, hz, Rvs.mono (Mono.newM fr k) vs rs⟩, ⟨rfl, by rw [Hp.set_self]; rfl⟩, Step.newM fr k⟩
/-- a class of one's own is called -/
theorem SE.ccall (W : Wd c K gt bt) {f : Str} {es : List Expr} {C : Addr} (m : (f, NameKind.globalImplicit) ∈ nm) (mg : (f, .ref C) ∈ gt) (hk : keepIn (K c.P) (.ref C) = true)
    (p : SL c d hd nm σ η es (fun vs η₁ => SC c d hd (.ref C) vs η₁ Q X) X) (hs : es.any star? = false := by with_unfolding_all rfl) (hn : (f == ("__debug__" : Str)) = false := by decide +kernel) : SE c d hd nm σ η (.Call (.Name f fp) es [] pos) Q X := by
  intro A env s pr o I F
  refine wpAny_Call_ofName (wpAny_mono (SE.glob (Q := fun v η' => v = .glob (.ref C) ∧ η' = η) (X := X) m (W.g mg) ⟨rfl, rfl⟩ hn A env s pr o I F) (fun x s₁ hq => ?_) fun _ _ e => e)
  obtain ⟨v, η₁, ⟨rfl, e⟩, I₁, rv, st⟩ := hq
  subst e
  unfold Rv at rv; subst rv
  refine callWith_of (P := (K c.P).In) (by rw [noStar hs]; rfl) (keeps_K hk) (evalArgs_SL p o I₁ (F.step I st) hs (fun vs η₂ s₂ xs q I₂ r st₂ => ⟨W.kin.keeps I₂.stays, ?_⟩) fun _ _ e => e.older st)
  exact wpAny_mono (q A s₂ pr xs o I₂ r) (fun _ _ e => e.older (st.trans st₂)) fun _ _ e => e.older (st.trans st₂)

/-- a global that names a tuple of two numbers -/
theorem SE.gpair (W : Wd c K gt bt) {i j : Int} {t u : Tok} {n : Nat} (m : (x, NameKind.globalImplicit) ∈ nm) (mg : (x, .ref a) ∈ gt) (hk : (K c.P).lookup a = some { cls := .type "tuple", data := .seq #[.int i t, .int j u] n })
    (q : Q (.tup [.int i, .int j]) η) (hn : (x == ("__debug__" : Str)) = false := by decide +kernel) : SE c d hd nm σ η (.Name x pos) Q X := by
  intro A env s pr o I F
  refine wpAny_mono (SE.glob (Q := fun v η' => v = .glob (.ref a) ∧ η' = η) (X := X) m (W.g mg) ⟨rfl, rfl⟩ hn A env s pr o I F) (fun y s₁ hq => ?_) fun _ _ e => e
  obtain ⟨v, η₁, ⟨rfl, e⟩, I₁, rv, st⟩ := hq
  subst e
  unfold Rv at rv; subst rv
  have hb := W.kin _ _ hk
  have na : η₁ a = Option.none := by
    cases q : η₁ a with
    | none => rfl
    | some o => have := I₁.apart a (by rw [q]; rfl); rw [hb] at this; cases this
  have np : ¬ pr a := fun p => by have := (I₁.privs a p).2.2; rw [hb] at this; cases this
  refine ⟨.tup [.int i, .int j], η₁, q, I₁, ?_, st⟩
  unfold Rv
  exact ⟨a, [.int i t, .int j u], n, rfl, by simpa using I₁.stays _ _ hb, ⟨na, np⟩, len_ok (by rfl), ⟨_, _, rfl, ⟨_, rfl⟩, _, _, rfl, ⟨_, rfl⟩, rfl⟩⟩

-- new mutable objects of a block are left alone behind it
inductive FrzF (η η₁ : Hp) : List (Option V) → List (Option V) → Prop
  | nil : FrzF η η₁ [] []
  | none {o σ₁ σ'} : FrzF η η₁ σ₁ σ' → FrzF η η₁ (o :: σ₁) (none :: σ')
  | some {v₁ v σ₁ σ'} : Frz η η₁ v₁ v → FrzF η η₁ σ₁ σ' → FrzF η η₁ (some v₁ :: σ₁) (some v :: σ')
theorem FrzF.at {η η₁ : Hp} {σ₁ σ' : List (Option V)} (f : FrzF η η₁ σ₁ σ') {nm : List (Str × NameKind)} {x : Str} {k : NameKind} {v : V} (a : At nm σ' x k v) : ∃ v₁, At nm σ₁ x k v₁ ∧ Frz η η₁ v₁ v := by
  induction f generalizing nm with
  | nil => cases a
  | none _ ih => cases a with | tail a => obtain ⟨v₁, p, q⟩ := ih a; exact ⟨v₁, .tail p, q⟩
  | some g _ ih =>
    cases a with
    | head => exact ⟨_, .head, g⟩
    | tail a => obtain ⟨v₁, p, q⟩ := ih a; exact ⟨v₁, .tail p, q⟩
theorem SS.frz {b : List Stmt} (p : SS c d hd nm σ η b (fun σ₁ η₁ => Ext η η₁ ∧ ∃ σ', FrzF η η₁ σ₁ σ' ∧ N σ' η) (fun v₁ η₁ => Ext η η₁ ∧ ∃ v, Frz η η₁ v₁ v ∧ R v η) (fun C η₁ => Ext η η₁ ∧ X C η)) : SS c d hd nm σ η b N R X := by
  intro A env s pr outer o I F h1 h2
  refine wpAny_mono (p A env s pr outer o I F h1 h2) (fun f s' hq => ?_) fun y s' hx => ?_
  · cases f with
    | next =>
      obtain ⟨σ₁, η₁, ⟨x, σ', ff, q⟩, I₁, F₁, st⟩ := hq
      refine ⟨σ', η, q, I.frz I₁ x, ⟨F₁.kind, F₁.names, F₁.nodup, F₁.globals, F₁.builtins, F₁.ns, F₁.nsp, F₁.cells, F₁.inj, F₁.has, fun y k v a => ?_⟩, st.frz⟩
      obtain ⟨v₁, a₁, g⟩ := ff.at a
      obtain ⟨val, q1, q2⟩ := F₁.vars y k v₁ a₁
      exact ⟨val, q1, g.rv I₁ x q2⟩
    | ret r =>
      obtain ⟨v₁, η₁, ⟨x, v, fz, q⟩, I₁, rv, st⟩ := hq
      exact ⟨v, η, q, I.frz I₁ x, fz.rv I₁ x rv, st.frz⟩
    | brk => exact hq
    | cont => exact hq
  · obtain ⟨e, C, η₁, rfl, ⟨x, q⟩, I₁, st, n, t⟩ := hx
    exact ⟨e, C, η, rfl, q, I.frz I₁ x, st.frz, n, t⟩

/-- a loop that gathers, the mutable objects too -/
theorem ForL.foldH {α : Type} {t : Expr} {xs : List Str} {body : List Stmt} (T : α → List (Option V)) (H : α → Hp) (P : α → List V → Prop) {vs : List V} (a : α) (h0 : P a vs)
    (hb : ∀ a v vs', P a (v :: vs') → SA c d nm (T a) (H a) t xs v fun τ => SS c d true nm τ (H a) body (fun τ' η' => ∃ a', P a' vs' ∧ Less (T a') τ' ∧ η' = H a') R X)
    (hN : ∀ a σ', P a [] → Less (T a) σ' → N σ' (H a)) {σ : List (Option V)} (l : Less (T a) σ) : ForL c d nm t xs body N R X vs σ (H a) := by
  induction vs generalizing σ a with
  | nil => unfold ForL; exact hN a σ h0 l
  | cons v vs ih =>
    unfold ForL
    refine SA.forget l ((hb a v vs h0).mono fun τ p => p.mono (fun τ' η' q => ?_) (fun _ _ q => q) fun _ _ q => q)
    obtain ⟨a', p', l', rfl⟩ := q
    exact ih a' p' l'

/-- a private list becomes a mutable one -/
theorem Mono.thaw (n : η a = Option.none) : Mono (fun b => pr b ∨ b = a) η h (η.set a mo) pr h := by
  refine ⟨fun b o e _ _ => e, fun b e => ?_, fun b o e n' p => ⟨?_, fun q => p (.inl q)⟩⟩
  · by_cases q : b = a
    · subst q; rw [Hp.set_self]; rfl
    · rw [Hp.set_ne _ _ q]; exact e
  · rw [Hp.set_ne _ _ fun q => p (.inr q)]; exact n'
theorem Inv.thaw {vs : List V} {its : List Value} {n : Nat} (I : Inv c η (fun b => pr b ∨ b = a) A s) (na : η a = Option.none) (np : ¬ pr a) (nb : c.base.get? a = Option.none) (g : s.heap.get? a = some { cls := .type "list", data := .seq its.toArray n }) (hz : vs.length ≤ sizeLine) (rs : Rvs c.P s.heap η (fun b => pr b ∨ b = a) vs its)
    (f : ∀ b, isFr A b → pr b) : Inv c (η.set a (.lst vs)) pr A s := by
  have m : Mono (fun b => pr b ∨ b = a) η s.heap (η.set a (.lst vs)) pr s.heap := Mono.thaw na
  refine ⟨I.stays, fun b o e => ?_, fun b e => ?_, fun b p => ?_, I.frames, f, I.os, I.gens⟩
  · by_cases q : b = a
    · subst q; rw [Hp.set_self] at e; cases e; exact ⟨its, n, g, hz, Rvs.mono m _ rs⟩
    · rw [Hp.set_ne _ _ q] at e
      refine (I.hrel b o e).mono2 m (fun dd ks vs qd => ⟨ks, vs, ?_⟩) fun o' _ e => e
      rw [Hp.set_ne]
      · exact qd
      · rintro rfl; rw [na] at qd; cases qd
  · by_cases q : b = a
    · subst q; exact nb
    · rw [Hp.set_ne _ _ q] at e; exact I.apart b e
  · obtain ⟨q1, q2, q3⟩ := I.privs b (.inl p)
    refine ⟨q1, ?_, q3⟩
    rw [Hp.set_ne]
    · exact q2
    · rintro rfl; exact np p
theorem Step.thaw {own : Pr} (st : Step A own η h η' h') (n : h.get? a = Option.none) : Step A own η h (η'.set a mo) h' := by
  refine ⟨st.upto, st.same, st.there, fun b e => ?_, fun b e e' => ?_⟩
  · by_cases q : b = a
    · subst q; rw [Hp.set_self]; rfl
    · rw [Hp.set_ne _ _ q]; exact st.dom b e
  · by_cases q : b = a
    · subst q; exact n
    · rw [Hp.set_ne _ _ q] at e'; exact st.new b e e'
section
variable {scope : Scope} {nmC : List (Str × NameKind)} {τ : List (Option V)} {iter elt t : Expr}
end
/-- a list that is changed elsewhere is iterated -/
theorem SJ.loc {t it : Expr} {KK : (Hp → Prop) → List V → Hp → Prop} (p : SE c d true nm σ η it (fun v η₁ => ∃ b vs, v = .loc b ∧ η₁ b = some (.lst vs) ∧ KK (fun η => η b = some (.lst vs)) vs η₁) X) : SJ c d nm σ η it t KK X := by
  intro A env s pr QQ E o I F hE hQ
  refine wpAny_mono (p A env s pr o I F) (fun y s₁ hq => ?_) fun r s' e => hE r s' e
  obtain ⟨v, η₁, ⟨b, vs, rfl, eb, k⟩, I₁, rv, st⟩ := hq
  unfold Rv at rv; obtain ⟨rfl, _⟩ := rv
  obtain ⟨xs, n, ho, z, rs⟩ := I₁.hrel _ _ eb
  refine wpAny_pyIter_list ⟨_, ho, rfl, _, rfl⟩ ?_
  have keep : ∀ b' ob, s₁.heap.get? b' = some ob → (s₁.heap.push { cls := .type "list_iterator", data := .fields #[.ref b, .int 0 0] }).get? b' = some ob := fun b' ob e => Heap.get?_push_of_some _ e
  have ne : b ≠ s₁.heap.objs.size := fresh_ne ho
  refine hQ _ vs η₁ s₁ _ s₁.toks (fun b => b = s₁.heap.objs.size) s₁.heap.objs.size (fun i h η pr => h.IsListIter s₁.heap.objs.size b i) k I₁ st ?_ (fun b e => by cases e; exact fresh_none s₁) (fresh_frame I₁) keep ⟨_, Heap.get?_push_size _ rfl, rfl, rfl⟩
  generalize s₁.heap.objs.size = I₀ at ne
  refine ⟨rfl, fun {i h η pr h' η' pr'} st m kj => st.at fun ob e => kj _ rfl ob e, fun {i h η pr b'} st e => by cases e; obtain ⟨ob, e, _⟩ := st; exact ⟨ob, e⟩, ?_, ?_, ?_⟩
  · intro i s η pr v QQ E hJ I g hv st hQ
    obtain ⟨xs, n, ho, z, rs⟩ := I.hrel _ _ g
    have W := Walks.list (prog := c.prog) (w := c.w) (A := A) (o.handled rfl) I₀ b ne xs.toArray
    have hi : i < xs.toArray.size := by
      have := (List.getElem?_eq_some_iff.mp hv).1
      simpa [rvs_length rs] using this
    refine W.item i s _ E hi ⟨st, _, ho, rfl, _, rfl⟩ fun y h' tk hp st' kk => ?_
    obtain ⟨⟨ob, e1, e2, e3⟩, _⟩ := id st'
    refine letgo_none e1 e2 e3 (by decide +kernel) ?_
    have hk : ∀ b ob, ¬ b = I₀ → s.heap.get? b = some ob → h'.get? b = some ob := fun b ob nb e => kk b ob (by simpa using nb) e
    have m : Mono pr η s.heap η pr h' := ⟨fun b ob e _ p => hk b ob (fun q => p (hJ b q)) e, fun _ e => e, fun b _ _ n p => ⟨n, p⟩⟩
    obtain ⟨y', hy, ry⟩ := rvs_get rs hv
    simp only [List.getElem?_toArray] at hp; rw [hy] at hp; cases hp
    exact hQ h' tk y st'.1 hk (Rv.mono m _ ry)
  · intro s η pr QQ E I g st hQ
    obtain ⟨xs, n, ho, z, rs⟩ := I.hrel _ _ g
    have W := Walks.list (prog := c.prog) (w := c.w) (A := A) (o.handled rfl) I₀ b ne xs.toArray
    have hl : vs.length = xs.toArray.size := by simp [rvs_length rs]
    exact W.done s QQ E ⟨hl ▸ st, _, ho, rfl, _, rfl⟩ fun h' tk kk => hQ h' tk fun b ob nb e => kk b ob (by simpa using nb) e
  · intro i s η pr QQ E st q
    exact wpAny_pyIter_listiter st q

-- zip
theorem SA.tup2 {x y : Str} {px py tp : Pos} {k : Nat} {σ₁ σ₂ : List (Option V)} {KK : List (Option V) → Prop} (p1 : Put nm σ x v σ₁) (p2 : Put nm σ₁ y w σ₂) (q : KK σ₂) : SA c d nm σ η (.Tuple [.Name x px, .Name y py] k tp) [x, y] (.tup [v, w]) KK := by
  intro A env s pr z QQ E o I F r hq
  rw [arm_assign_Tuple]
  refine wpAny_bind (wpAny_standAt ?_)
  unfold unpack
  refine wpAny_bind (wpAny_holding ?_)
  refine unpack_tup o I r rfl fun s₄ xs I₄ rs₄ st₄ _ fr => ?_
  obtain ⟨a', xs', rfl, ra, b', _, rfl, rb, rfl⟩ := rs₄
  have F₄ := fr nm env σ F
  show wpAny c.M A (assignInOrder [assign (.Name x px) env, assign (.Name y py) env] [a', b']) _ _ s₄
  refine wpAny_assignInOrder_more (wpAny_assign_Name (store_var I₄ F₄ p1 ra fun s₅ I₅ F₅ st₅ mv => ?_))
  refine wpAny_assignInOrder_more (wpAny_assign_Name (store_var I₅ F₅ p2 (mv _ _ rb) fun s₆ I₆ F₆ st₆ _ => wpAny_assignInOrder_none ?_))
  refine hq _ σ₂ q I₆ F₆ ((st₄.weak fun _ q => q.elim).trans ((st₅.weak fun b q => ?_).trans (st₆.weak fun b q => ?_)))
  · rcases q with q | ⟨z, m, e⟩
    · exact .inl q
    · refine .inr ⟨z, ?_, e⟩
      simp at m; subst m; exact .head _
  · rcases q with q | ⟨z, m, e⟩
    · exact .inl q
    · refine .inr ⟨z, ?_, e⟩
      simp at m; subst m; exact .tail _ (.head _)

noncomputable def zipV : List V → List V → List V
  | v :: vs, w :: ws => .tup [v, w] :: zipV vs ws
  | _, _ => []
theorem zipV_len : ∀ (vs ws : List V), (zipV vs ws).length = min vs.length ws.length
  | [], _ => by simp [zipV]
  | _ :: _, [] => by simp [zipV]
  | v :: vs, w :: ws => by simp [zipV, zipV_len vs ws]
theorem zipV_get : ∀ {vs ws : List V} {i : Nat} {u : V}, (zipV vs ws)[i]? = some u → ∃ v w, vs[i]? = some v ∧ ws[i]? = some w ∧ u = .tup [v, w]
  | [], _, _, _, e => by simp [zipV] at e
  | _ :: _, [], _, _, e => by simp [zipV] at e
  | v :: vs, w :: ws, 0, u, e => by simp [zipV] at e; exact ⟨v, w, rfl, rfl, e.symm⟩
  | v :: vs, w :: ws, i + 1, u, e => by
    simp only [zipV, List.getElem?_cons_succ] at e
    simpa using zipV_get e

theorem itr_zip {z TI TO i1 i2 l1 l2 : Addr} {xs ys : List Value} {n1 n2 : Nat} {vs ws : List V} {elts : List Expr} {k : Nat} {tp : Pos} (hh : A.handled = Option.none) (D : ZipApart z TI TO i1 i2 l1 l2) :
    Itr c A (fun b => b = z ∨ b = TI ∨ b = TO ∨ b = i1 ∨ b = i2) z (.Tuple elts k tp) (zipV vs ws) (fun i h η pr =>
      (IsZip h z TI TO .none ∧ IsPair h TI (.ref i1) (.ref i2) ∧ (∃ a b, IsPair h TO a b) ∧ h.IsListIter i1 l1 i ∧ h.IsListIter i2 l2 i) ∧
      (h.get? l1 = some { cls := .type "list", data := .seq xs.toArray n1 } ∧ (η l1 = Option.none ∧ ¬ pr l1) ∧ Rvs c.P h η pr vs xs) ∧
      (h.get? l2 = some { cls := .type "list", data := .seq ys.toArray n2 } ∧ (η l2 = Option.none ∧ ¬ pr l2) ∧ Rvs c.P h η pr ws ys)) (fun _ => True) where
  inJ := .inl rfl
  move := fun {i h η pr h' η' pr'} st m kj => by
    obtain ⟨⟨hz, hTI, ⟨a, b, hTO⟩, h1, h2⟩, ⟨g1, ⟨e1, p1⟩, r1⟩, g2, ⟨e2, p2⟩, r2⟩ := st
    exact ⟨⟨kj _ (.inl rfl) _ hz, kj _ (.inr (.inl rfl)) _ hTI, ⟨a, b, kj _ (.inr (.inr (.inl rfl))) _ hTO⟩, h1.at fun o e => kj _ (.inr (.inr (.inr (.inl rfl)))) o e, h2.at fun o e => kj _ (.inr (.inr (.inr (.inr rfl)))) o e⟩,
      ⟨m.same _ _ g1 e1 p1, m.new _ _ g1 e1 p1, Rvs.mono m _ r1⟩, m.same _ _ g2 e2 p2, m.new _ _ g2 e2 p2, Rvs.mono m _ r2⟩
  nofr := fun {i h η pr b} st e => by
    obtain ⟨⟨hz, hTI, ⟨a, b, hTO⟩, ⟨o1, h1, _⟩, ⟨o2, h2, _⟩⟩, _⟩ := st
    rcases e with rfl | rfl | rfl | rfl | rfl
    · exact ⟨_, hz⟩
    · exact ⟨_, hTI⟩
    · exact ⟨_, hTO⟩
    · exact ⟨_, h1⟩
    · exact ⟨_, h2⟩
  item := fun {i s η pr v QQ E} hJ II _ hv st hQ => by
    have hex := II.there
    obtain ⟨⟨hz, hTI, ⟨a, b, hTO⟩, h1, h2⟩, ⟨g1, ⟨e1, p1⟩, r1⟩, g2, ⟨e2, p2⟩, r2⟩ := st
    obtain ⟨u, w, hu, hw, rfl⟩ := zipV_get hv
    obtain ⟨x, hx, rx⟩ := rvs_get r1 hu
    obtain ⟨y, hy, ry⟩ := rvs_get r2 hw
    refine wpAny_pyNext_zip_item D hz hTI hTO h1 h2 ⟨_, g1, rfl, _, rfl⟩ ⟨_, g2, rfl, _, rfl⟩ (x := x) (y := y) (by simpa using hx) (by simpa using hy) fun h' a1 a2 a3 a4 a5 a6 hk => ?_
    refine wpAny_letOwnedTupleGo_zip a1 fun h'' hz'' hs'' => ?_
    have kk : ∀ b o, ¬ (b = z ∨ b = TI ∨ b = TO ∨ b = i1 ∨ b = i2) → s.heap.get? b = some o → h''.get? b = some o := fun b o nb e =>
      hs''.extBut _ _ (fun q => nb (.inl q)) (hk b o (fun q => nb (.inl q)) (fun q => nb (.inr (.inr (.inl q)))) (fun q => nb (.inr (.inr (.inr (.inl q))))) (fun q => nb (.inr (.inr (.inr (.inr q))))) e)
    have m : Mono pr η s.heap η pr h'' := ⟨fun b ob e _ p => kk b ob (fun q => p (hJ b q)) e, fun _ e => e, fun b _ _ n p => ⟨n, p⟩⟩
    have lt : ∀ {c o}, s.heap.get? c = some o → s.heap.objs.size ≠ c := fun e => Nat.ne_of_gt (Heap.lt_size e)
    have fr : s.heap.get? s.heap.objs.size = Option.none := fresh_none s
    have gT : h''.get? s.heap.objs.size = some { cls := .type "tuple", data := .seq #[x, y] } := hs''.extBut _ _ (lt hz) a5
    have hTI' : IsPair h' TI (.ref i1) (.ref i2) := hk _ _ D.TIz D.TITO D.TIi1 D.TIi2 hTI
    refine hQ h'' s.toks (.ref s.heap.objs.size) ⟨⟨hz'', hs''.extBut _ _ D.TIz hTI', ⟨_, _, hs''.extBut _ _ D.TOz a2⟩, a3.extBut hs''.extBut D.i1z, a4.extBut hs''.extBut D.i2z⟩,
      ⟨m.same _ _ g1 e1 p1, ⟨e1, p1⟩, Rvs.mono m _ r1⟩, m.same _ _ g2 e2 p2, ⟨e2, p2⟩, Rvs.mono m _ r2⟩ kk ?_
    unfold Rv
    refine ⟨_, [x, y], _, rfl, by simpa using gT, ⟨?_, fun p => ?_⟩, len_ok (by rfl), ⟨x, [y], rfl, Rv.mono m _ rx, y, [], rfl, Rv.mono m _ ry, rfl⟩⟩
    · cases q : η s.heap.objs.size with
      | none => rfl
      | some mo => have := hex s.heap.objs.size (.inr (by rw [q]; rfl)); rw [fr] at this; cases this
    · have := hex s.heap.objs.size (.inl p); rw [fr] at this; cases this
  done := fun {s η pr QQ E} _ _ st hQ => by
    obtain ⟨⟨hz, hTI, ⟨a, b, hTO⟩, h1, h2⟩, ⟨g1, ⟨e1, p1⟩, r1⟩, g2, ⟨e2, p2⟩, r2⟩ := st
    have l1' := rvs_length r1
    have l2' := rvs_length r2
    have hend : xs.toArray[(zipV vs ws).length]? = Option.none ∨ ys.toArray[(zipV vs ws).length]? = Option.none := by
      rw [zipV_len, List.getElem?_toArray, List.getElem?_toArray]
      rcases Nat.le_total vs.length ws.length with h | h
      · exact .inl (List.getElem?_eq_none (by rw [Nat.min_eq_left h, l1']; exact Nat.le_refl _))
      · exact .inr (List.getElem?_eq_none (by rw [Nat.min_eq_right h, l2']; exact Nat.le_refl _))
    exact wpAny_pyNext_zip_end hh D hz hTI hTO h1 h2 ⟨_, g1, rfl, _, rfl⟩ ⟨_, g2, rfl, _, rfl⟩ hend fun h' hk => hQ h' s.toks fun b o nb e =>
      hk b o (fun q => nb (.inl q)) (fun q => nb (.inr (.inr (.inl q)))) (fun q => nb (.inr (.inr (.inr (.inl q))))) (fun q => nb (.inr (.inr (.inr (.inr q))))) e
  self := fun {i s η pr QQ E} st q => wpAny_pyIter_zip st.1.1 q

theorem SJ.zip {elts : List Expr} {k : Nat} {tp : Pos} {f : Str} {es : List Expr} {KK : (Hp → Prop) → List V → Hp → Prop} (m : (f, NameKind.globalImplicit) ∈ nm) (gl : Glob c f (.type "zip")) (p : SL c d true nm σ η es (fun us η₁ => ∃ vs ws, us = [.lst vs, .lst ws] ∧ KK (fun _ => True) (zipV vs ws) η₁) X)
    (hs : es.any star? = false := by with_unfolding_all rfl) (hn : (f == ("__debug__" : Str)) = false := by decide +kernel) : SJ c d nm σ η (.Call (.Name f fp) es [] pos) (.Tuple elts k tp) KK X := by
  intro A env s pr QQ E o I F hE hQ
  refine wpAny_Call_ofName (wpAny_mono (SE.glob (Q := fun v η' => v = .glob (.type "zip") ∧ η' = η) (X := X) m gl ⟨rfl, rfl⟩ hn A env s pr o I F) (fun x s₁ hq => ?_) fun r s' e => hE r s' e)
  obtain ⟨v, η₁, ⟨rfl, e⟩, I₁, rv, st⟩ := hq
  subst e
  unfold Rv at rv; subst rv
  refine callWith_SL (first := []) Callee.ty p o I₁ (F.step I st) hs (fun us η₂ s₂ as q I₂ r st₂ => ?_) fun r s' e => hE r s' (e.older st)
  obtain ⟨vs, ws, rfl, q⟩ := q
  obtain ⟨y, z, rfl, ry, rz⟩ := rvs2 r
  unfold Rv at ry rz
  obtain ⟨l1, xs, n1, rfl, g1, ⟨e1, p1⟩, _, r1⟩ := ry
  obtain ⟨l2, ys, n2, rfl, g2, ⟨e2, p2⟩, _, r2⟩ := rz
  refine call_zip_2 (xs := xs.toArray) (ys := ys.toArray) ⟨_, g1, rfl, _, rfl⟩ ⟨_, g2, rfl, _, rfl⟩ fun h' a1 a2 a3 a4 a5 a6 keep => ?_
  refine wpAny_pyIter_zip (s := { s₂ with heap := h' }) a1 ?_
  have lt1 := Heap.lt_size g1
  have lt2 := Heap.lt_size g2
  have D : ZipApart (s₂.heap.objs.size + 4) (s₂.heap.objs.size + 2) (s₂.heap.objs.size + 3) s₂.heap.objs.size (s₂.heap.objs.size + 1) l1 l2 := by
    constructor <;> (generalize s₂.heap.objs.size = nn at *; unfold Addr at *; omega)
  have frs : ∀ j, s₂.heap.get? (s₂.heap.objs.size + j) = Option.none := fun j => by
    cases e : s₂.heap.get? (s₂.heap.objs.size + j) with
    | none => rfl
    | some ob => exact absurd (Heap.lt_size e) (Nat.not_lt.mpr (Nat.le_add_right _ _))
  have hJ : ∀ b, (b = s₂.heap.objs.size + 4 ∨ b = s₂.heap.objs.size + 2 ∨ b = s₂.heap.objs.size + 3 ∨ b = s₂.heap.objs.size ∨ b = s₂.heap.objs.size + 1) → s₂.heap.get? b = Option.none := fun b q => by
    rcases q with rfl | rfl | rfl | rfl | rfl
    · exact frs 4
    · exact frs 2
    · exact frs 3
    · exact frs 0
    · exact frs 1
  have hJf : ∀ b, (b = s₂.heap.objs.size + 4 ∨ b = s₂.heap.objs.size + 2 ∨ b = s₂.heap.objs.size + 3 ∨ b = s₂.heap.objs.size ∨ b = s₂.heap.objs.size + 1) → ¬ isFr A b := fun b q f => by
    obtain ⟨o, e⟩ := Option.isSome_iff_exists.mp (I₂.privs _ (I₂.frs _ f)).1
    rw [hJ b q] at e; cases e
  have m : Mono pr η₂ s₂.heap η₂ (fun b => pr b ∨ (b = s₂.heap.objs.size + 4 ∨ b = s₂.heap.objs.size + 2 ∨ b = s₂.heap.objs.size + 3 ∨ b = s₂.heap.objs.size ∨ b = s₂.heap.objs.size + 1)) h' :=
    ⟨fun b ob e _ _ => keep b ob e, fun _ e => e, fun b ob e n p => ⟨n, fun q => q.elim p fun q => by rw [hJ b q] at e; cases e⟩⟩
  exact hQ _ (zipV vs ws) η₂ s₂ h' s₂.toks _ _ _ q I₂ (st.trans st₂) (itr_zip (xs := xs) (ys := ys) (n1 := n1) (n2 := n2) (vs := vs) (ws := ws) (o.handled rfl) D) hJ hJf keep
    ⟨⟨a1, a2, ⟨_, _, a3⟩, a4, a5⟩, ⟨keep _ _ g1, m.new _ _ g1 e1 p1, Rvs.mono m _ r1⟩, keep _ _ g2, m.new _ _ g2 e2 p2, Rvs.mono m _ r2⟩
end
end Mine

namespace Mine
open PySem PyProof.Rows PySem.W

-- shares are told by their ratio
theorem dvd_cop {a b m : Int} (h : Int.gcd a b = 1) (d : b ∣ a * m) : b ∣ m := by
  rw [← Int.natAbs_dvd_natAbs] at d ⊢
  rw [Int.natAbs_mul] at d
  exact Nat.Coprime.dvd_of_dvd_mul_left (by rw [Nat.Coprime, Nat.gcd_comm]; exact h) d
theorem normal_uniq {t b t' b' p q p' q' : Int} (h : b ≠ 0) (h' : b' ≠ 0) (e : t * b' = t' * b) (N : Normal t b p q) (N' : Normal t' b' p' q') : p = p' ∧ q = q' := by
  have key : p * q' = p' * q := by
    have e1 : (p * q') * (b * b') = (p' * q) * (b * b') := by
      have a1 : (p * q') * (b * b') = (p * b) * (q' * b') := by simp only [Int.mul_comm, Int.mul_left_comm, Int.mul_assoc]
      have a2 : (p' * q) * (b * b') = (p' * b') * (q * b) := by simp only [Int.mul_comm, Int.mul_left_comm, Int.mul_assoc]
      rw [a1, a2, N.eq, N'.eq]
      have a3 : t * q * (q' * b') = (t * b') * (q * q') := by simp only [Int.mul_comm, Int.mul_left_comm, Int.mul_assoc]
      have a4 : t' * q' * (q * b) = (t' * b) * (q * q') := by simp only [Int.mul_comm, Int.mul_left_comm, Int.mul_assoc]
      rw [a3, a4, e]
    exact Int.eq_of_mul_eq_mul_right (Int.mul_ne_zero h h') e1
  have d1 : q ∣ q' := dvd_cop N.cop (by rw [key]; exact Int.dvd_mul_left ..)
  have d2 : q' ∣ q := dvd_cop N'.cop (by rw [← key]; exact Int.dvd_mul_left ..)
  have p1 := N.pos
  have p2 := N'.pos
  have eq : q = q' := Int.dvd_antisymm (by omega) (by omega) d1 d2
  subst eq
  exact ⟨Int.eq_of_mul_eq_mul_right (by omega) key, rfl⟩
-- sums
-- sizes
noncomputable def Lb (b : Nat) (x : Int) : Prop := x.natAbs ≤ 2 ^ b
theorem Lb.mono {a b : Nat} {x : Int} (h : Lb a x) (e : a ≤ b) : Lb b x := Nat.le_trans h (Nat.pow_le_pow_right (by decide) e)
theorem Lb.mul {a b : Nat} {x y : Int} (h : Lb a x) (h' : Lb b y) : Lb (a + b) (x * y) := by
  unfold Lb at *
  rw [Int.natAbs_mul, Nat.pow_add]; exact Nat.mul_le_mul h h'
theorem Lb.zero (b : Nat) : Lb b 0 := Nat.zero_le _
-- lists by numbers
theorem rngL0 (n : Nat) : rngL 0 (n : Int) = (List.range n).map fun k => V.int (k : Nat) := by
  unfold rngL; simp
theorem range_get {α : Type} {n k : Nat} (f : Nat → α) (h : k < n) : ((List.range n).map f)[k]? = some (f k) := by simp [h]
theorem zipV_range (n : Nat) (u w : Nat → V) : zipV ((List.range n).map u) ((List.range n).map w) = (List.range n).map fun k => .tup [u k, w k] := by
  have : ∀ l : List Nat, zipV (l.map u) (l.map w) = l.map fun k => .tup [u k, w k] := by
    intro l
    induction l with
    | nil => rfl
    | cons k l ih => simp [zipV, ih]
  exact this _

section
variable {c : Cx} {η : Hp} {d : Nat} {hd : Bool} {nm : List (Str × NameKind)} {σ τ : List (Option V)} {t elt : Expr} {xs : List Str} {cnd : Option Expr} {K : List V → Hp → Prop} {x y : Str} {px py tp : Pos} {Q R : V → Hp → Prop} {X : Addr → Hp → Prop} {v w : V} {N : List (Option V) → Hp → Prop}

/-- each item gives one value, by a list of indices -/
theorem CompL.mapA {α : Type} {u g : α → V} {l : List α} {ws : List V} (he : ∀ a ∈ l, ∃ T, SA c d nm τ η t xs (u a) (fun τ' => τ' = T) ∧ Less τ T ∧ EP c d true nm T η elt (g a) noX) (k : K (ws ++ l.map g) η) : CompL c d nm t xs none elt K (l.map u) ws τ η := by
  induction l generalizing ws with
  | nil => rw [List.map_nil]; unfold CompL; simpa using k
  | cons a l ih =>
    rw [List.map_cons]
    unfold CompL
    obtain ⟨T, sa, le, ep⟩ := he a (.head _)
    intro A env s pr y QQ E o I F r q
    refine sa A env s pr y QQ E o I F r fun s' σ' e I' F' st => q s' σ' ?_ I' F' st
    subst e
    refine ep.mono (fun w η' e => ?_) fun _ _ e => e
    obtain ⟨rfl, rfl⟩ := e
    exact CompL.forget le (ih (fun a m => he a (.tail _ m)) (by simpa using k))
theorem CompL.mapL {α : Type} {u g : α → V} {l : List α} {ws : List V} (he : ∀ a ∈ l, ∃ T, Put nm τ x (u a) T ∧ Less τ T ∧ EP c d true nm T η elt (g a) noX) (k : K (ws ++ l.map g) η) : CompL c d nm (.Name x px) [x] none elt K (l.map u) ws τ η :=
  CompL.mapA (fun a m => let ⟨T, p, l, e⟩ := he a m; ⟨T, SA.name p rfl, l, e⟩) k
theorem CompL.mapV {g : V → V} {vs ws : List V} (he : ∀ v ∈ vs, ∃ T, Put nm τ x v T ∧ Less τ T ∧ EP c d true nm T η elt (g v) noX) (k : K (ws ++ vs.map g) η) : CompL c d nm (.Name x px) [x] none elt K vs ws τ η := by
  have := CompL.mapL (u := fun v => v) (px := px) (fun v m => he v m) k
  rwa [List.map_id'] at this
/-- over a range -/
theorem CompL.mapN {u g : Nat → V} {n : Nat} {ws : List V} (he : ∀ k, k < n → ∃ T, Put nm τ x (u k) T ∧ Less τ T ∧ EP c d true nm T η elt (g k) noX) (k : K (ws ++ (List.range n).map g) η) : CompL c d nm (.Name x px) [x] none elt K ((List.range n).map u) ws τ η :=
  CompL.mapL (fun a m => he a (List.mem_range.mp m)) k
theorem CompL.rngN {g : Nat → V} {n : Nat} {ws : List V} (he : ∀ k, k < n → ∃ T, Put nm τ x (.int (k : Nat)) T ∧ Less τ T ∧ EP c d true nm T η elt (g k) noX) (k : K (ws ++ (List.range n).map g) η) : CompL c d nm (.Name x px) [x] none elt K (rngL 0 (n : Int)) ws τ η := by
  rw [rngL0]; exact CompL.mapN he k
theorem CompL.zipN {u w g : Nat → V} {n : Nat} {ws : List V} {k' : Nat} (he : ∀ k, k < n → ∃ T T', Put nm τ x (u k) T ∧ Put nm T y (w k) T' ∧ Less τ T' ∧ EP c d true nm T' η elt (g k) noX) (k : K (ws ++ (List.range n).map g) η) :
    CompLG c d nm (.Tuple [.Name x px, .Name y py] k' tp) [x, y] none elt K (fun _ => True) (zipV ((List.range n).map u) ((List.range n).map w)) ws τ η := by
  rw [zipV_range]
  exact CompL.toG <| CompL.mapA (fun a m => let ⟨T, T', p, p', l, e⟩ := he a (List.mem_range.mp m); ⟨T', SA.tup2 p p' rfl, l, e⟩) k
theorem lins_of : ∀ {vs : List V}, (∀ v ∈ vs, Lin η v) → Lins η vs
  | [], _ => trivial
  | _ :: _, h => ⟨h _ (.head _), lins_of fun v m => h v (.tail _ m)⟩
theorem rng_ok {n : Nat} (h : n ≤ 10000) : SI c d t (.rng 0 (n : Int)) η (rngL 0 (n : Int)) := SI.rng (by decide) (by omega) (by decide) (by omega)
theorem rng_len {n : Nat} (h : n ≤ 10000) : (rngL 0 (n : Int)).length ≤ sizeLine := by
  have : sizeLine = 16777216 := by decide
  rw [rngL0, List.length_map, List.length_range]; omega
theorem range_len {α : Type} {f : Nat → α} {n : Nat} (h : n ≤ 10000) : ((List.range n).map f).length ≤ sizeLine := by
  have : sizeLine = 16777216 := by decide
  rw [List.length_map, List.length_range]; omega

/-- a for over items by numbers -/
theorem ForL.mapN {body : List Stmt} {n : Nat} {u : Nat → V} (T : Nat → List (Option V)) (hb : ∀ k, k < n → ∃ T', Put nm (T k) x (u k) T' ∧ SS c d true nm T' η body (fun τ' η' => Less (T (k + 1)) τ' ∧ η' = η) R X)
    (hN : ∀ σ', Less (T n) σ' → N σ' η) {σ : List (Option V)} (l : Less (T 0) σ) : ForL c d nm (.Name x px) [x] body N R X ((List.range n).map u) σ η := by
  have key : ∀ (m k : Nat) (σ : List (Option V)), k + m = n → Less (T k) σ → ForL c d nm (.Name x px) [x] body N R X ((List.range' k m).map u) σ η := by
    intro m
    induction m with
    | zero => intro k σ e l; rw [List.range'_zero, List.map_nil]; unfold ForL; have : k = n := by omega
              subst this; exact hN σ l
    | succ m ih =>
      intro k σ e l
      rw [List.range'_succ, List.map_cons]
      unfold ForL
      obtain ⟨T', p, ss⟩ := hb k (by omega)
      refine SA.forget l (SA.name p (ss.mono (fun τ' η' q => ?_) (fun _ _ q => q) fun _ _ q => q))
      obtain ⟨l', rfl⟩ := q
      exact ih (k + 1) τ' (by omega) l'
  have := key n 0 σ (by omega) l
  rwa [← List.range_eq_range'] at this
theorem ForL.rngN {body : List Stmt} {n : Nat} (T : Nat → List (Option V)) (hb : ∀ k, k < n → ∃ T', Put nm (T k) x (.int (k : Nat)) T' ∧ SS c d true nm T' η body (fun τ' η' => Less (T (k + 1)) τ' ∧ η' = η) R X)
    (hN : ∀ σ', Less (T n) σ' → N σ' η) {σ : List (Option V)} (l : Less (T 0) σ) : ForL c d nm (.Name x px) [x] body N R X (rngL 0 (n : Int)) σ η := by
  rw [rngL0]; exact ForL.mapN T hb hN l
/-- a for over items by numbers, the mutable objects too -/
theorem ForL.mapH {body : List Stmt} {n : Nat} {u : Nat → V} (T : Nat → List (Option V)) (H : Nat → Hp) (hb : ∀ k, k < n → ∃ T', Put nm (T k) x (u k) T' ∧ SS c d true nm T' (H k) body (fun τ' η' => Less (T (k + 1)) τ' ∧ η' = H (k + 1)) R X)
    (hN : ∀ σ', Less (T n) σ' → N σ' (H n)) {σ : List (Option V)} (l : Less (T 0) σ) : ForL c d nm (.Name x px) [x] body N R X ((List.range n).map u) σ (H 0) := by
  have key : ∀ (m k : Nat) (σ : List (Option V)), k + m = n → Less (T k) σ → ForL c d nm (.Name x px) [x] body N R X ((List.range' k m).map u) σ (H k) := by
    intro m
    induction m with
    | zero => intro k σ e l; rw [List.range'_zero, List.map_nil]; unfold ForL; have : k = n := by omega
              subst this; exact hN σ l
    | succ m ih =>
      intro k σ e l
      rw [List.range'_succ, List.map_cons]
      unfold ForL
      obtain ⟨T', p, ss⟩ := hb k (by omega)
      refine SA.forget l (SA.name p (ss.mono (fun τ' η' q => ?_) (fun _ _ q => q) fun _ _ q => q))
      obtain ⟨l', rfl⟩ := q
      exact ih (k + 1) τ' (by omega) l'
  have := key n 0 σ (by omega) l
  rwa [← List.range_eq_range'] at this
theorem ForL.rngH {body : List Stmt} {n : Nat} (T : Nat → List (Option V)) (H : Nat → Hp) (hb : ∀ k, k < n → ∃ T', Put nm (T k) x (.int (k : Nat)) T' ∧ SS c d true nm T' (H k) body (fun τ' η' => Less (T (k + 1)) τ' ∧ η' = H (k + 1)) R X)
    (hN : ∀ σ', Less (T n) σ' → N σ' (H n)) {σ : List (Option V)} (l : Less (T 0) σ) : ForL c d nm (.Name x px) [x] body N R X (rngL 0 (n : Int)) σ (H 0) := by
  rw [rngL0]; exact ForL.mapH T H hb hN l
end

theorem Hp.set_set (η : Hp) (a : Addr) (o o' : MObj) : (η.set a o).set a o' = η.set a o' := by
  funext b
  unfold Hp.set
  by_cases h : b = a
  · rw [if_pos h, if_pos h]
  · rw [if_neg h, if_neg h, if_neg h]
theorem int_lin {η : Hp} {n : Nat} {r : Nat → Int} : Lins η ((List.range n).map fun k => V.int (r k)) := lins_of fun v hv => by
  obtain ⟨k, _, rfl⟩ := List.mem_map.mp hv; trivial
-- products of numbers
theorem mulR {a b : Int} (h : b.natAbs < 2 ^ 64) : IntMulOk a b := IntMulOk.of_right (bits_le h)
theorem mulL {a b : Int} (h : a.natAbs < 2 ^ 64) : IntMulOk a b := IntMulOk.of_left (bits_le h)

-- the first place of a sign
open Builtin.Str StrLaws in
open Builtin.Str StrLaws in
-- signs and words
/-- the letters of a machine's signs -/
structure Sg (m : Nat) (g : Nat → Nat) : Prop where
  lo : ∀ k, k < m → 97 ≤ g k ∧ g k < 123
  up : ∀ i j, i < j → j < m → g i < g j
-- rows and tables
-- as Python holds them
noncomputable abbrev rowI (n : Nat) (r : Nat → Int) : List V := (List.range n).map fun k => V.int (r k)
end Mine

namespace Mine
open PySem PyProof.Rows PySem.W

/-- a list, changed or not -/
noncomputable def LV (η : Hp) (v : V) (vs : List V) : Prop := v = .lst vs ∨ ∃ a, v = .loc a ∧ η a = some (.lst vs)
theorem LV.lst {η : Hp} {vs : List V} : LV η (.lst vs) vs := .inl rfl
theorem LV.loc {η : Hp} {a : Addr} {vs : List V} (e : η a = some (.lst vs)) : LV η (.loc a) vs := .inr ⟨a, rfl, e⟩

-- plain data
mutual
theorem eqv_self : ∀ (d : PyData), d.canLay0 = true → PyData.eqv d d = true
  | .none, _ => by simp [PyData.eqv]
  | .bool b, _ => by simp [PyData.eqv]
  | .int i, _ => by simp [PyData.eqv]
  | .str x, _ => by simp [PyData.eqv]
  | .list xs, h => by
    unfold PyData.eqv
    unfold PyData.canLay0 at h
    exact eqvAll_self xs h
  | .tuple xs, h => by
    unfold PyData.eqv
    unfold PyData.canLay0 at h
    exact eqvAll_self xs h
  | .dict _, h => by unfold PyData.canLay0 at h; cases h
theorem eqvAll_self : ∀ (ds : List PyData), PyData.canLayAll0 ds = true → PyData.eqvAll ds ds = true
  | [], _ => by simp [PyData.eqvAll]
  | d :: ds, h => by
    unfold PyData.canLayAll0 at h
    rw [Bool.and_eq_true] at h
    unfold PyData.eqvAll
    rw [eqv_self d h.1, eqvAll_self ds h.2]; rfl
end
/-- lists of two numbers each -/
noncomputable def Shs (vs : List V) : Prop := ∀ v ∈ vs, ∃ i j, v = .tup [.int i, .int j]
noncomputable def shD : V → PyData
  | .tup [.int i, .int j] => .tuple [.int i, .int j]
  | _ => .none
theorem Shs.pyrs {η : Hp} : ∀ {vs : List V}, Shs vs → PyRs η vs (vs.map shD)
  | [], _ => .nil
  | v :: vs, h => by
    obtain ⟨i, j, rfl⟩ := h v (.head _)
    exact .cons (.tup (.cons .int (.cons .int .nil))) (Shs.pyrs fun u m => h u (.tail _ m))
theorem Shs.lay : ∀ {vs : List V}, Shs vs → PyData.canLayAll0 (vs.map shD) = true ∧ PyData.depthAll (vs.map shD) ≤ 1
  | [], _ => ⟨by simp [PyData.canLayAll0], by simp [PyData.depthAll]⟩
  | v :: vs, h => by
    obtain ⟨i, j, rfl⟩ := h v (.head _)
    obtain ⟨h1, h2⟩ := Shs.lay fun u m => h u (.tail _ m)
    rw [List.map_cons]
    unfold PyData.canLayAll0 PyData.depthAll
    refine ⟨by rw [h1]; simp [shD, PyData.canLay0, PyData.canLayAll0], ?_⟩
    have : PyData.depth (shD (.tup [.int i, .int j])) = 1 := by simp [shD, PyData.depth, PyData.depthAll]
    rw [this]; omega
theorem Shs.shaped {vs : List V} (h : Shs vs) : PySem.SeqAt.shaped (.list (vs.map shD)) = true := by
  obtain ⟨h1, h2⟩ := h.lay
  unfold PySem.SeqAt.shaped PyData.canLay0 PyData.depth
  rw [h1, decide_eq_true (by omega)]; rfl
mutual
theorem lin_set {η : Hp} {b : Addr} {o : MObj} (n : η b = Option.none) : ∀ (v : V), Lin η v → Lin (η.set b o) v
  | .loc a, l => by
    unfold Lin at l ⊢
    rw [Hp.set_ne]
    · exact l
    · rintro rfl; rw [n] at l; cases l
  | .tup vs, l => by unfold Lin at l ⊢; exact lins_set n vs l
  | .lst vs, l => by unfold Lin at l ⊢; exact lins_set n vs l
  | .dct _ vs, l => by unfold Lin at l ⊢; exact lins_set n vs l
  | .obj _ _ vs, l => by unfold Lin at l ⊢; exact lins_set n vs l
  | .none, _ => trivial
  | .bool _, _ => trivial
  | .int _, _ => trivial
  | .str _, _ => trivial
  | .glob _, _ => trivial
  | .exc _, _ => trivial
  | .rng _ _, _ => trivial
theorem lins_set {η : Hp} {b : Addr} {o : MObj} (n : η b = Option.none) : ∀ (vs : List V), Lins η vs → Lins (η.set b o) vs
  | [], _ => trivial
  | v :: vs, l => ⟨lin_set n v l.1, lins_set n vs l.2⟩
end
section
variable {c : Cx} {A : Around} {pr pr' : Pr} {η η' : Hp} {s : Shared} {d : Nat} {hd : Bool} {nm : List (Str × NameKind)} {σ τ : List (Option V)} {env : Env}
  {Q R : V → Hp → Prop} {X : Addr → Hp → Prop} {v w : V} {x : Str} {pos fp p' px : Pos} {N : List (Option V) → Hp → Prop} {rest : List Stmt} {h h' : Heap} {a : Addr} {mo : MObj} {K : Params → Frag} {gt bt : List (Str × Value)} {vs ws : List V} {t elt : Expr} {xs : List Str}

theorem SC.len_any (h : LV η v vs) (q : Q (.int vs.length) η) : SC c d hd (.builtin "len") [v] η Q X := by
  rcases h with rfl | ⟨a, rfl, e⟩
  · exact SC.len_lst q
  · exact SC.len_loc e q
theorem S2.eqSelf {dt : PyData} (ra : PyR η v dt) (rb : PyR η w dt) (ha : PySem.SeqAt.shaped dt = true) (q : Q (.bool true) η) : S2 c d hd (compareOp .Eq) v w η Q X :=
  S2.eqD ra rb ha ha (by rw [eqv_self dt (PySem.SeqAt.canLay_of_shaped ha)]; exact q)
theorem S2.neSelf {dt : PyData} (ra : PyR η v dt) (rb : PyR η w dt) (ha : PySem.SeqAt.shaped dt = true) (q : Q (.bool false) η) : S2 c d hd (compareOp .NotEq) v w η Q X :=
  S2.neD ra rb ha ha (by rw [eqv_self dt (PySem.SeqAt.canLay_of_shaped ha)]; exact q)
theorem S2.neNil (q : Q (.bool false) η) : S2 c d hd (compareOp .NotEq) (.lst []) (.lst []) η Q X := S2.neSelf (dt := .list []) (.lst .nil) (.lst .nil) (by decide +kernel) q
theorem S2.eqNil (q : Q (.bool true) η) : S2 c d hd (compareOp .Eq) (.lst []) (.lst []) η Q X := S2.eqSelf (dt := .list []) (.lst .nil) (.lst .nil) (by decide +kernel) q
theorem ints_pyrs {ns : List Int} : PyRs η (ns.map V.int) (ns.map PyData.int) := by
  induction ns with
  | nil => exact .nil
  | cons n ns ih => exact .cons .int ih
theorem SC.isi_loc (e : η a = some (.lst vs)) (q : Q (.bool true) η) : SC c d hd (.builtin "isinstance") [.loc a, .glob (.type "list")] η Q X := by
  intro A s pr xs o I r
  obtain ⟨y, z, rfl, ry, rz⟩ := rvs2 r
  unfold Rv at ry; obtain ⟨rfl, _⟩ := ry
  obtain ⟨its, n, ho, hl, rs⟩ := I.hrel _ _ e
  unfold Rv at rz; subst rz
  exact IsiPair.list_list ho rfl (Post.val (v := .bool true) I rfl q)
/-- a copy of a list that is changed elsewhere -/
theorem SC.listLoc (e : η a = some (.lst vs)) (q : Q (.lst vs) η) : SC c d hd (.type "list") [.loc a] η Q X := by
  intro A s pr xs o I r
  obtain ⟨y, rfl, ry⟩ := rvs1 r
  unfold Rv at ry; obtain ⟨rfl, _⟩ := ry
  obtain ⟨its, n, ho, hz, rs⟩ := I.hrel _ _ e
  refine call_list_seq a (.inl rfl) ho rfl rfl (fun h' c' k g => ?_) (by simpa [rvs_length rs] using hz)
  refine Post.pure (t := s.toks) (v := .lst vs) I k ?_ q
  unfold Rv
  exact ⟨_, its, c', rfl, g, Rvs.fresh (vs := vs) (xs := its) I, hz, Rvs.mono (Mono.of_keeps k) vs rs⟩
-- slices of lists
theorem rvs_take {P : Params} {h : Heap} : ∀ (k : Nat) {vs : List V} {xs : List Value}, Rvs P h η pr vs xs → Rvs P h η pr (vs.take k) (xs.take k)
  | 0, _, _, _ => by simp [Rvs]
  | k + 1, [], _, r => by unfold Rvs at r; subst r; simp [Rvs]
  | k + 1, v :: vs, _, r => by
    unfold Rvs at r
    obtain ⟨y, ys, rfl, ry, rs⟩ := r
    exact ⟨y, _, rfl, ry, rvs_take k rs⟩
theorem rvs_drop {P : Params} {h : Heap} : ∀ (k : Nat) {vs : List V} {xs : List Value}, Rvs P h η pr vs xs → Rvs P h η pr (vs.drop k) (xs.drop k)
  | 0, _, _, r => r
  | k + 1, [], _, r => by unfold Rvs at r; subst r; simp [Rvs]
  | k + 1, v :: vs, _, r => by
    unfold Rvs at r
    obtain ⟨y, ys, rfl, ry, rs⟩ := r
    exact rvs_drop k rs
/-- a slice; its kind is told by hand -/
noncomputable def SliceGoal (c : Cx) (d : Nat) (hd : Bool) (nm : List (Str × NameKind)) (σ : List (Option V)) (η : Hp) (e : Expr) (Q : V → Hp → Prop) (X : Addr → Hp → Prop) : Prop := SE c d hd nm σ η e Q X
theorem SE.slice {e : Expr} {lo hi st : Option Expr} (p : SliceGoal c d hd nm σ η (.Subscript e (.Slice lo hi st p') pos) Q X) : SE c d hd nm σ η (.Subscript e (.Slice lo hi st p') pos) Q X := p
theorem SliceGoal.of {e : Expr} (p : SE c d hd nm σ η e Q X) : SliceGoal c d hd nm σ η e Q X := p

-- repr
-- comprehensions whose values are known up to a property
theorem CompLG.forget {cnd : Option Expr} {K : List V → Hp → Prop} {G : Hp → Prop} (l : Less τ σ) : ∀ {vs ws : List V}, CompLG c d nm t xs cnd elt K G vs ws τ η → CompLG c d nm t xs cnd elt K G vs ws σ η
  | [], _, p => by unfold CompLG at p ⊢; exact p
  | v :: vs, _, p => by unfold CompLG at p ⊢; exact ⟨p.1, SA.forget l p.2⟩
/-- no item passes the test -/
theorem CompLG.none {K : List V → Hp → Prop} {G : Hp → Prop} {q : Expr} {vs ws : List V} (hG : G η) (he : ∀ v ∈ vs, ∃ T, Put nm τ x v T ∧ Less τ T ∧ TP c d true nm T η q false noX) (k : K ws η) : CompLG c d nm (.Name x px) [x] (some q) elt K G vs ws τ η := by
  induction vs with
  | nil => unfold CompLG; exact ⟨hG, k⟩
  | cons v vs ih =>
    unfold CompLG
    obtain ⟨T, pt, le, tp⟩ := he v (.head _)
    refine ⟨hG, SA.name pt (tp.to ?_)⟩
    rw [if_neg (by decide)]
    exact CompLG.forget le (ih fun u m => he u (.tail _ m))

end

/-- a global that names a pair of numbers, looked at once -/
noncomputable def pairIn (K : Frag) (a : Addr) (i j : Int) : Bool := match K.lookup a with
  | some ⟨.type ty, none, .seq ⟨[.int i' _, .int j' _]⟩ _, ⟨[]⟩⟩ => ty == "tuple" && i' == i && j' == j
  | _ => false
theorem pair_of {K : Frag} {a : Addr} {i j : Int} (h : pairIn K a i j = true) : ∃ t u n, K.lookup a = some { cls := .type "tuple", data := .seq #[.int i t, .int j u] n } := by
  unfold pairIn at h
  split at h
  · rename_i e
    simp only [Bool.and_eq_true, beq_iff_eq] at h
    obtain ⟨⟨rfl, rfl⟩, rfl⟩ := h
    exact ⟨_, _, _, e⟩
  · cases h
section
variable {c : Cx} {η : Hp} {d : Nat} {hd : Bool} {nm : List (Str × NameKind)} {σ : List (Option V)} {Q : V → Hp → Prop} {X : Addr → Hp → Prop} {pos : Pos} {K : Params → Frag} {gt bt : List (Str × Value)}
theorem A.nought {a : Addr} (q : Q (.tup [.int 0, .int 1]) η) (W : Wd c K gt bt := by assumption) (m : (Str.ofString "NOUGHT", NameKind.globalImplicit) ∈ nm := by with_reducible (repeat (first | exact List.mem_cons_self | apply List.mem_cons_of_mem)))
    (mg : (Str.ofString "NOUGHT", .ref a) ∈ gt := by with_reducible (repeat (first | exact List.mem_cons_self | apply List.mem_cons_of_mem))) (hk : pairIn (K c.P) a 0 1 = true := by kernel_rfl) : SE c d hd nm σ η (.Name (Str.ofString "NOUGHT") pos) Q X := by
  obtain ⟨t, u, n, e⟩ := pair_of hk
  exact SE.gpair W m mg e q (by decide +kernel)
theorem A.one {a : Addr} (q : Q (.tup [.int 1, .int 1]) η) (W : Wd c K gt bt := by assumption) (m : (Str.ofString "ONE", NameKind.globalImplicit) ∈ nm := by with_reducible (repeat (first | exact List.mem_cons_self | apply List.mem_cons_of_mem)))
    (mg : (Str.ofString "ONE", .ref a) ∈ gt := by with_reducible (repeat (first | exact List.mem_cons_self | apply List.mem_cons_of_mem))) (hk : pairIn (K c.P) a 1 1 = true := by kernel_rfl) : SE c d hd nm σ η (.Name (Str.ofString "ONE") pos) Q X := by
  obtain ⟨t, u, n, e⟩ := pair_of hk
  exact SE.gpair W m mg e q (by decide +kernel)
end
-- the ways through a machine
end Mine

namespace Mine
open PySem PyProof.Rows PySem.W

/-- data that repr can show -/
structure DOk (k L : Nat) (d : PyData) : Prop where
  sh : d.showable = true
  nod : d.hasDict = false
  dep : d.depth ≤ k
  len : d.shown.length ≤ L
  ok : PyData.strOk d.shown = true
end Mine

namespace Mine
open PySem PyProof.Rows PySem.W

end Mine

namespace Mine
open PySem PyProof.Rows PySem.W
section
variable {c : Cx} {η : Hp} {d : Nat} {hd : Bool} {nm : List (Str × NameKind)} {σ : List (Option V)} {Q : V → Hp → Prop} {X : Addr → Hp → Prop} {pos p' : Pos}
end
end Mine

namespace Mine
open PySem PyProof.Rows PySem.W
section
variable {c : Cx} {A : Around} {pr : Pr} {η η' : Hp} {s : Shared} {d : Nat} {hd : Bool} {nm : List (Str × NameKind)} {σ τ : List (Option V)} {env : Env}
  {Q R : V → Hp → Prop} {X : Addr → Hp → Prop} {v w : V} {x y : Str} {pos px py tp : Pos} {N : List (Option V) → Hp → Prop} {rest : List Stmt} {h h' : Heap} {a : Addr} {vs : List V}

-- two names take a list's items
end
end Mine

namespace Mine
open PySem PyProof.Rows PySem.W
section
variable (n n' : Nat) (T : Nat → Nat → Nat → Int) (e : Nat → Int) (T' : Nat → Nat → Nat → Int) (b' e' : Nat → Int) (E E' G : Int)
end
end Mine

namespace Mine
open PySem PyProof.Rows PySem.W

section
variable {c : Cx} {A : Around} {pr pr' : Pr} {η η' : Hp} {s : Shared} {d : Nat} {hd : Bool} {nm : List (Str × NameKind)} {σ : List (Option V)} {env : Env}
  {Q R : V → Hp → Prop} {X : Addr → Hp → Prop} {v w : V} {x : Str} {pos fp np : Pos} {N : List (Option V) → Hp → Prop} {M : Hp → Prop} {rest : List Stmt} {h h' : Heap} {a : Addr} {mo : MObj} {K : Params → Frag} {gt bt : List (Str × Value)}

theorem freshAt (I : Inv c η pr A s) {a : Addr} (hl : s.heap.objs.size ≤ a) : η a = none ∧ ¬ pr a := by
  refine ⟨?_, fun p => ?_⟩
  · cases q : η a with
    | none => rfl
    | some m => obtain ⟨ob, e, _⟩ := (I.hrel _ m q).nofields; exact absurd (Heap.lt_size e) (Nat.not_lt.mpr hl)
  · obtain ⟨ob, e⟩ := Option.isSome_iff_exists.mp (I.privs _ p).1
    exact absurd (Heap.lt_size e) (Nat.not_lt.mpr hl)
-- signs that were sorted
/-- some items give one value each, by a list of indices -/
theorem CompL.filterL {α : Type} {u g : α → V} {p : α → Bool} {l : List α} {ws : List V} {q elt : Expr} {K : List V → Hp → Prop} {px : Pos} {τ : List (Option V)} (he : ∀ a ∈ l, ∃ T, Put nm τ x (u a) T ∧ Less τ T ∧ TP c d true nm T η q (p a) noX ∧ (p a = true → EP c d true nm T η elt (g a) noX)) (k : K (ws ++ (l.filter p).map g) η) : CompL c d nm (.Name x px) [x] (some q) elt K (l.map u) ws τ η := by
  induction l generalizing ws with
  | nil => rw [List.map_nil]; unfold CompL; simpa using k
  | cons a l ih =>
    rw [List.map_cons]
    unfold CompL
    obtain ⟨T, put, le, tp, ep⟩ := he a (.head _)
    intro A env s pr y QQ E o I F r qq
    refine SA.name put rfl A env s pr y QQ E o I F r fun s' σ' e I' F' st => qq s' σ' ?_ I' F' st
    subst e
    refine tp.mono (fun b η' e => ?_) fun _ _ e => e
    obtain ⟨rfl, rfl⟩ := e
    cases hg : p a with
    | true =>
      rw [if_pos rfl]
      refine (ep hg).mono (fun w η' e => ?_) fun _ _ e => e
      obtain ⟨rfl, rfl⟩ := e
      exact CompL.forget le (ih (fun a m => he a (.tail _ m)) (by simpa [List.filter_cons, hg] using k))
    | false =>
      rw [if_neg (by decide)]
      exact CompL.forget le (ih (fun a m => he a (.tail _ m)) (by simpa [List.filter_cons, hg] using k))

end
end Mine

namespace Mine
open PySem PyProof.Rows PySem.W

theorem type_list_clear : typeOf (.builtin "list.clear") = pure (.type "method_descriptor") := by show builtinType _ = _; rw [builtinType_eq_fast]; kernel_rfl

section
variable {c : Cx} {A : Around} {pr pr' : Pr} {η η' : Hp} {s : Shared} {d : Nat} {hd : Bool} {nm : List (Str × NameKind)} {σ τ : List (Option V)} {env : Env} {px py pz pw tp p' : Pos}
  {Q R : V → Hp → Prop} {X : Addr → Hp → Prop} {v w : V} {x y z u : Str} {pos fp np : Pos} {N : List (Option V) → Hp → Prop} {rest : List Stmt} {h h' : Heap} {a : Addr} {mo : MObj} {K : Params → Frag} {gt bt : List (Str × Value)} {vs ws : List V}

theorem freshK (I : Inv c η pr A s) (k : ∀ b o, s.heap.get? b = some o → h'.get? b = some o) : η h'.objs.size = none ∧ ¬ pr h'.objs.size := by
  refine ⟨?_, fun p => ?_⟩
  · cases q : η h'.objs.size with
    | none => rfl
    | some m => obtain ⟨ob, e, _⟩ := (I.hrel _ m q).nofields; exact absurd (Heap.lt_size (k _ _ e)) (Nat.lt_irrefl _)
  · obtain ⟨ob, e⟩ := Option.isSome_iff_exists.mp (I.privs _ p).1
    exact absurd (Heap.lt_size (k _ _ e)) (Nat.lt_irrefl _)
theorem SC.tupleOf (q : Q (.tup vs) η) : SC c d hd (.type "tuple") [.lst vs] η Q X := by
  intro A s pr xs o I r
  obtain ⟨y, rfl, ry⟩ := rvs1 r
  unfold Rv at ry
  obtain ⟨b, its, n, rfl, ho, _, hz, rs⟩ := ry
  have hl := rvs_length rs
  refine call_tuple_list (items := its.toArray) ⟨_, ho, rfl, n, rfl⟩ (fun h' k => ?_) (by simpa [hl] using hz)
  have k' : ∀ b o, s.heap.get? b = some o → (h'.push { cls := .type "tuple", data := .seq its.toArray }).get? b = some o := fun b o e => Heap.get?_push_of_some _ (k b o e)
  refine Post.pure (t := s.toks) (v := .tup vs) I k' ?_ q
  unfold Rv
  exact ⟨_, its, _, rfl, Heap.get?_push_size _ rfl, freshK I k, hz, Rvs.mono (Mono.of_keeps k') vs rs⟩

-- a list is emptied, an item is set
theorem Meth.clear (e : η a = some (.lst vs)) : Meth c (.loc a) η "clear" (.builtin "list.clear") := fun A s pr y pl QQ E I r q => by
  unfold Rv at r; obtain ⟨rfl, _⟩ := r
  obtain ⟨xs, n, ho, _, _⟩ := I.hrel _ _ e
  exact getMethod_list_of PySem.F.slot_list_clear type_list_clear ⟨_, ho, rfl, _, rfl⟩ ⟨_, ho, rfl⟩ (q s.toks)
theorem SC.clear (e : η a = some (.lst vs)) (q : Q .none (η.set a (.lst []))) : SC c d hd (.builtin "list.clear") [.loc a] η Q X := by
  intro A s pr xs o I r
  obtain ⟨y, rfl, ry⟩ := rvs1 r
  unfold Rv at ry; obtain ⟨rfl, _⟩ := ry
  obtain ⟨its, n, ho, hl, rs⟩ := I.hrel _ _ e
  have hle := rvs_length rs
  refine call_meets PySem.F.slot_list_clear ⟨_, ho, rfl⟩ PySem.F.entry_list_clear (PySem.F.args_list_clear_1 _) (AutoSeq1.list_clear_list_0 a its.toArray n (by simpa [hle] using hl)) ⟨ho, ?_⟩
  have sb : Heap.SameBut a s.heap (s.heap.update a (Obj.mapSeq fun _ => #[])) := Heap.SameBut.update ..
  obtain ⟨n', hd'⟩ := Obj.data_mapSeq (o := { cls := .type "list", data := .seq its.toArray n }) (xs := its.toArray) (n := n) rfl (fun _ => #[])
  have pl : ∃ n', (s.heap.update a (Obj.mapSeq fun _ => #[])).get? a = some { cls := .type "list", data := .seq ([] : List Value).toArray n' } := by
    rw [Heap.get?_update_self _ ho (Obj.isFreed_of_seq hd')]
    refine ⟨n', ?_⟩
    have e1 : (Obj.mapSeq (fun _ : Array Value => (#[] : Array Value)) { cls := .type "list", data := .seq its.toArray n }).cls = .type "list" := Obj.cls_mapSeq ..
    generalize hg : Obj.mapSeq (fun _ => #[]) { cls := .type "list", data := .seq its.toArray n } = ob at hd' e1
    have : ob.dict = none ∧ ob.slots = #[] := by rw [← hg]; exact ⟨rfl, rfl⟩
    obtain ⟨oc, od, oda, os⟩ := ob
    simp only at hd' e1 this ⊢
    rw [hd', e1, this.1, this.2]
  obtain ⟨n₂, pl⟩ := pl
  exact ⟨.none, _, q, I.updM (t := s.toks) e (fun _ _ x => by cases x) sb ⟨[], n₂, pl, Nat.zero_le _, rfl⟩, rfl, Step.updM e sb (by rw [pl]; rfl)⟩
/-- slices from a place on, behind the end too -/
theorem pick_from (items : Array Value) (k : Nat) : slicePick items (some (k : Int)) none none = (items.toList.drop k).toArray := by
  by_cases hk : k ≤ items.size
  · exact slicePick_from items k hk
  · rw [slicePick_plain]
    have e : clipAt items.size (k : Int) = items.size := by
      unfold clipAt
      rw [if_neg (by omega)]
      omega
    simp only [Option.elim]
    have h1 : items.toList.drop items.size = [] := by simp
    have h2 : items.toList.drop k = [] := List.drop_eq_nil_of_le (by rw [Array.length_toList]; omega)
    rw [e, h1, h2]; simp
theorem SE.sliceFromE {e u : Expr} (p : SE c d hd nm σ η e (fun a η₁ => SE c d hd nm σ η₁ u (fun b η₂ => ∃ vs k, a = .lst vs ∧ b = .int ((k : Nat) : Int) ∧ Q (.lst (vs.drop k)) η₂) X) X)
    (ht : ∀ o r, letTemporaryGo e o r = pure () := by intro _ _; with_unfolding_all rfl) : SE c d hd nm σ η (.Subscript e (.Slice (some u) Option.none Option.none p') pos) Q X := by
  intro A env s pr o I F
  refine wpAny_Subscript_list_slice (wpAny_mono (p A env s pr o I F) (fun y s₁ hq => ?_) fun _ _ e => e) ht
  obtain ⟨v, η₁, q, I₁, rv, st⟩ := hq
  refine wpAny_mono (q A env s₁ pr o I₁ (F.step I st)) (fun z s₂ hq => ?_) fun _ _ e => e.older st
  obtain ⟨w, η₂, ⟨vs, k, rfl, rfl, q₂⟩, I₂, rw', st₂⟩ := hq
  have rv₂ := rv.step I₁ st₂
  unfold Rv at rv₂ rw'
  obtain ⟨l, its, n, rfl, ho, _, hz, rs⟩ := rv₂
  obtain ⟨tk, rfl⟩ := rw'
  have hl := rvs_length rs
  rw [evalPart_none]
  refine wpAny_pure ⟨l, its.toArray, some (k : Int), Option.none, rfl, ⟨_, ho, rfl, _, rfl⟩, by simpa [hl] using hz, .int _ _, .none, ?_⟩
  rw [pick_from]
  refine (Post.pure (t := s₂.toks) (v := .lst (vs.drop k)) (h' := (s₂.heap.push { cls := .type "slice", data := .fields #[Value.int k tk, .none, .none] }).push { cls := .type "list", data := .seq (its.drop k).toArray }) I₂ (fun b o e => Heap.get?_push_of_some _ (Heap.get?_push_of_some _ e)) ?_ q₂).older (st.trans st₂)
  have g := Heap.get?_push_size (s₂.heap.push { cls := .type "slice", data := .fields #[Value.int k tk, .none, .none] }) (o := { cls := .type "list", data := .seq (its.drop k).toArray }) rfl
  rw [Heap.size_push] at g
  unfold Rv
  exact ⟨_, its.drop k, _, rfl, g, freshAt I₂ (Nat.le_succ _), by rw [List.length_drop]; omega, Rvs.mono (Mono.of_keeps fun b o e => Heap.get?_push_of_some _ (Heap.get?_push_of_some _ e)) _ (rvs_drop k rs)⟩
-- lists, frozen or mutable
theorem SC.isi_any (h : LV η v vs) (q : Q (.bool true) η) : SC c d hd (.builtin "isinstance") [v, .glob (.type "list")] η Q X := by
  rcases h with rfl | ⟨a, rfl, e⟩
  · exact SC.isi (b := true) rfl q
  · exact SC.isi_loc e q
theorem SC.listAny (h : LV η v vs) (q : Q (.lst vs) η) : SC c d hd (.type "list") [v] η Q X := by
  rcases h with rfl | ⟨a, rfl, e⟩
  · exact SC.listOf q
  · exact SC.listLoc e q
theorem SJ.any {t it : Expr} {KK : (Hp → Prop) → List V → Hp → Prop} {vs : List V} {v : V}
    (p : EP c d true nm σ η it v X) (h : LV η v vs) (k : ∀ G : Hp → Prop, G η → KK G vs η) (hi : SI c d t (.lst vs) η vs) : SJ c d nm σ η it t KK X := by
  rcases h with rfl | ⟨a, rfl, e⟩
  · exact SJ.of (p.to ⟨vs, hi, k _ trivial⟩)
  · exact SJ.loc (p.to ⟨a, vs, rfl, e, k _ e⟩)
theorem CompLG.mapA {α : Type} {t elt : Expr} {xs : List Str} {K : List V → Hp → Prop} {G : Hp → Prop} {u g : α → V} {l : List α} {ws : List V} (hG : G η) (he : ∀ a ∈ l, ∃ T, SA c d nm τ η t xs (u a) (fun τ' => τ' = T) ∧ Less τ T ∧ EP c d true nm T η elt (g a) noX) (k : K (ws ++ l.map g) η) : CompLG c d nm t xs Option.none elt K G (l.map u) ws τ η := by
  induction l generalizing ws with
  | nil => rw [List.map_nil]; unfold CompLG; exact ⟨hG, by simpa using k⟩
  | cons a l ih =>
    rw [List.map_cons]
    unfold CompLG
    refine ⟨hG, ?_⟩
    obtain ⟨T, sa, le, ep⟩ := he a (.head _)
    intro A env s pr y QQ E o I F r q
    refine sa A env s pr y QQ E o I F r fun s' σ' e I' F' st => q s' σ' ?_ I' F' st
    subst e
    refine ep.mono (fun w η' e => ?_) fun _ _ e => e
    obtain ⟨rfl, rfl⟩ := e
    exact CompLG.forget le (ih (fun a m => he a (.tail _ m)) (by simpa using k))
theorem CompLG.mapV {elt : Expr} {K : List V → Hp → Prop} {G : Hp → Prop} {g : V → V} {vs ws : List V} (hG : G η) (he : ∀ v ∈ vs, ∃ T, Put nm τ x v T ∧ Less τ T ∧ EP c d true nm T η elt (g v) noX) (k : K (ws ++ vs.map g) η) : CompLG c d nm (.Name x px) [x] Option.none elt K G vs ws τ η := by
  have := CompLG.mapA (t := .Name x px) (xs := [x]) (u := fun v => v) hG (fun v m => let ⟨T, p, l, e⟩ := he v m; ⟨T, SA.name p rfl, l, e⟩) k
  rwa [List.map_id'] at this
end
end Mine

namespace Mine
open PySem PyProof.Rows PySem.W

/-- data that can be laid out -/
structure Lay (k : Nat) (d : PyData) : Prop where
  lay : d.canLay0 = true
  dep : d.depth ≤ k
theorem Lay.all {k : Nat} : ∀ {ds : List PyData}, (∀ d ∈ ds, Lay k d) → PyData.canLayAll0 ds = true ∧ PyData.depthAll ds ≤ k
  | [], _ => ⟨by simp [PyData.canLayAll0], by simp [PyData.depthAll]⟩
  | d :: ds, h => by
    obtain ⟨h1, h2⟩ := Lay.all fun u m => h u (.tail _ m)
    have h0 := h d (.head _)
    unfold PyData.canLayAll0 PyData.depthAll
    exact ⟨by rw [h1, h0.lay]; rfl, Nat.max_le.mpr ⟨h0.dep, h2⟩⟩
theorem Lay.list {k : Nat} {ds : List PyData} (h : ∀ d ∈ ds, Lay k d) : Lay (k + 1) (.list ds) := by
  obtain ⟨h1, h2⟩ := Lay.all h
  exact ⟨by unfold PyData.canLay0; exact h1, by unfold PyData.depth; omega⟩
theorem Lay.int {i : Int} : Lay 0 (.int i) := ⟨by simp [PyData.canLay0], by simp [PyData.depth]⟩
theorem Lay.shaped {k : Nat} {d : PyData} (h : Lay k d) (hk : k ≤ 64) : PySem.SeqAt.shaped d = true := by
  unfold PySem.SeqAt.shaped
  rw [h.lay, decide_eq_true (Nat.le_trans h.dep hk)]; rfl
section
variable {c : Cx} {η : Hp} {d : Nat} {hd : Bool} {Q : V → Hp → Prop} {X : Addr → Hp → Prop}
end
end Mine

namespace Mine
open PySem PyProof.Rows PySem.W
section
variable {prog : Program} {w : World} {A : Around} {E : Value → Shared → Prop} {s : Shared} {env : Env}
/-- a slice of a list that nobody holds -/
theorem slice_any {value : Expr} {lower upper : Option Expr} {p pos : Pos} {Q : Value → Shared → Prop}
    (h : wpAny (model prog w) A (eval value env) (fun o s₁ => wpAny (model prog w) A (evalPart lower env) (fun vl s₂ => wpAny (model prog w) A (evalPart upper env) (fun vu s₃ =>
      ∃ l items lo hi, o = .ref l ∧ s₃.heap.IsList l items ∧ items.size ≤ sizeLine ∧ IsPart vl lo ∧ IsPart vu hi ∧
        Q (.ref (s₃.heap.objs.size + 1)) { s₃ with heap := (s₃.heap.push { cls := .type "slice", data := .fields #[vl, vu, .none] }).push { cls := .type "list", data := .seq (slicePick items lo hi none) } }) E s₂) E s₁) E s) :
    wpAny (model prog w) A (eval (.Subscript value (.Slice lower upper none p) pos) env) Q E s := by
  rw [eval_Subscript]
  refine wpAny_bind (wpAny_mono h (fun o s₁ h₁ => wpAny_bind (wpAny_holding (wpAny_Slice (wpAny_mono h₁ (fun vl s₂ h₂ => wpAny_mono h₂ (fun vu s₃ h₃ => ?_) fun _ _ e => e) fun _ _ e => e)))) fun _ _ e => e)
  obtain ⟨l, items, lo, hi, rfl, hl, hsz, pl, pu, hQ⟩ := h₃
  rw [evalPart_none]
  refine wpAny_pure (wpAny_bind (wpAny_standAt ?_))
  have ty := (hl.push { cls := .type "slice", data := .fields #[vl, vu, .none] }).typeIs (s := { s₃ with heap := s₃.heap.push { cls := .type "slice", data := .fields #[vl, vu, .none] } })
  have get := wpAny_getItem_list_slice (prog := prog) (w := w) (A := A) (E := E) (s := { s₃ with heap := s₃.heap.push { cls := .type "slice", data := .fields #[vl, vu, .none] } }) (Q := fun r s' => Q r s') (hl.push _) (Heap.IsSliceOf.new ..) pl pu .none (by simp) (by rw [Heap.size_push]; exact hQ) hsz
  have fin : wpAny (model prog w) A (operate [.ref s₃.heap.objs.size, .ref l] (getItem (.ref l) (.ref s₃.heap.objs.size))) (fun r s₃ => wpAny (model prog w) A (letTemporaryGo value (.ref l) r >>= fun _ => pure r) Q E s₃) E { s₃ with heap := s₃.heap.push { cls := .type "slice", data := .fields #[vl, vu, .none] } } :=
    wpAny_operating (wpAny_mono get (fun r s₃ h₃ => wpAny_bind (wpAny_letTemporaryGo (wpAny_pure h₃))) fun _ _ x => x)
  refine wpAny_bind ?_
  rw [getitemInPython_of_ne ty.not_modules]
  refine wpAny_bind (wpAny_specialOf ty list_getitem_lookup ?_)
  exact wpAny_pure (wpAny_bind fin)
end
section
variable {c : Cx} {A : Around} {pr pr' : Pr} {η η' : Hp} {s : Shared} {d : Nat} {hd : Bool} {nm : List (Str × NameKind)} {σ τ : List (Option V)} {env : Env} {p' : Pos}
  {Q R : V → Hp → Prop} {X : Addr → Hp → Prop} {v w : V} {pos : Pos} {vs ws : List V}
end
end Mine

namespace Mine

/-- sums of rationals -/
noncomputable def sumR : Nat → (Nat → Rat) → Rat
  | 0, _ => 0
  | n + 1, f => sumR n f + f n
theorem sumR_succ (n : Nat) (f : Nat → Rat) : sumR (n + 1) f = sumR n f + f n := rfl
theorem sumR_congr {n : Nat} {f g : Nat → Rat} (h : ∀ k, k < n → f k = g k) : sumR n f = sumR n g := by
  induction n with
  | zero => rfl
  | succ n ih => unfold sumR; rw [ih fun k hk => h k (by omega), h n (by omega)]
theorem sumR_add (n : Nat) (f g : Nat → Rat) : sumR n (fun k => f k + g k) = sumR n f + sumR n g := by
  induction n with
  | zero => show (0 : Rat) = 0 + 0; grind
  | succ n ih => rw [sumR_succ, sumR_succ, sumR_succ, ih]; grind
theorem sumR_mul (n : Nat) (a : Rat) (f : Nat → Rat) : sumR n (fun k => a * f k) = a * sumR n f := by
  induction n with
  | zero => show (0 : Rat) = a * 0; grind
  | succ n ih => rw [sumR_succ, sumR_succ, ih]; grind
theorem sumR_zero {n : Nat} {f : Nat → Rat} (h : ∀ k, k < n → f k = 0) : sumR n f = 0 := by
  induction n with
  | zero => rfl
  | succ n ih => unfold sumR; rw [ih fun k hk => h k (by omega), h n (by omega)]; grind
theorem sumR_one {n j : Nat} {f : Nat → Rat} (hj : j < n) (h : ∀ k, k < n → k ≠ j → f k = 0) : sumR n f = f j := by
  induction n with
  | zero => omega
  | succ n ih =>
    unfold sumR
    by_cases e : j = n
    · subst e; rw [sumR_zero fun k hk => h k (by omega) (by omega)]; grind
    · rw [ih (by omega) fun k hk hn => h k (by omega) hn, h n (by omega) (by omega)]; grind
theorem alg0 (a b : Rat) : a + 0 * b = a := by grind
theorem alg1 {l lp s r : Rat} (h0 : lp ≠ 0) (h : l + s = r) : l / lp = (-1 / lp) * s + 1 / lp * r := by subst h; grind
theorem alg2 {l lp s r : Rat} (h0 : lp ≠ 0) (h : l + s = r) : r = s + lp * (l / lp) := by subst h; grind

/-- a span's steps -/
structure Sp where
  m : Nat
  P : Nat → Nat
  S : Nat → Nat → Rat
  H : Nat → Nat → Rat
noncomputable def Sp.cl (s : Sp) (r : Nat → Rat) : Nat → (Nat → Rat) × (Nat → Rat)
  | 0 => (r, fun _ => 0)
  | i + 1 => (fun k => (s.cl r i).1 k - (s.cl r i).1 (s.P i) * s.S i k, fun k => (s.cl r i).2 k + (s.cl r i).1 (s.P i) * s.H i k)
noncomputable def Sp.left (s : Sp) (r : Nat → Rat) : Nat → Rat := (s.cl r s.m).1
noncomputable def Sp.by (s : Sp) (r : Nat → Rat) : Nat → Rat := (s.cl r s.m).2
noncomputable def Sp.nil : Sp := ⟨0, fun _ => 0, fun _ _ => 0, fun _ _ => 0⟩
noncomputable def Sp.add (s : Sp) (p : Nat) (r : Nat → Rat) : Sp where
  m := s.m + 1
  P := fun i => if i = s.m then p else s.P i
  S := fun i => if i = s.m then fun k => s.left r k / s.left r p else s.S i
  H := fun i => if i = s.m then fun j => if j < s.m then (0 - s.by r j) / s.left r p else if j = s.m then 1 / s.left r p else 0 else s.H i
structure Sp.Good (s : Sp) (n : Nat) (K : Nat → Nat → Rat) : Prop where
  pl : ∀ i, i < s.m → s.P i < n
  one : ∀ i, i < s.m → s.S i (s.P i) = 1
  zer : ∀ i j, i < j → j < s.m → s.S j (s.P i) = 0
  hz : ∀ i j, i < s.m → i < j → s.H i j = 0
  how : ∀ i k, i < s.m → k < n → s.S i k = sumR s.m fun j => s.H i j * K j k
  back : ∀ i, i < s.m → ∃ a : Nat → Rat, ∀ k, k < n → K i k = sumR s.m fun j => a j * s.S j k
theorem Sp.Good.nil {n : Nat} {K : Nat → Nat → Rat} : Sp.nil.Good n K :=
  ⟨fun i h => absurd h (Nat.not_lt_zero _), fun i h => absurd h (Nat.not_lt_zero _), fun i j _ h => absurd h (Nat.not_lt_zero _), fun i j h => absurd h (Nat.not_lt_zero _), fun i k h => absurd h (Nat.not_lt_zero _), fun i h => absurd h (Nat.not_lt_zero _)⟩

section
variable {s : Sp} {n : Nat} {K : Nat → Nat → Rat} {r : Nat → Rat}
theorem Sp.Good.sum (g : s.Good n K) : ∀ i, i ≤ s.m → ∀ k, k < n → (s.cl r i).1 k + sumR s.m (fun j => (s.cl r i).2 j * K j k) = r k
  | 0, _, k, hk => by
    rw [sumR_zero fun j _ => by show (0 : Rat) * _ = 0; grind]
    show r k + 0 = r k; grind
  | i + 1, hi, k, hk => by
    have ih := g.sum i (by omega) k hk
    show (s.cl r i).1 k - (s.cl r i).1 (s.P i) * s.S i k + sumR s.m (fun j => ((s.cl r i).2 j + (s.cl r i).1 (s.P i) * s.H i j) * K j k) = r k
    rw [sumR_congr (g := fun j => (s.cl r i).2 j * K j k + (s.cl r i).1 (s.P i) * (s.H i j * K j k)) (fun j _ => by grind), sumR_add, sumR_mul, ← g.how i k (by omega) hk]
    grind
theorem Sp.Good.zero (g : s.Good n K) : ∀ i, i ≤ s.m → ∀ j, j < i → (s.cl r i).1 (s.P j) = 0
  | 0, _, j, hj => by omega
  | i + 1, hi, j, hj => by
    show (s.cl r i).1 (s.P j) - (s.cl r i).1 (s.P i) * s.S i (s.P j) = 0
    by_cases e : j = i
    · subst e; rw [g.one j (by omega)]; grind
    · rw [g.zero i (by omega) j (by omega), g.zer j i (by omega) (by omega)]; grind
theorem back_all {m n : Nat} {K S : Nat → Nat → Rat} (b : Nat → Rat) : ∀ i, i ≤ m → (∀ i, i < m → ∃ a : Nat → Rat, ∀ k, k < n → K i k = sumR m fun j => a j * S j k) → ∃ e : Nat → Rat, ∀ k, k < n → sumR i (fun j => b j * K j k) = sumR m fun j => e j * S j k
  | 0, _, _ => ⟨fun _ => 0, fun k _ => by rw [sumR_zero (n := m) fun j _ => by grind]; rfl⟩
  | i + 1, hi, h => by
    obtain ⟨e, he⟩ := back_all b i (by omega) h
    obtain ⟨a, ha⟩ := h i (by omega)
    refine ⟨fun j => e j + b i * a j, fun k hk => ?_⟩
    rw [sumR_succ, he k hk, ha k hk, ← sumR_mul, ← sumR_add]
    exact sumR_congr fun j _ => by grind
theorem Sp.Good.inspan (g : s.Good n K) (a : Nat → Rat) (h : ∀ k, k < n → r k = sumR s.m fun j => a j * K j k) : ∀ k, k < n → s.left r k = 0 := by
  obtain ⟨e, he⟩ := back_all (m := s.m) (n := n) (K := K) (S := s.S) (fun j => a j - s.by r j) s.m (Nat.le_refl _) g.back
  have key : ∀ k, k < n → s.left r k = sumR s.m fun j => e j * s.S j k := fun k hk => by
    have h1 := g.sum (r := r) s.m (Nat.le_refl _) k hk
    have h2 := he k hk
    rw [h k hk] at h1
    rw [← h2, sumR_congr (g := fun j => a j * K j k + (-1) * (s.by r j * K j k)) (fun j _ => by grind), sumR_add, sumR_mul]
    unfold Sp.left Sp.by; grind
  have ez : ∀ t j, j < t → j < s.m → e j = 0 := by
    intro t
    induction t with
    | zero => intro j h _; omega
    | succ t ih =>
      intro j hj hm
      have h1 := g.zero (r := r) s.m (Nat.le_refl _) j hm
      have h2 := key (s.P j) (g.pl j hm)
      unfold Sp.left at h2
      rw [h1, sumR_one hm fun i hi hne => ?_, g.one j hm] at h2
      · grind
      · by_cases hl : i < j
        · rw [ih i (by omega) hi]; grind
        · rw [g.zer j i (by omega) hi]; grind
  intro k hk
  rw [key k hk]
  exact sumR_zero fun j hj => by rw [ez s.m j hj hj]; grind

noncomputable def addK (m : Nat) (K : Nat → Nat → Rat) (r : Nat → Rat) : Nat → Nat → Rat := fun i => if i = m then r else K i
theorem Sp.Good.add (g : s.Good n K) {p : Nat} (hp : p < n) (h0 : s.left r p ≠ 0) : (s.add p r).Good n (addK s.m K r) := by
  have sm : (s.add p r).m = s.m + 1 := rfl
  have eP : ∀ i, i < s.m → (s.add p r).P i = s.P i := fun i h => if_neg (by omega)
  have eS : ∀ i, i < s.m → (s.add p r).S i = s.S i := fun i h => if_neg (by omega)
  have eH : ∀ i, i < s.m → (s.add p r).H i = s.H i := fun i h => if_neg (by omega)
  have eK : ∀ i, i < s.m → addK s.m K r i = K i := fun i h => if_neg (by omega)
  have nP : (s.add p r).P s.m = p := if_pos rfl
  have nS : (s.add p r).S s.m = fun k => s.left r k / s.left r p := if_pos rfl
  have nH : (s.add p r).H s.m = fun j => if j < s.m then (0 - s.by r j) / s.left r p else if j = s.m then 1 / s.left r p else 0 := if_pos rfl
  have nK : addK s.m K r s.m = r := if_pos rfl
  have tot : ∀ k, k < n → s.left r k + sumR s.m (fun j => s.by r j * K j k) = r k := fun k hk => g.sum s.m (Nat.le_refl _) k hk
  refine ⟨fun i hi => ?_, fun i hi => ?_, fun i j hi hj => ?_, fun i j hi hj => ?_, fun i k hi hk => ?_, fun i hi => ?_⟩
  · by_cases e : i = s.m
    · subst e; rw [nP]; exact hp
    · rw [eP i (by omega)]; exact g.pl i (by omega)
  · by_cases e : i = s.m
    · subst e; rw [nP, nS]; grind
    · rw [eP i (by omega), eS i (by omega)]; exact g.one i (by omega)
  · by_cases e : j = s.m
    · subst e
      rw [eP i hi, nS]
      have : s.left r (s.P i) = 0 := g.zero s.m (Nat.le_refl _) i hi
      show s.left r (s.P i) / _ = 0
      rw [this]; grind
    · rw [eP i (by omega), eS j (by omega)]; exact g.zer i j hi (by omega)
  · by_cases e : i = s.m
    · subst e; rw [nH]; show (if j < s.m then _ else _) = _; rw [if_neg (by omega), if_neg (by omega)]
    · rw [eH i (by omega)]; exact g.hz i j (by omega) hj
  · rw [sm]
    by_cases e : i = s.m
    · subst e
      rw [sumR_succ, nS, nH, nK]
      have : sumR s.m (fun j => (if j < s.m then (0 - s.by r j) / s.left r p else if j = s.m then 1 / s.left r p else 0) * addK s.m K r j k) = (-1 / s.left r p) * sumR s.m (fun j => s.by r j * K j k) := by
        rw [← sumR_mul]; exact sumR_congr fun j hj => by rw [if_pos hj, eK j hj]; grind
      rw [this]
      show s.left r k / s.left r p = _ + (if s.m < s.m then _ else if s.m = s.m then _ else _) * _
      rw [if_neg (Nat.lt_irrefl _), if_pos rfl]
      exact alg1 h0 (tot k hk)
    · rw [sumR_succ, eS i (by omega), eH i (by omega), g.hz i s.m (by omega) (by omega), sumR_congr (g := fun j => s.H i j * K j k) (fun j hj => by rw [eK j hj]), g.how i k (by omega) hk]
      exact (alg0 _ _).symm
  · rw [sm]
    by_cases e : i = s.m
    · subst e
      obtain ⟨a, ha⟩ := back_all (m := s.m) (n := n) (K := K) (S := s.S) (fun j => s.by r j) s.m (Nat.le_refl _) g.back
      refine ⟨fun j => if j = s.m then s.left r p else a j, fun k hk => ?_⟩
      rw [sumR_succ, nK, nS, show (fun j => if j = s.m then s.left r p else a j) s.m = s.left r p from if_pos rfl, sumR_congr (g := fun j => a j * s.S j k) (fun j hj => by rw [show (fun j => if j = s.m then s.left r p else a j) j = a j from if_neg (by omega), eS j hj]), ← ha k hk]
      exact alg2 h0 (tot k hk)
    · obtain ⟨a, ha⟩ := g.back i (by omega)
      refine ⟨fun j => if j = s.m then 0 else a j, fun k hk => ?_⟩
      rw [sumR_succ, eK i (by omega), show (fun j => if j = s.m then 0 else a j) s.m = 0 from if_pos rfl, sumR_congr (g := fun j => a j * s.S j k) (fun j hj => by rw [show (fun j => if j = s.m then 0 else a j) j = a j from if_neg (by omega), eS j hj]), ← ha k hk]
      exact (alg0 _ _).symm

theorem inj_le : ∀ (n m : Nat) (f : Nat → Nat), (∀ i, i < m → f i < n) → (∀ i j, i < j → j < m → f i ≠ f j) → m ≤ n
  | 0, m, f, h, _ => by
    cases m with
    | zero => exact Nat.le_refl _
    | succ m => exact absurd (h 0 (by omega)) (Nat.not_lt_zero _)
  | n + 1, m, f, h, hi => by
    cases m with
    | zero => omega
    | succ m =>
      -- the last one's value is moved away
      have := inj_le n m (fun i => if f i = n then f m else f i) (fun i hm => by
        have h1 := h i (by omega); have h2 := h m (by omega); have h3 := hi i m (by omega) (by omega)
        show (if f i = n then f m else f i) < n; split <;> omega) (fun i j hij hm => by
        have h1 := hi i j hij (by omega); have h2 := hi i m (by omega) (by omega); have h3 := hi j m (by omega) (by omega)
        show (if f i = n then f m else f i) ≠ (if f j = n then f m else f j); split <;> split <;> omega)
      omega
theorem Sp.Good.few (g : s.Good n K) : s.m ≤ n := inj_le n s.m s.P g.pl fun i j hij hj e => by
  have h1 := g.one j hj
  have h2 := g.zer i j hij hj
  rw [e, h1] at h2
  exact absurd h2 (by decide)
end

/-! ranks -/
noncomputable abbrev IRow := Nat → Int
noncomputable def lin : List (Rat × IRow) → Nat → Rat
  | [], _ => 0
  | x :: r, k => x.1 * (x.2 k : Rat) + lin r k
noncomputable def Ind (n : Nat) (rows : List IRow) : Prop := ∀ cr : List (Rat × IRow), cr.map Prod.snd = rows → (∀ k, k < n → lin cr k = 0) → ∀ x ∈ cr, x.1 = 0
theorem lin_app (a b : List (Rat × IRow)) (k : Nat) : lin (a ++ b) k = lin a k + lin b k := by
  induction a with
  | nil => show lin b k = 0 + _; grind
  | cons x a ih => show _ + lin (a ++ b) k = _ + lin a k + _; rw [ih]; grind
theorem lin_split (q : IRow → Bool) (cr : List (Rat × IRow)) (k : Nat) : lin cr k = lin (cr.filter fun x => q x.2) k + lin (cr.filter fun x => !q x.2) k := by
  induction cr with
  | nil => show (0 : Rat) = 0 + 0; grind
  | cons x cr ih =>
    by_cases h : q x.2 = true
    · rw [List.filter_cons_of_pos (by simpa using h), List.filter_cons_of_neg (by simp [h])]; show _ + lin cr k = _ + lin _ k + _; rw [ih]; grind
    · rw [List.filter_cons_of_neg (by simpa using h), List.filter_cons_of_pos (by simpa using h)]; show _ + lin cr k = _ + (_ + lin _ k); rw [ih]; grind
theorem snd_filter (q : IRow → Bool) (cr : List (Rat × IRow)) : (cr.filter fun x => q x.2).map Prod.snd = (cr.map Prod.snd).filter q := by
  rw [List.filter_map]; rfl
theorem merge (q : IRow → Bool) : ∀ (rows : List IRow) (a b : List (Rat × IRow)), a.map Prod.snd = rows.filter q → b.map Prod.snd = rows.filter (fun r => !q r) → ∃ cr, cr.map Prod.snd = rows ∧ (∀ k, lin cr k = lin a k + lin b k) ∧ (∀ x, x ∈ a → x ∈ cr) ∧ (∀ x, x ∈ b → x ∈ cr)
  | [], a, b, ha, hb => by
    have ha' : a = [] := by simpa using ha
    have hb' : b = [] := by simpa using hb
    subst ha'; subst hb'
    exact ⟨[], rfl, fun k => by show (0 : Rat) = 0 + 0; grind, fun x h => h, fun x h => h⟩
  | r :: rows, a, b, ha, hb => by
    by_cases h : q r = true
    · rw [List.filter_cons_of_pos h] at ha
      rw [List.filter_cons_of_neg (by simp [h])] at hb
      cases a with
      | nil => cases ha
      | cons x a =>
        rw [List.map_cons, List.cons.injEq] at ha
        obtain ⟨cr, e, l, m1, m2⟩ := merge q rows a b ha.2 hb
        refine ⟨x :: cr, by rw [List.map_cons, e, ha.1], fun k => by show _ + lin cr k = _ + lin a k + _; rw [l]; grind, fun y hy => ?_, fun y hy => .tail _ (m2 y hy)⟩
        rcases List.mem_cons.mp hy with rfl | hy
        · exact .head _
        · exact .tail _ (m1 y hy)
    · rw [List.filter_cons_of_neg h] at ha
      rw [List.filter_cons_of_pos (by simpa using h)] at hb
      cases b with
      | nil => cases hb
      | cons x b =>
        rw [List.map_cons, List.cons.injEq] at hb
        obtain ⟨cr, e, l, m1, m2⟩ := merge q rows a b ha hb.2
        refine ⟨x :: cr, by rw [List.map_cons, e, hb.1], fun k => by show _ + lin cr k = lin a k + (_ + lin b k); rw [l]; grind, fun y hy => .tail _ (m1 y hy), fun y hy => ?_⟩
        rcases List.mem_cons.mp hy with rfl | hy
        · exact .head _
        · exact .tail _ (m2 y hy)

noncomputable abbrev headsAt (p : Nat) (l : List IRow) : List IRow := l.filter fun r => r p != 0
noncomputable abbrev restAt (p : Nat) (l : List IRow) : List IRow := l.filter fun r => r p == 0
noncomputable def crossR (p : Nat) (f r : IRow) : IRow := fun k => f p * r k - r p * f k
noncomputable def rkNew (p : Nat) (l : List IRow) : List IRow := match headsAt p l with
  | [] => restAt p l
  | f :: hs => restAt p l ++ hs.map (crossR p f)
noncomputable def rkL (rows : List IRow) : Nat → List IRow
  | 0 => rows
  | p + 1 => rkNew p (rkL rows p)
noncomputable def rkF (rows : List IRow) : Nat → Nat
  | 0 => 0
  | p + 1 => rkF rows p + if (headsAt p (rkL rows p)).isEmpty then 0 else 1

theorem rest_eq (p : Nat) (l : List IRow) : restAt p l = l.filter fun r => !(r p != 0) := by
  unfold restAt; congr 1; funext r; cases h : (r p == 0) <;> simp [bne, h]
theorem two_len (p : Nat) (l : List IRow) : (headsAt p l).length + (restAt p l).length = l.length := by
  induction l with
  | nil => rfl
  | cons r l ih =>
    by_cases h : r p = 0
    · rw [headsAt, List.filter_cons_of_neg (by simp [h]), restAt, List.filter_cons_of_pos (by simp [h]), List.length_cons, List.length_cons]
      unfold headsAt restAt at ih; omega
    · rw [headsAt, List.filter_cons_of_pos (by simp [h]), restAt, List.filter_cons_of_neg (by simp [h]), List.length_cons, List.length_cons]
      unfold headsAt restAt at ih; omega
theorem rk_len (rows : List IRow) : ∀ p, rkF rows p + (rkL rows p).length = rows.length
  | 0 => by show 0 + rows.length = _; omega
  | p + 1 => by
    have ih := rk_len rows p
    have h2 := two_len p (rkL rows p)
    show rkF rows p + (if (headsAt p (rkL rows p)).isEmpty then 0 else 1) + (rkNew p (rkL rows p)).length = _
    unfold rkNew
    cases h : headsAt p (rkL rows p) with
    | nil => rw [h] at h2; dsimp only [List.isEmpty, List.length] at h2 ⊢; rw [if_pos rfl]; omega
    | cons f hs => rw [h] at h2; dsimp only [List.isEmpty] at h2 ⊢; rw [List.length_append, List.length_map, if_neg (by simp)]; rw [List.length_cons] at h2; omega
theorem rk_zero (rows : List IRow) : ∀ p, ∀ r ∈ rkL rows p, ∀ k, k < p → r k = 0
  | 0, r, _, k, hk => by omega
  | p + 1, r, hr, k, hk => by
    have ih := rk_zero rows p
    replace hr : r ∈ rkNew p (rkL rows p) := hr
    have old : ∀ r ∈ restAt p (rkL rows p), r k = 0 := fun r hr => by
      obtain ⟨h1, h2⟩ := List.mem_filter.mp hr
      by_cases e : k = p
      · subst e; simpa using h2
      · exact ih r h1 k (by omega)
    unfold rkNew at hr
    cases h : headsAt p (rkL rows p) with
    | nil => rw [h] at hr; exact old r hr
    | cons f hs =>
      rw [h] at hr
      rcases List.mem_append.mp hr with hr | hr
      · exact old r hr
      · obtain ⟨x, hx, rfl⟩ := List.mem_map.mp hr
        have m1 : f ∈ rkL rows p := (List.mem_filter.mp (show f ∈ headsAt p (rkL rows p) by rw [h]; exact .head _)).1
        have m2 : x ∈ rkL rows p := (List.mem_filter.mp (show x ∈ headsAt p (rkL rows p) by rw [h]; exact .tail _ hx)).1
        unfold crossR
        by_cases e : k = p
        · subst e; rw [Int.mul_comm]; omega
        · rw [ih f m1 k (by omega), ih x m2 k (by omega)]; simp

noncomputable def mulC (c : Rat) (l : List (Rat × IRow)) : List (Rat × IRow) := l.map fun x => (c * x.1, x.2)
theorem lin_mulC (c : Rat) (l : List (Rat × IRow)) (k : Nat) : lin (mulC c l) k = c * lin l k := by
  induction l with
  | nil => show (0 : Rat) = c * 0; grind
  | cons x l ih => show c * x.1 * _ + lin (mulC c l) k = c * (_ + lin l k); rw [ih]; grind
theorem snd_mulC (c : Rat) (l : List (Rat × IRow)) : (mulC c l).map Prod.snd = l.map Prod.snd := by
  unfold mulC; rw [List.map_map]; rfl
/-- the sum of the coefficients times the heads -/
noncomputable def crossL (p : Nat) (f : IRow) (l : List (Rat × IRow)) : List (Rat × IRow) := l.map fun x => (x.1, crossR p f x.2)
theorem lin_crossL (p : Nat) (f : IRow) (l : List (Rat × IRow)) (k : Nat) : lin (crossL p f l) k = (f p : Rat) * lin l k - lin l p * (f k : Rat) := by
  induction l with
  | nil => show (0 : Rat) = _ * 0 - 0 * _; grind
  | cons x l ih =>
    show x.1 * ((f p * x.2 k - x.2 p * f k : Int) : Rat) + lin (crossL p f l) k = _ * (x.1 * _ + lin l k) - (x.1 * _ + lin l p) * _
    rw [ih, Rat.intCast_sub, Rat.intCast_mul, Rat.intCast_mul]; grind
theorem lin_rest {p : Nat} {l : List (Rat × IRow)} (h : ∀ x ∈ l, x.2 p = 0) : lin l p = 0 := by
  induction l with
  | nil => rfl
  | cons x l ih => show _ * ((x.2 p : Int) : Rat) + lin l p = 0; rw [ih fun y hy => h y (.tail _ hy), h x (.head _)]; grind
theorem unmap {f : IRow → IRow} : ∀ (c2 : List (Rat × IRow)) (hs : List IRow), c2.map Prod.snd = hs.map f → ∃ cs : List (Rat × IRow), cs.map Prod.snd = hs ∧ c2 = cs.map fun x => (x.1, f x.2)
  | [], [], _ => ⟨[], rfl, rfl⟩
  | [], _ :: _, h => by cases h
  | _ :: _, [], h => by cases h
  | x :: c2, r :: hs, h => by
    rw [List.map_cons, List.map_cons, List.cons.injEq] at h
    obtain ⟨cs, e1, e2⟩ := unmap c2 hs h.2
    exact ⟨(x.1, r) :: cs, by rw [List.map_cons, e1], by rw [List.map_cons, ← e2, ← h.1]⟩

theorem ind_step {n p : Nat} (hp : p < n) (l : List IRow) : Ind n (rkNew p l) ↔ Ind n l := by
  have re := rest_eq p l
  cases h : headsAt p l with
  | nil =>
    have e : rkNew p l = l := by
      have h2 := two_len p l
      unfold rkNew; rw [h] at h2 ⊢
      exact List.filter_eq_self.mpr fun r hr => by
        cases q : (r p == 0) with
        | true => rfl
        | false =>
          have : r ∈ headsAt p l := List.mem_filter.mpr ⟨hr, by simp [bne, q]⟩
          rw [h] at this; cases this
    rw [e]
  | cons f hs =>
    have f0 : (f p : Rat) ≠ 0 := by
      have : f ∈ headsAt p l := by rw [h]; exact .head _
      have := (List.mem_filter.mp this).2
      simp only [bne_iff_ne, ne_eq] at this
      intro q; exact this (by exact_mod_cast q)
    have e : rkNew p l = restAt p l ++ hs.map (crossR p f) := by unfold rkNew; rw [h]
    rw [e]
    constructor
    · intro I cr hc hz
      -- a relation of the old gives one of the new
      have e1 : (cr.filter fun x => x.2 p != 0).map Prod.snd = f :: hs := by rw [snd_filter (fun r => r p != 0), hc]; exact h
      have e2 : (cr.filter fun x => !(x.2 p != 0)).map Prod.snd = restAt p l := by rw [snd_filter (fun r => !(r p != 0)), hc, re]
      have sp := lin_split (fun r : IRow => r p != 0) cr
      generalize ha : (cr.filter fun x => x.2 p != 0) = ch at e1 sp
      generalize hb : (cr.filter fun x => !(x.2 p != 0)) = cz at e2 sp
      cases ch with
      | nil => cases e1
      | cons x cs =>
        rw [List.map_cons, List.cons.injEq] at e1
        obtain ⟨ef, eh⟩ := e1
        have zr : lin cz p = 0 := lin_rest fun y hy => by
          rw [← hb] at hy
          have := (List.mem_filter.mp hy).2
          simpa using this
        have new := I (mulC (f p) cz ++ crossL p f cs) (by rw [List.map_append, snd_mulC, e2]; unfold crossL; rw [List.map_map, ← eh, List.map_map]; rfl) fun k hk => by
          rw [lin_app, lin_mulC, lin_crossL]
          have h1 := hz k hk; have h2 := hz p hp
          rw [sp] at h1 h2
          replace h1 : x.1 * (x.2 k : Rat) + lin cs k + lin cz k = 0 := h1
          replace h2 : x.1 * (x.2 p : Rat) + lin cs p + lin cz p = 0 := h2
          rw [ef] at h1 h2; grind
        have zc : ∀ y ∈ cs, y.1 = 0 := fun y hy => new (y.1, crossR p f y.2) (List.mem_append.mpr (.inr (List.mem_map.mpr ⟨y, hy, rfl⟩)))
        have zz : ∀ y ∈ cz, y.1 = 0 := fun y hy => by
          have := new (f p * y.1, y.2) (List.mem_append.mpr (.inl (List.mem_map.mpr ⟨y, hy, rfl⟩)))
          grind
        have lz : ∀ (l : List (Rat × IRow)) k, (∀ y ∈ l, y.1 = 0) → lin l k = 0 := fun l k hl => by
          induction l with
          | nil => rfl
          | cons y l ih => show y.1 * _ + lin l k = 0; rw [hl y (.head _), ih fun z hz => hl z (.tail _ hz)]; grind
        have zx : x.1 = 0 := by
          have h2 := hz p hp
          rw [sp] at h2
          replace h2 : x.1 * (x.2 p : Rat) + lin cs p + lin cz p = 0 := h2
          rw [lz cs p zc, zr, ef] at h2
          grind
        intro y hy
        by_cases hq : (y.2 p != 0) = true
        · have : y ∈ x :: cs := by rw [← ha]; exact List.mem_filter.mpr ⟨hy, hq⟩
          rcases List.mem_cons.mp this with rfl | m
          · exact zx
          · exact zc y m
        · exact zz y (by rw [← hb]; exact List.mem_filter.mpr ⟨hy, by simpa using hq⟩)
    · intro I cr hc hz
      obtain ⟨c1, c2, rfl, e1, e2⟩ := List.map_eq_append_iff.mp hc
      obtain ⟨cs, es, rfl⟩ := unmap c2 hs e2
      obtain ⟨old, eo, lo, m1, m2⟩ := merge (fun r : IRow => r p != 0) l ((-(lin cs p), f) :: mulC (f p) cs) c1 (by rw [List.map_cons, snd_mulC, es]; exact h.symm) (by rw [e1, re])
      have zo := I old eo fun k hk => by
        rw [lo]
        have h1 := hz k hk
        rw [lin_app, show (cs.map fun x => (x.1, crossR p f x.2)) = crossL p f cs from rfl, lin_crossL] at h1
        show -(lin cs p) * (f k : Rat) + lin (mulC (f p) cs) k + lin c1 k = 0
        rw [lin_mulC]; grind
      intro y hy
      rcases List.mem_append.mp hy with hy | hy
      · exact zo y (m2 y hy)
      · obtain ⟨x, hx, rfl⟩ := List.mem_map.mp hy
        have := zo (f p * x.1, x.2) (m1 _ (.tail _ (List.mem_map.mpr ⟨x, hx, rfl⟩)))
        show x.1 = 0
        grind
theorem ind_rk {n : Nat} (rows : List IRow) : ∀ p, p ≤ n → (Ind n (rkL rows p) ↔ Ind n rows)
  | 0, _ => Iff.rfl
  | p + 1, hp => (ind_step (by omega) (rkL rows p)).trans (ind_rk rows p (by omega))
theorem ind_full {n : Nat} (rows : List IRow) : rkF rows n = rows.length ↔ Ind n rows := by
  have h1 := rk_len rows n
  rw [← ind_rk rows n (Nat.le_refl n)]
  constructor
  · intro h cr hc _ x hx
    have e : rkL rows n = [] := List.eq_nil_of_length_eq_zero (by omega)
    rw [e] at hc
    have : cr = [] := by simpa using hc
    subst this; cases hx
  · intro I
    have hz := rk_zero rows n
    cases h : rkL rows n with
    | nil => rw [h] at h1; simpa using h1
    | cons r rs =>
      exfalso
      rw [h] at I hz
      have lz : ∀ (l : List IRow) k, (∀ y ∈ l, y k = 0) → lin (l.map fun r => ((1 : Rat), r)) k = 0 := fun l k hl => by
        induction l with
        | nil => rfl
        | cons y l ih => show (1 : Rat) * ((y k : Int) : Rat) + lin (l.map fun r => ((1 : Rat), r)) k = 0; rw [hl y (.head _), ih fun z hz => hl z (.tail _ hz)]; grind
      have := I ((r :: rs).map fun r => ((1 : Rat), r)) (by rw [List.map_map]; exact List.map_id _) (fun k hk => lz _ k fun y hy => hz y hy k hk) (1, r) (.head _)
      exact absurd this (show ¬ ((1 : Rat) = 0) by decide)
theorem rk_le (rows : List IRow) (n : Nat) : rkF rows n ≤ rows.length := by have := rk_len rows n; omega

/-! the span and the rank -/
theorem lin_range {T : Nat → IRow} : ∀ (m : Nat) (c1 : List (Rat × IRow)), c1.map Prod.snd = (List.range m).map T → ∀ k, lin c1 k = sumR m fun i => (c1.getD i (0, fun _ => 0)).1 * (T i k : Rat)
  | 0, c1, h, k => by
    have : c1 = [] := by simpa using h
    subst this; rfl
  | m + 1, c1, h, k => by
    rw [List.range_succ, List.map_append] at h
    obtain ⟨a, b, rfl, e1, e2⟩ := List.map_eq_append_iff.mp h
    have la : a.length = m := by have := congrArg List.length e1; simpa using this
    obtain ⟨x, rfl⟩ : ∃ x, b = [x] := List.length_eq_one_iff.mp (by have := congrArg List.length e2; simpa using this)
    have ex : x.2 = T m := by simpa using e2
    rw [lin_app, lin_range m a e1 k]
    show _ + (x.1 * (x.2 k : Rat) + 0) = sumR m _ + _
    rw [sumR_congr (g := fun i => ((a ++ [x]).getD i (0, fun _ => 0)).1 * (T i k : Rat)) (fun i hi => by simp [List.getD_eq_getElem?_getD, List.getElem?_append_left (show i < a.length by omega)]), ex]
    simp [List.getD_eq_getElem?_getD, List.getElem?_append_right (show a.length ≤ m by omega), la]
    grind
/-- kept rows are whole rows over scales -/
structure Kept (n m : Nat) (T : Nat → IRow) (D : Nat → Int) (K : Nat → Nat → Rat) : Prop where
  pos : ∀ i, i < m → 0 < D i
  eq : ∀ i k, i < m → k < n → K i k = (T i k : Rat) / (D i : Rat)
section
variable {s : Sp} {n : Nat} {K : Nat → Nat → Rat} {r : Nat → Rat} {T : Nat → IRow} {D : Nat → Int} {t : IRow} {d : Int}
theorem cast_ne {d : Int} (h : 0 < d) : (d : Rat) ≠ 0 := fun q => by
  have : d = 0 := by exact_mod_cast q
  omega
theorem due_iff (g : s.Good n K) (k : Kept n s.m T D K) (hd : 0 < d) (hr : ∀ j, j < n → r j = (t j : Rat) / (d : Rat)) (I : Ind n ((List.range s.m).map T)) :
    Ind n ((List.range s.m).map T ++ [t]) ↔ ¬ ∀ j, j < n → s.left r j = 0 := by
  have d0 := cast_ne hd
  constructor
  · intro J h0
    have tot : ∀ j, j < n → sumR s.m (fun i => s.by r i * K i j) = r j := fun j hj => by
      have := g.sum (r := r) s.m (Nat.le_refl _) j hj
      rw [show (s.cl r s.m).1 j = 0 from h0 j hj] at this
      show sumR s.m (fun i => (s.cl r s.m).2 i * K i j) = _
      grind
    have := J (((List.range s.m).map fun i => (s.by r i / (D i : Rat), T i)) ++ [(-1 / (d : Rat), t)]) (by simp [Function.comp_def]) (fun j hj => by
      rw [lin_app, lin_range (T := T) s.m _ (by simp [Function.comp_def]) j]
      show _ + (-1 / (d : Rat) * (t j : Rat) + 0) = 0
      rw [sumR_congr (g := fun i => s.by r i * K i j) (fun i hi => ?_), tot j hj, hr j hj]
      · grind
      · have := cast_ne (k.pos i hi)
        simp only [List.getD_eq_getElem?_getD, List.getElem?_map, List.getElem?_range hi, Option.map_some, Option.getD_some]
        rw [k.eq i j hi hj]; grind) (-1 / (d : Rat), t) (List.mem_append.mpr (.inr (.head _)))
    replace this : -1 / (d : Rat) = 0 := this
    grind
  · intro h0 cr hc hz
    obtain ⟨c1, c2, rfl, e1, e2⟩ := List.map_eq_append_iff.mp hc
    obtain ⟨x, rfl⟩ : ∃ x, c2 = [x] := List.length_eq_one_iff.mp (by have := congrArg List.length e2; simpa using this)
    have ex : x.2 = t := by simpa using e2
    by_cases hx : x.1 = 0
    · have z1 := I c1 e1 fun j hj => by
        have := hz j hj
        rw [lin_app] at this
        replace this : lin c1 j + (x.1 * (x.2 j : Rat) + 0) = 0 := this
        rw [hx] at this; grind
      intro y hy
      rcases List.mem_append.mp hy with hy | hy
      · exact z1 y hy
      · have : y = x := by simpa using hy
        rw [this]; exact hx
    · exfalso; apply h0
      refine g.inspan (fun i => -(c1.getD i (0, fun _ => 0)).1 * (D i : Rat) / (x.1 * (d : Rat))) fun j hj => ?_
      have := hz j hj
      rw [lin_app, lin_range s.m c1 e1 j] at this
      replace this : _ + (x.1 * (x.2 j : Rat) + 0) = 0 := this
      rw [ex] at this
      rw [sumR_congr (g := fun i => (-1 / (x.1 * (d : Rat))) * ((c1.getD i (0, fun _ => 0)).1 * (T i j : Rat))) (fun i hi => by have := cast_ne (k.pos i hi); rw [k.eq i j hi hj]; grind), sumR_mul, hr j hj]
      grind
end
end Mine

namespace Mine

theorem num_den (q : Rat) : q = (q.num : Rat) / ((q.den : Int) : Rat) := by
  have := Rat.num_divInt_den q
  rw [Rat.divInt_eq_div] at this
  exact this.symm
theorem den_ne (q : Rat) : ((q.den : Int) : Rat) ≠ 0 := fun h => by
  have : (q.den : Int) = 0 := by exact_mod_cast h
  have := q.den_nz
  omega
theorem int_ne {b : Int} (h : b ≠ 0) : (b : Rat) ≠ 0 := fun q => h (by exact_mod_cast q)
theorem div_cross {t b : Int} (h : b ≠ 0) : t * (((t : Rat) / (b : Rat)).den : Int) = ((t : Rat) / (b : Rat)).num * b := by
  have e := num_den ((t : Rat) / (b : Rat))
  have d := den_ne ((t : Rat) / (b : Rat))
  have b0 := int_ne h
  generalize ((t : Rat) / (b : Rat)).num = n at *
  generalize (((t : Rat) / (b : Rat)).den : Int) = m at *
  have : (t : Rat) * (m : Rat) = (n : Rat) * (b : Rat) := by grind
  exact_mod_cast this
theorem div_small {t b : Int} (h : b ≠ 0) : ((t : Rat) / (b : Rat)).num.natAbs ≤ t.natAbs ∧ ((t : Rat) / (b : Rat)).den ≤ b.natAbs := by
  rw [← Rat.divInt_eq_div, Rat.num_divInt, Rat.den_divInt, if_neg h]
  refine ⟨?_, Nat.div_le_self _ _⟩
  have hs : b.sign.natAbs = 1 := by rw [Int.natAbs_sign, if_neg h]
  have : (b.sign * t).natAbs = t.natAbs := by rw [Int.natAbs_mul, hs, Nat.one_mul]
  refine Nat.le_trans ?_ (Nat.le_of_eq this)
  exact Int.natAbs_ediv_le_natAbs _ _

/-- sizes: at most k bits above and below -/
noncomputable def Bz (k : Nat) (q : Rat) : Prop := q.num.natAbs ≤ 2 ^ k ∧ q.den ≤ 2 ^ k
theorem Bz.mono {a b : Nat} {q : Rat} (h : Bz a q) (e : a ≤ b) : Bz b q := ⟨Nat.le_trans h.1 (Nat.pow_le_pow_right (by decide) e), Nat.le_trans h.2 (Nat.pow_le_pow_right (by decide) e)⟩
theorem Bz.div_int {k : Nat} {t b : Int} (h : b ≠ 0) (ht : t.natAbs ≤ 2 ^ k) (hb : b.natAbs ≤ 2 ^ k) : Bz k ((t : Rat) / (b : Rat)) := by
  obtain ⟨h1, h2⟩ := div_small (t := t) h
  exact ⟨Nat.le_trans h1 ht, Nat.le_trans h2 hb⟩
theorem nat_mul_le {x y a b : Nat} (h : x ≤ 2 ^ a) (h' : y ≤ 2 ^ b) : x * y ≤ 2 ^ (a + b) := by rw [Nat.pow_add]; exact Nat.mul_le_mul h h'
theorem mul_eq (x y : Rat) : x * y = ((x.num * y.num : Int) : Rat) / (((x.den : Int) * (y.den : Int) : Int) : Rat) := by
  conv => lhs; rw [num_den x, num_den y]
  have := den_ne x; have := den_ne y
  rw [Rat.intCast_mul, Rat.intCast_mul]; grind
theorem add_eq (x y : Rat) : x + y = ((x.num * (y.den : Int) + y.num * (x.den : Int) : Int) : Rat) / (((x.den : Int) * (y.den : Int) : Int) : Rat) := by
  conv => lhs; rw [num_den x, num_den y]
  have := den_ne x; have := den_ne y
  rw [Rat.intCast_add, Rat.intCast_mul, Rat.intCast_mul, Rat.intCast_mul]; grind
theorem sub_eq (x y : Rat) : x - y = ((x.num * (y.den : Int) - y.num * (x.den : Int) : Int) : Rat) / (((x.den : Int) * (y.den : Int) : Int) : Rat) := by
  conv => lhs; rw [num_den x, num_den y]
  have := den_ne x; have := den_ne y
  rw [Rat.intCast_sub, Rat.intCast_mul, Rat.intCast_mul, Rat.intCast_mul]; grind
theorem num_ne {y : Rat} (h : y ≠ 0) : y.num ≠ 0 := fun e => h (Rat.num_eq_zero.mp e)
theorem div_eq (x : Rat) {y : Rat} (h : y ≠ 0) : x / y = ((x.num * (y.den : Int) : Int) : Rat) / (((x.den : Int) * y.num : Int) : Rat) := by
  have n0 := int_ne (num_ne h)
  conv => lhs; rw [num_den x, num_den y]
  have := den_ne x; have := den_ne y
  rw [Rat.intCast_mul, Rat.intCast_mul]; grind
theorem den_pos' (x : Rat) : (x.den : Int) ≠ 0 := by have := x.den_nz; omega
theorem Bz.mul {a b : Nat} {x y : Rat} (h : Bz a x) (h' : Bz b y) : Bz (a + b) (x * y) := by
  rw [mul_eq]
  refine Bz.div_int (Int.mul_ne_zero (den_pos' x) (den_pos' y)) ?_ ?_
  · rw [Int.natAbs_mul]; exact nat_mul_le h.1 h'.1
  · rw [Int.natAbs_mul]; exact nat_mul_le (by simpa using h.2) (by simpa using h'.2)
theorem two_le {x y a : Nat} (h : x ≤ 2 ^ a) (h' : y ≤ 2 ^ a) : x + y ≤ 2 ^ (a + 1) := by rw [Nat.pow_succ]; omega
theorem Bz.add {a b : Nat} {x y : Rat} (h : Bz a x) (h' : Bz b y) : Bz (a + b + 1) (x + y) := by
  rw [add_eq]
  refine Bz.div_int (Int.mul_ne_zero (den_pos' x) (den_pos' y)) ?_ ?_
  · refine Nat.le_trans (Int.natAbs_add_le _ _) (two_le ?_ ?_)
    · rw [Int.natAbs_mul]; exact nat_mul_le h.1 (by simpa using h'.2)
    · rw [Int.natAbs_mul, Nat.add_comm]; exact nat_mul_le h'.1 (by simpa using h.2)
  · rw [Int.natAbs_mul]; exact Nat.le_trans (nat_mul_le (by simpa using h.2) (by simpa using h'.2)) (Nat.pow_le_pow_right (by decide) (by omega))
theorem Bz.sub {a b : Nat} {x y : Rat} (h : Bz a x) (h' : Bz b y) : Bz (a + b + 1) (x - y) := by
  rw [sub_eq]
  refine Bz.div_int (Int.mul_ne_zero (den_pos' x) (den_pos' y)) ?_ ?_
  · refine Nat.le_trans (Int.natAbs_sub_le _ _) (two_le ?_ ?_)
    · rw [Int.natAbs_mul]; exact nat_mul_le h.1 (by simpa using h'.2)
    · rw [Int.natAbs_mul, Nat.add_comm]; exact nat_mul_le h'.1 (by simpa using h.2)
  · rw [Int.natAbs_mul]; exact Nat.le_trans (nat_mul_le (by simpa using h.2) (by simpa using h'.2)) (Nat.pow_le_pow_right (by decide) (by omega))
theorem Bz.div {a b : Nat} {x y : Rat} (h : Bz a x) (h' : Bz b y) (y0 : y ≠ 0) : Bz (a + b) (x / y) := by
  rw [div_eq x y0]
  refine Bz.div_int (Int.mul_ne_zero (den_pos' x) (num_ne y0)) ?_ ?_
  · rw [Int.natAbs_mul]; exact nat_mul_le h.1 (by simpa using h'.2)
  · rw [Int.natAbs_mul]; exact nat_mul_le (by simpa using h.2) h'.1
theorem Bz.zero (k : Nat) : Bz k 0 := ⟨Nat.zero_le _, Nat.one_le_two_pow⟩
theorem Bz.one (k : Nat) : Bz k 1 := ⟨Nat.one_le_two_pow, Nat.one_le_two_pow⟩

/-- the sizes of a span's steps: N j bits behind j steps -/
noncomputable def nB (b : Nat) : Nat → Nat
  | 0 => b
  | j + 1 => 4 * nB b j + 4
theorem nB_mono (b : Nat) : ∀ {i j : Nat}, i ≤ j → nB b i ≤ nB b j
  | i, 0, h => by rw [show i = 0 by omega]; exact Nat.le_refl _
  | i, j + 1, h => by
    by_cases e : i = j + 1
    · rw [e]; exact Nat.le_refl _
    · have := nB_mono b (show i ≤ j by omega)
      show _ ≤ 4 * nB b j + 4; omega
structure Sp.Sz (s : Sp) (n b : Nat) : Prop where
  st : ∀ i k, i < s.m → k < n → Bz (2 * nB b i) (s.S i k)
  ho : ∀ i j, i < s.m → Bz (2 * nB b i + 2) (s.H i j)
section
variable {s : Sp} {n b : Nat} {r : Nat → Rat}
theorem Sp.Sz.cl (z : s.Sz n b) (hp : ∀ i, i < s.m → s.P i < n) (hr : ∀ k, k < n → Bz b (r k)) : ∀ i, i ≤ s.m → (∀ k, k < n → Bz (nB b i) ((s.cl r i).1 k)) ∧ ∀ j, Bz (nB b i) ((s.cl r i).2 j)
  | 0, _ => ⟨hr, fun j => Bz.zero _⟩
  | i + 1, hi => by
    obtain ⟨h1, h2⟩ := z.cl hp hr i (by omega)
    have hq := h1 (s.P i) (hp i (by omega))
    refine ⟨fun k hk => ?_, fun j => ?_⟩
    · have := (h1 k hk).sub (hq.mul (z.st i k (by omega) hk))
      exact this.mono (by show _ ≤ 4 * nB b i + 4; omega)
    · have := (h2 j).add (hq.mul (z.ho i j (by omega)))
      exact this.mono (by show _ ≤ 4 * nB b i + 4; omega)
theorem Sp.Sz.nil : Sp.nil.Sz n b := ⟨fun i k h => absurd h (Nat.not_lt_zero _), fun i j h => absurd h (Nat.not_lt_zero _)⟩
theorem Sp.Sz.add (z : s.Sz n b) (hp : ∀ i, i < s.m → s.P i < n) (hr : ∀ k, k < n → Bz b (r k)) {p : Nat} (hpn : p < n) (h0 : s.left r p ≠ 0) : (s.add p r).Sz n b := by
  obtain ⟨h1, h2⟩ := z.cl hp hr s.m (Nat.le_refl _)
  refine ⟨fun i k hi hk => ?_, fun i j hi => ?_⟩
  · by_cases e : i = s.m
    · subst e
      show Bz _ ((if s.m = s.m then fun k => s.left r k / s.left r p else s.S s.m) k)
      rw [if_pos rfl]
      exact ((h1 k hk).div (h1 p hpn) h0).mono (by omega)
    · show Bz _ ((if i = s.m then fun k => s.left r k / s.left r p else s.S i) k)
      rw [if_neg e]
      exact z.st i k (by have : i < s.m + 1 := hi; omega) hk
  · by_cases e : i = s.m
    · subst e
      show Bz _ ((if s.m = s.m then fun j => if j < s.m then (0 - s.by r j) / s.left r p else if j = s.m then 1 / s.left r p else 0 else s.H s.m) j)
      rw [if_pos rfl]
      split
      · exact (((Bz.zero 0).sub (h2 j)).div (h1 p hpn) h0).mono (by omega)
      · split
        · exact ((Bz.one 0).div (h1 p hpn) h0).mono (by omega)
        · exact Bz.zero _
    · show Bz _ ((if i = s.m then fun j => if j < s.m then (0 - s.by r j) / s.left r p else if j = s.m then 1 / s.left r p else 0 else s.H i) j)
      rw [if_neg e]
      exact z.ho i j (by have : i < s.m + 1 := hi; omega)
end
theorem sumBz {m : Nat} {k : Nat} {f : Nat → Rat} (h : ∀ i, i < m → Bz k (f i)) : ∀ i, i ≤ m → Bz (i * (k + 1)) (sumR i f)
  | 0, _ => Bz.zero _
  | i + 1, hi => ((sumBz h i (by omega)).add (h i (by omega))).mono (by rw [Nat.succ_mul]; omega)
end Mine

namespace Mine
open PySem PyProof.Rows PySem.W

section
variable {c : Cx} {A : Around} {pr pr' : Pr} {η η' η₁ : Hp} {s s' : Shared} {d : Nat} {hd : Bool} {nm : List (Str × NameKind)} {σ σ' τ : List (Option V)} {env : Env} {p' : Pos}
  {Q R : V → Hp → Prop} {X : Addr → Hp → Prop} {v w : V} {x y z name : Str} {pos px py pz tp ap np fp : Pos} {vs ws : List V} {K : Params → Frag} {gt bt : List (Str × Value)} {C a dd : Addr} {ks : List Str} {N : List (Option V) → Hp → Prop} {rest : List Stmt}

-- methods of a class of one's own
noncomputable def methIn (K : Frag) (C : Addr) (name : Str) (f : Addr) : Bool := plainGet K C name && findIn K (.ref C) name == some (some (.ref f)) && isFn K (.ref f)
theorem Ents.look {P : Params} {es : Array DictEntry} {xs : List Value} {n : Nat} (e : Ents P es.toList ks xs) (hn : name ∉ ks) : lookIn name { cls := .type "dict", data := .dict es n } = some none := by
  rcases e.find name with ⟨i, y, en, a, _⟩ | ⟨_, b⟩
  · exact absurd (List.mem_of_getElem? a) hn
  · have r := e.noref
    unfold lookIn
    dsimp only
    rw [b]
    simp [r]
theorem Meth.own (W : Wd c K gt bt) {f : Addr} (ea : η a = some (.inst C dd)) (ed : η dd = some (.idict ks vs)) (hm : methIn (K c.P) C name f = true) (hn : name ∉ ks) : Meth c (.loc a) η name (.ref f) := fun A s pr y pl QQ E I r q => by
  unfold methIn at hm
  simp only [Bool.and_eq_true, beq_iff_eq] at hm
  obtain ⟨⟨h1, h2⟩, h3⟩ := hm
  unfold Rv at r; obtain ⟨rfl, _⟩ := r
  obtain ⟨ho, _⟩ := I.hrel a _ ea
  obtain ⟨xs, es, n, hD, en, rs⟩ := I.hrel dd _ ed
  have XX := W.kin.keeps I.stays
  have IA : InstAt s.heap a { cls := .ref C, dict := some dd, data := .plain } C (some { cls := .type "dict", data := .dict es n }) := ⟨ho, rfl, rfl, hD⟩
  exact method_fn XX IA (plainGet_of h1).1 (plainGet_of h1).2 h2 (beq_iff_eq.mp h3) (by show (lookIn name _).map _ = _; rw [en.look hn]; rfl) (q s.toks)
theorem Callee.fn (W : Wd c K gt bt) {f : Addr} (hf : fnIn (K c.P) f = true) : Callee c (.ref f) := by
  refine .inr (.inr ?_)
  unfold fnIn at hf
  split at hf
  · rename_i q; exact ⟨f, _, _, rfl, W.kin _ _ q, rfl⟩
  · cases hf

-- dicts with written keys
noncomputable def SPs (c : Cx) (d : Nat) (hd : Bool) (nm : List (Str × NameKind)) (σ : List (Option V)) (η : Hp) (keys : List (Option Expr)) (es : List Expr) (Q : List Str → List V → Hp → Prop) (X : Addr → Hp → Prop) : Prop :=
  ∀ A env s pr pos, Ok d hd A → Inv c η pr A s → FrameR c s.heap η pr nm env σ →
    wpAny c.M A (evalPairs (pairTrees keys es env pos)) (fun kvs s' => ∃ ks vs xs η', Q ks vs η' ∧ Carries (strKind c.prog c.w) kvs (ks.zip xs) ∧ Inv c η' pr A s' ∧ Rvs c.P s'.heap η' pr vs xs ∧ ks.length = vs.length ∧ Step A noOwn η s.heap η' s'.heap) (Exc c A noOwn pr η s.heap X) s
theorem SPs.nil {Q : List Str → List V → Hp → Prop} (q : Q [] [] η) : SPs c d hd nm σ η [] [] Q X := fun A env s pr pos o I F =>
  pairTrees_nil_walk ⟨[], [], [], η, q, trivial, I, rfl, rfl, Step.refl ..⟩
theorem SPs.cons {Q : List Str → List V → Hp → Prop} {k : Str} {kk : Nat} {kp : Pos} {e : Expr} {keys : List (Option Expr)} {es : List Expr} (p : SE c d hd nm σ η e (fun v η₁ => SPs c d hd nm σ η₁ keys es (fun ks vs η₂ => Q (k :: ks) (v :: vs) η₂) X) X) :
    SPs c d hd nm σ η (some (.Constant (.str k) kk kp) :: keys) (e :: es) Q X := fun A env s pr pos o I F => by
  refine pairTrees_cons_walk (wpAny_Constant_str ?_)
  refine wpAny_mono (p A env { s with toks := s.toks + 1 } pr o (I.toks _) F) (fun x s₁ hq => ?_) fun _ _ e => e
  obtain ⟨v, η₁, q, I₁, rv, st⟩ := hq
  refine wpAny_mono (q A env s₁ pr pos o I₁ (FrameR.step (s := { s with toks := s.toks + 1 }) F (I.toks _) st)) (fun kvs s₂ hq => ?_) fun _ _ e => e.older st
  obtain ⟨ks, vs, xs, η₂, q₂, ca, I₂, rs, hl, st₂⟩ := hq
  refine ⟨k :: ks, v :: vs, x :: xs, η₂, q₂, ⟨?_, rfl, ca⟩, I₂, ⟨x, xs, rfl, rv.step I₁ st₂, rs⟩, by simp [hl], st.trans st₂⟩
  show Value.isStrOf k (.str k s.toks) = true
  simp [Value.isStrOf]
theorem ents_of {P : Params} {prog : Program} {w : World} (hP : w.params = P) : ∀ {es : List DictEntry} {kvs : List (Str × Value)}, Pairs (strKind prog w) es kvs → (∀ e ∈ es, ∃ k, (strKind prog w).is k e.key = true ∧ e.hash = (strKind prog w).hash k) → Ents P es (kvs.map (·.1)) (kvs.map (·.2))
  | [], _, .nil, _ => .nil
  | e :: es, _, .cons (kv := kv) h1 h2 h3, h => by
    obtain ⟨k, a, b⟩ := h e (.head _)
    have ih := ents_of hP h3 fun e' m => h e' (.tail _ m)
    obtain ⟨hh, key, val⟩ := e
    obtain ⟨t, ht⟩ := Value.isStrOf_shape (show Value.isStrOf kv.1 key = true from h1)
    have ek : kv.1 = k := by
      have := a
      dsimp only at this ht
      rw [ht] at this
      obtain ⟨t', ht'⟩ := Value.isStrOf_shape (show Value.isStrOf k (.str kv.1 t) = true from this)
      injection ht'
    dsimp only at ht h2 b
    subst ht
    rw [List.map_cons, List.map_cons]
    have hb : hh = (if kv.1.cps.isEmpty then 0 else reduceHash (P.strHash kv.1.cps)) := by
      rw [b, ← ek, ← hP]; rfl
    subst h2
    rw [hb]
    exact .cons ih
theorem SE.dict {keys : List (Option Expr)} {es : List Expr} (p : SPs c d hd nm σ η keys es (fun ks vs η₁ => ks.Nodup ∧ Q (.dct ks vs) η₁) X)
    (hall : keys.all (·.isSome) = true := by with_unfolding_all rfl) (hl : keys.length = es.length := by with_unfolding_all rfl) (h0 : keys.isEmpty = false := by with_unfolding_all rfl) (hn : Nat.ble keys.length 15 = true := by with_unfolding_all rfl) :
    SE c d hd nm σ η (.Dict keys es pos) Q X := fun A env s pr o I F => by
  have fr := fresh_none s
  have k1 : ∀ b o, s.heap.get? b = some o → (s.heap.push { cls := .type "dict", data := .dict #[] }).get? b = some o := fun b o e => Heap.get?_push_of_some _ e
  have g0 : (s.heap.push { cls := .type "dict", data := .dict #[] }).get? s.heap.objs.size = some { cls := .type "dict", data := .dict #[] } := Heap.get?_push_size _ rfl
  refine wpAny_Dict_walk (knd := strKind c.prog c.w) hall hl (by intro e; rw [e] at h0; cases h0) (Nat.le_of_ble_eq_true hn) ?_
  generalize hD : s.heap.objs.size = D at *
  have I1 : Inv c η (fun b => pr b ∨ b = D) A { s with heap := s.heap.push { cls := .type "dict", data := .dict #[] }, toks := s.toks } := I.more (J := fun b => b = D) k1 (fun b e => e ▸ fr) (fun b e => e ▸ ⟨_, g0⟩) s.toks
  have F1 : FrameR c (s.heap.push { cls := .type "dict", data := .dict #[] }) η (fun b => pr b ∨ b = D) nm env σ := F.more (J := fun b => b = D) k1 fun b e => e ▸ fr
  have fD : ¬ isFr A D := fun f => by have := (I.privs _ (I.frs _ f)).1; rw [fr] at this; cases this
  refine wpAny_mono (p A env { s with heap := s.heap.push { cls := .type "dict", data := .dict #[] } } (fun b => pr b ∨ b = D) pos o I1 F1) (fun kvs s₁ hq => ?_) fun r s₁ hx => ?_
  · obtain ⟨ks, vs, xs, η₁, ⟨nd, q⟩, ca, I₁, rs, hl, st⟩ := hq
    have gD : s₁.heap.get? D = some { cls := .type "dict", data := .dict #[] } := st.same D _ g0 (I1.privs D (.inr rfl)).2.1 (fun q => q) fD
    have lx : xs.length = ks.length := by rw [rvs_length rs, hl]
    refine ⟨ks.zip xs, ca, ⟨_, _, _, gD, ⟨rfl, rfl, rfl⟩, rfl, (fun e m => by simp at m), .nil, List.nodup_nil⟩, fun h' dof sb => ?_⟩
    have ez : (ks.zip xs).map (·.1) = ks := by rw [List.map_fst_zip (by omega)]
    have ez2 : (ks.zip xs).map (·.2) = xs := by rw [List.map_snd_zip (by omega)]
    rw [merged_nil_of_nodup _ (by rw [ez]; exact nd)] at dof
    obtain ⟨ob, es', ep, g, ⟨e1, e2, e3⟩, hdat, hk, hp, _⟩ := dof
    have kD : ∀ b ob, ¬ b = D → s₁.heap.get? b = some ob → h'.get? b = some ob := fun b ob nb e => (sb.2 b nb).trans e
    have en := ents_of (P := c.P) rfl hp fun e m => hk e (by simpa using m)
    rw [ez, ez2] at en
    have nD : η₁ D = Option.none := st.none g0 (I1.privs D (.inr rfl)).2.1
    have npD : ¬ pr D := fun q => by have := (I.privs _ q).1; rw [fr] at this; cases this
    have gg : h'.get? D = some { cls := .type "dict", data := .dict es' ep } := by
      rw [g]; obtain ⟨oc, od, oda, os⟩ := ob; dsimp only at e1 e2 e3 hdat; rw [e1, e2, e3, hdat]
    refine ⟨.dct ks vs, η₁, q, I₁.end (J := fun b => b = D) kD (fun b q e => npD (e ▸ q)) I.frs _, ?_, ?_⟩
    · unfold Rv
      exact ⟨D, xs, es', ep, rfl, gg, ⟨nD, npD⟩, en, Rvs.mono ⟨fun b ob e n p => kD b ob (fun q => p (.inr q)) e, fun _ e => e, fun b ob e n p => ⟨n, fun q => p (.inl q)⟩⟩ _ rs⟩
    · exact ((Step.of_keeps k1).trans st).then_keep (J := fun b => b = D) kD fun b e => e ▸ fr
  · obtain ⟨e, C, η₁, rfl, hx, I₁, st, nw, th⟩ := hx
    have st0 : Step A noOwn η s.heap η (s.heap.push { cls := .type "dict", data := .dict #[] }) := Step.of_keeps k1
    refine ⟨e, C, η₁, rfl, hx, I₁.less (pr := exPr pr e s₁.heap) (fun b q => ?_) (fun b f => .inl (I.frs b f)), st0.trans st, ?_, Thr.older st0.there th⟩
    · rcases q with q | q
      · exact .inl (.inl q)
      · exact .inr q
    · cases q : s.heap.get? e with
      | none => rfl
      | some ob => have := k1 e ob q; dsimp only at nw; rw [nw] at this; cases this
theorem S2.item_dct {e i : Expr} {j : Nat} (hn : ks.Nodup) (hk : ks[j]? = some x) (hv : vs[j]? = some v) (q : Q v η) (hs : notSlice i = true := by with_unfolding_all rfl) (hg : ∀ o r, letTemporaryGo e o r = pure () := by intro _ _; with_unfolding_all rfl) :
    S2 c d hd (subscriptTail e i) (.dct ks vs) (.str x) η Q X := by
  intro A s pr y z o I r r'
  unfold Rv at r r'
  obtain ⟨a, xs, es, n, rfl, ho, _, en, rs⟩ := r
  obtain ⟨t, rfl⟩ := r'
  obtain ⟨u, hu, ru⟩ := rvs_get rs hv
  have key : ∀ {es : List DictEntry} {ks : List Str} {xs : List Value}, Ents c.P es ks xs → Pairs (strKind c.prog c.w) es (ks.zip xs) ∧ (∀ e ∈ es, ∃ k, (strKind c.prog c.w).is k e.key = true ∧ e.hash = (strKind c.prog c.w).hash k) ∧ xs.length = ks.length := by
    intro es ks xs e
    induction e with
    | nil => exact ⟨.nil, (fun _ m => by cases m), rfl⟩
    | @cons k t x es ks xs _ ih =>
      refine ⟨.cons (by show Value.isStrOf k (.str k t) = true; simp [Value.isStrOf]) rfl ih.1, fun e m => ?_, by simp [ih.2.2]⟩
      rcases List.mem_cons.mp m with rfl | m
      · exact ⟨k, by show Value.isStrOf k (.str k t) = true; simp [Value.isStrOf], rfl⟩
      · exact ih.2.1 e m
  obtain ⟨k1, k2, k3⟩ := key en
  have ez : (ks.zip xs).map (·.1) = ks := by rw [List.map_fst_zip (by omega)]
  have D : s.heap.DictOf (strKind c.prog c.w) a (ks.zip xs) := ⟨_, _, _, ho, ⟨rfl, rfl, rfl⟩, rfl, by intro e m; exact k2 e (by simpa using m), k1, by rw [ez]; exact hn⟩
  have hz : (ks.zip xs)[j]? = some (x, u) := by rw [List.getElem?_zip_eq_some]; exact ⟨hk, hu⟩
  have hval : valueAt (ks.zip xs) x = some u := by
    have nd : ((ks.zip xs).map (·.1)).Nodup := by rw [ez]; exact hn
    unfold valueAt
    have : (ks.zip xs).find? (fun kv => decide (kv.1 = x)) = some (x, u) := by
      generalize ks.zip xs = l at hz nd
      clear D k1 k2 en rs ez hk hv hu
      induction l generalizing j with
      | nil => cases hz
      | cons p l ih =>
        rw [List.map_cons, List.nodup_cons] at nd
        cases j with
        | zero =>
          simp only [List.getElem?_cons_zero, Option.some.injEq] at hz
          subst hz; simp
        | succ j =>
          simp only [List.getElem?_cons_succ] at hz
          rw [List.find?_cons]
          have : decide (p.1 = x) = false := by
            rw [decide_eq_false_iff_not]
            intro e
            exact nd.1 (List.mem_map.mpr ⟨_, List.mem_of_getElem? hz, e.symm⟩)
          rw [this]
          exact ih hz nd.2
    rw [this]; rfl
  exact subscriptTail_builtin D.typeIs slot_dict_getitem.lookup (wpAny_getItem_of (by show Value.isStrOf x (.str x t) = true; simp [Value.isStrOf]) D.mapOf hval (Post.tok I _ ru q)) (subscripted_plain hs _ _) (hg _)

-- three names take a tuple's items
theorem SA.tup3 {v₁ v₂ v₃ : V} {k : Nat} {σ₁ σ₂ σ₃ : List (Option V)} {KK : List (Option V) → Prop} (p1 : Put nm σ x v₁ σ₁) (p2 : Put nm σ₁ y v₂ σ₂) (p3 : Put nm σ₂ z v₃ σ₃) (q : KK σ₃) : SA c d nm σ η (.Tuple [.Name x px, .Name y py, .Name z pz] k tp) [x, y, z] (.tup [v₁, v₂, v₃]) KK := by
  intro A env s pr u QQ E o I F r hq
  rw [arm_assign_Tuple]
  refine wpAny_bind (wpAny_standAt ?_)
  unfold unpack
  refine wpAny_bind (wpAny_holding ?_)
  refine unpack_tup o I r rfl fun s₄ xs I₄ rs₄ st₄ _ fr => ?_
  obtain ⟨a', xs', rfl, ra, b', xs'', rfl, rb, c', _, rfl, rc, rfl⟩ := rs₄
  have F₄ := fr nm env σ F
  show wpAny c.M A (assignInOrder [assign (.Name x px) env, assign (.Name y py) env, assign (.Name z pz) env] [a', b', c']) _ _ s₄
  refine wpAny_assignInOrder_more (wpAny_assign_Name (store_var I₄ F₄ p1 ra fun s₅ I₅ F₅ st₅ mv => ?_))
  refine wpAny_assignInOrder_more (wpAny_assign_Name (store_var I₅ F₅ p2 (mv _ _ rb) fun s₆ I₆ F₆ st₆ mv' => ?_))
  refine wpAny_assignInOrder_more (wpAny_assign_Name (store_var I₆ F₆ p3 (mv' _ _ (mv _ _ rc)) fun s₇ I₇ F₇ st₇ _ => wpAny_assignInOrder_none ?_))
  refine hq _ σ₃ q I₇ F₇ ((st₄.weak fun _ q => q.elim).trans ((st₅.weak fun b q => ?_).trans ((st₆.weak fun b q => ?_).trans (st₇.weak fun b q => ?_))))
  · rcases q with q | ⟨z, m, e⟩
    · exact .inl q
    · refine .inr ⟨z, ?_, e⟩
      simp at m; subst m; exact .head _
  · rcases q with q | ⟨z, m, e⟩
    · exact .inl q
    · refine .inr ⟨z, ?_, e⟩
      simp at m; subst m; exact .tail _ (.head _)
  · rcases q with q | ⟨z, m, e⟩
    · exact .inl q
    · refine .inr ⟨z, ?_, e⟩
      simp at m; subst m; exact .tail _ (.tail _ (.head _))
theorem SX.assign2T {e : Expr} {k : Nat} (p : SE c d true nm σ η e (fun v η₁ => ∃ a b, v = .tup [a, b] ∧ ∃ σ₁ σ₂, Put nm σ x a σ₁ ∧ Put nm σ₁ y b σ₂ ∧ N σ₂ η₁) X)
    (hs : ∀ env, swapsWithSole [.Tuple [.Name x px, .Name y py] k tp] e pos.line env = pure false := by intro _; with_unfolding_all rfl) (hw : ∀ env, swappedStores [.Tuple [.Name x px, .Name y py] k tp] e env = pure Option.none := by intro _; with_unfolding_all rfl) :
    SX c d true nm σ η (.Assign [.Tuple [.Name x px, .Name y py] k tp] e pos) N R X := by
  intro A env s pr outer o I F h1 h2
  refine PyProof.Rows.Assign_Tuple (wpAny_mono (p A env s pr o I F) (fun z s₁ hq => ?_) fun _ _ e => e.weak fun _ q => q.elim) (hs env) (hw env)
  obtain ⟨v, η₁, ⟨a, b, rfl, σ₁, σ₂, p1, p2, q⟩, I₁, rv, st⟩ := hq
  rw [arm_assign_Tuple]
  refine wpAny_bind (wpAny_standAt ?_)
  unfold unpack
  refine wpAny_bind (wpAny_holding ?_)
  refine unpack_tup o I₁ rv rfl fun s₄ xs I₄ rs₄ st₄ _ fr => ?_
  obtain ⟨a', xs', rfl, ra, b', _, rfl, rb, rfl⟩ := rs₄
  have F₄ := fr nm env σ (F.step I st)
  show wpAny c.M A (assignInOrder [PySem.assign (.Name x px) env, PySem.assign (.Name y py) env] [a', b']) _ _ s₄
  refine wpAny_assignInOrder_more (wpAny_assign_Name (store_var I₄ F₄ p1 ra fun s₅ I₅ F₅ st₅ mv => ?_))
  refine wpAny_assignInOrder_more (wpAny_assign_Name (store_var I₅ F₅ p2 (mv _ _ rb) fun s₆ I₆ F₆ st₆ _ => wpAny_assignInOrder_none ?_))
  exact ⟨σ₂, _, q, I₆, F₆, ((st.trans st₄).own.trans (st₅.weak ownX_of)).trans (st₆.weak ownX_of)⟩
theorem SS.assign2T {e : Expr} {k : Nat} (p : SE c d true nm σ η e (fun v η₁ => ∃ a b, v = .tup [a, b] ∧ ∃ σ₁ σ₂, Put nm σ x a σ₁ ∧ Put nm σ₁ y b σ₂ ∧ SS c d true nm σ₂ η₁ rest N R X) X)
    (hs : ∀ env, swapsWithSole [.Tuple [.Name x px, .Name y py] k tp] e pos.line env = pure false := by intro _; with_unfolding_all rfl) (hw : ∀ env, swappedStores [.Tuple [.Name x px, .Name y py] k tp] e env = pure Option.none := by intro _; with_unfolding_all rfl) :
    SS c d true nm σ η (.Assign [.Tuple [.Name x px, .Name y py] k tp] e pos :: rest) N R X := SS.cons (SX.assign2T p hs hw)

-- lists that may change are added up
theorem LV.obj {pr : Pr} {yv : Value} (h : LV η v vs) (I : Inv c η pr A s) (r : Rv c.P s.heap η pr v yv) : ∃ l xs n, yv = .ref l ∧ s.heap.get? l = some { cls := .type "list", data := .seq xs.toArray n } ∧ vs.length ≤ sizeLine ∧ Rvs c.P s.heap η pr vs xs := by
  rcases h with rfl | ⟨a, rfl, e⟩
  · unfold Rv at r; obtain ⟨l, xs, n, e, ho, _, z, rs⟩ := r; exact ⟨l, xs, n, e, ho, z, rs⟩
  · unfold Rv at r; obtain ⟨rfl, _⟩ := r; obtain ⟨xs, n, ho, z, rs⟩ := I.hrel _ _ e; exact ⟨a, xs, n, rfl, ho, z, rs⟩
theorem S2.addA (h : LV η v vs) (h' : LV η w ws) (hz : vs.length + ws.length ≤ sizeLine) (q : Q (.lst (vs ++ ws)) η) : S2 c d hd (binaryOp .Add) v w η Q X := by
  intro A s pr y z o I r r'
  obtain ⟨a, ys, n, rfl, ho, z1, rs⟩ := h.obj I r
  obtain ⟨b, zs, m, rfl, ho', z2, rs'⟩ := h'.obj I r'
  have l1 := rvs_length rs
  have l2 := rvs_length rs'
  have e : ys.toArray ++ zs.toArray = (ys ++ zs).toArray := by simp
  refine PySem.P.add_list (n := n) (n2 := m) ho ho' ?_ (by simp only [List.size_toArray]; omega)
  rw [e]
  exact new_lst (t := s.toks) I (by simpa using hz) (rvs_append rs rs') q

-- slices
theorem pick_init (items : Array Value) : slicePick items none (some (-1)) none = (items.toList.take (items.size - 1)).toArray := by
  rw [slicePick_plain]
  have e : clipAt items.size (-1) = items.size - 1 := by unfold clipAt; rw [if_pos (by decide)]; omega
  simp only [Option.elim, e, List.drop_zero, Nat.sub_zero]
theorem pick_mid (items : Array Value) (j k : Nat) : slicePick items (some (j : Int)) (some (k : Int)) none = ((items.toList.take k).drop j).toArray := by
  rw [slicePick_plain]
  simp only [Option.elim, clipAt_nat]
  congr 1
  rw [List.drop_take]
  apply List.ext_getElem?
  intro i
  simp only [List.getElem?_take, List.getElem?_drop]
  have hs : items.toList.length = items.size := Array.length_toList
  by_cases h : j ≤ items.size
  · rw [Nat.min_eq_left h]
    by_cases h1 : i < k - j
    · by_cases h2 : j + i < items.size
      · rw [if_pos h1, if_pos (by omega)]
      · rw [if_pos h1]
        split
        · rfl
        · exact (List.getElem?_eq_none (by omega)).symm
    · rw [if_neg h1, if_neg (by omega)]
  · have e1 : items.toList[j + i]? = none := List.getElem?_eq_none (by omega)
    rw [e1]
    split
    · rw [List.getElem?_eq_none (by omega)]; simp
    · simp
theorem SE.sliceInit {e u : Expr} (p : SE c d hd nm σ η e (fun a η₁ => SE c d hd nm σ η₁ u (fun b η₂ => ∃ vs, a = .lst vs ∧ b = .int (-1) ∧ Q (.lst (vs.take (vs.length - 1))) η₂) X) X) : SE c d hd nm σ η (.Subscript e (.Slice Option.none (some u) Option.none p') pos) Q X := by
  intro A env s pr o I F
  refine slice_any (wpAny_mono (p A env s pr o I F) (fun y s₁ hq => ?_) fun _ _ e => e)
  obtain ⟨v, η₁, q, I₁, rv, st⟩ := hq
  rw [evalPart_none]
  refine wpAny_pure (wpAny_mono (q A env s₁ pr o I₁ (F.step I st)) (fun z s₂ hq => ?_) fun _ _ e => e.older st)
  obtain ⟨w, η₂, ⟨vs, rfl, rfl, q₂⟩, I₂, rw', st₂⟩ := hq
  have rv₂ := rv.step I₁ st₂
  unfold Rv at rv₂ rw'
  obtain ⟨l, its, n, rfl, ho, _, hz, rs⟩ := rv₂
  obtain ⟨tk, rfl⟩ := rw'
  have hl := rvs_length rs
  refine ⟨l, its.toArray, Option.none, some (-1), rfl, ⟨_, ho, rfl, _, rfl⟩, by simpa [hl] using hz, .none, .int _ _, ?_⟩
  rw [pick_init, show its.toArray.toList.take (its.toArray.size - 1) = its.take (vs.length - 1) by simp [hl]]
  refine (Post.pure (t := s₂.toks) (v := .lst (vs.take (vs.length - 1))) (h' := (s₂.heap.push { cls := .type "slice", data := .fields #[.none, Value.int (-1) tk, .none] }).push { cls := .type "list", data := .seq (its.take (vs.length - 1)).toArray }) I₂ (fun b o e => Heap.get?_push_of_some _ (Heap.get?_push_of_some _ e)) ?_ q₂).older (st.trans st₂)
  have g := Heap.get?_push_size (s₂.heap.push { cls := .type "slice", data := .fields #[.none, Value.int (-1) tk, .none] }) (o := { cls := .type "list", data := .seq (its.take (vs.length - 1)).toArray }) rfl
  rw [Heap.size_push] at g
  unfold Rv
  exact ⟨_, its.take (vs.length - 1), _, rfl, g, freshAt I₂ (Nat.le_succ _), by rw [List.length_take]; omega, Rvs.mono (Mono.of_keeps fun b o e => Heap.get?_push_of_some _ (Heap.get?_push_of_some _ e)) _ (rvs_take _ rs)⟩
theorem SE.sliceTwo {e l u : Expr} (p : SE c d hd nm σ η e (fun a η₁ => SE c d hd nm σ η₁ l (fun b η₂ => SE c d hd nm σ η₂ u (fun b' η₃ => ∃ vs j k, a = .lst vs ∧ b = .int ((j : Nat) : Int) ∧ b' = .int ((k : Nat) : Int) ∧ Q (.lst ((vs.take k).drop j)) η₃) X) X) X) : SE c d hd nm σ η (.Subscript e (.Slice (some l) (some u) Option.none p') pos) Q X := by
  intro A env s pr o I F
  refine slice_any (wpAny_mono (p A env s pr o I F) (fun y s₁ hq => ?_) fun _ _ e => e)
  obtain ⟨v, η₁, q, I₁, rv, st⟩ := hq
  refine wpAny_mono (q A env s₁ pr o I₁ (F.step I st)) (fun z s₂ hq => ?_) fun _ _ e => e.older st
  obtain ⟨w, η₂, q₂, I₂, rw', st₂⟩ := hq
  refine wpAny_mono (q₂ A env s₂ pr o I₂ (F.step I (st.trans st₂))) (fun z' s₃ hq => ?_) fun _ _ e => e.older (st.trans st₂)
  obtain ⟨w', η₃, ⟨vs, j, k, rfl, rfl, rfl, q₃⟩, I₃, rw'', st₃⟩ := hq
  have rv₃ := rv.step I₁ (st₂.trans st₃)
  have rw₃ := rw'.step I₂ st₃
  unfold Rv at rv₃ rw₃ rw''
  obtain ⟨l, its, n, rfl, ho, _, hz, rs⟩ := rv₃
  obtain ⟨tk, rfl⟩ := rw₃
  obtain ⟨tk', rfl⟩ := rw''
  have hl := rvs_length rs
  refine ⟨l, its.toArray, some (j : Int), some (k : Int), rfl, ⟨_, ho, rfl, _, rfl⟩, by simpa [hl] using hz, .int _ _, .int _ _, ?_⟩
  rw [pick_mid]
  refine (Post.pure (t := s₃.toks) (v := .lst ((vs.take k).drop j)) (h' := (s₃.heap.push { cls := .type "slice", data := .fields #[Value.int j tk, Value.int k tk', .none] }).push { cls := .type "list", data := .seq ((its.take k).drop j).toArray }) I₃ (fun b o e => Heap.get?_push_of_some _ (Heap.get?_push_of_some _ e)) ?_ q₃).older ((st.trans st₂).trans st₃)
  have g := Heap.get?_push_size (s₃.heap.push { cls := .type "slice", data := .fields #[Value.int j tk, Value.int k tk', .none] }) (o := { cls := .type "list", data := .seq ((its.take k).drop j).toArray }) rfl
  rw [Heap.size_push] at g
  unfold Rv
  exact ⟨_, (its.take k).drop j, _, rfl, g, freshAt I₃ (Nat.le_succ _), by rw [List.length_drop, List.length_take]; omega, Rvs.mono (Mono.of_keeps fun b o e => Heap.get?_push_of_some _ (Heap.get?_push_of_some _ e)) _ (rvs_drop _ (rvs_take _ rs))⟩

-- zip with a list that changes elsewhere
theorem itr_zipR {z TI TO i1 i2 l1 l2 : Addr} {xs : List Value} {n1 : Nat} {vs ws : List V} {elts : List Expr} {k : Nat} {tp : Pos} (hh : A.handled = Option.none) (D : ZipApart z TI TO i1 i2 l1 l2) :
    Itr c A (fun b => b = z ∨ b = TI ∨ b = TO ∨ b = i1 ∨ b = i2) z (.Tuple elts k tp) (zipV vs ws) (fun i h η pr =>
      (IsZip h z TI TO .none ∧ IsPair h TI (.ref i1) (.ref i2) ∧ (∃ a b, IsPair h TO a b) ∧ h.IsListIter i1 l1 i ∧ h.IsListIter i2 l2 i) ∧
      (h.get? l1 = some { cls := .type "list", data := .seq xs.toArray n1 } ∧ (η l1 = Option.none ∧ ¬ pr l1) ∧ Rvs c.P h η pr vs xs)) (fun η => η l2 = some (.lst ws)) where
  inJ := .inl rfl
  move := fun {i h η pr h' η' pr'} st m kj => by
    obtain ⟨⟨hz, hTI, ⟨a, b, hTO⟩, h1, h2⟩, g1, ⟨e1, p1⟩, r1⟩ := st
    exact ⟨⟨kj _ (.inl rfl) _ hz, kj _ (.inr (.inl rfl)) _ hTI, ⟨a, b, kj _ (.inr (.inr (.inl rfl))) _ hTO⟩, h1.at fun o e => kj _ (.inr (.inr (.inr (.inl rfl)))) o e, h2.at fun o e => kj _ (.inr (.inr (.inr (.inr rfl)))) o e⟩,
      m.same _ _ g1 e1 p1, m.new _ _ g1 e1 p1, Rvs.mono m _ r1⟩
  nofr := fun {i h η pr b} st e => by
    obtain ⟨⟨hz, hTI, ⟨a, b, hTO⟩, ⟨o1, h1, _⟩, ⟨o2, h2, _⟩⟩, _⟩ := st
    rcases e with rfl | rfl | rfl | rfl | rfl
    · exact ⟨_, hz⟩
    · exact ⟨_, hTI⟩
    · exact ⟨_, hTO⟩
    · exact ⟨_, h1⟩
    · exact ⟨_, h2⟩
  item := fun {i s η pr v QQ E} hJ II G hv st hQ => by
    have hex := II.there
    obtain ⟨⟨hz, hTI, ⟨a, b, hTO⟩, h1, h2⟩, g1, ⟨e1, p1⟩, r1⟩ := st
    obtain ⟨ys, n2, g2, _, r2⟩ := II.hrel _ _ G
    obtain ⟨u, w, hu, hw, rfl⟩ := zipV_get hv
    obtain ⟨x, hx, rx⟩ := rvs_get r1 hu
    obtain ⟨y, hy, ry⟩ := rvs_get r2 hw
    refine wpAny_pyNext_zip_item D hz hTI hTO h1 h2 ⟨_, g1, rfl, _, rfl⟩ ⟨_, g2, rfl, _, rfl⟩ (x := x) (y := y) (by simpa using hx) (by simpa using hy) fun h' a1 a2 a3 a4 a5 a6 hk => ?_
    refine wpAny_letOwnedTupleGo_zip a1 fun h'' hz'' hs'' => ?_
    have kk : ∀ b o, ¬ (b = z ∨ b = TI ∨ b = TO ∨ b = i1 ∨ b = i2) → s.heap.get? b = some o → h''.get? b = some o := fun b o nb e =>
      hs''.extBut _ _ (fun q => nb (.inl q)) (hk b o (fun q => nb (.inl q)) (fun q => nb (.inr (.inr (.inl q)))) (fun q => nb (.inr (.inr (.inr (.inl q))))) (fun q => nb (.inr (.inr (.inr (.inr q))))) e)
    have m : Mono pr η s.heap η pr h'' := ⟨fun b ob e _ p => kk b ob (fun q => p (hJ b q)) e, fun _ e => e, fun b _ _ n p => ⟨n, p⟩⟩
    have lt : ∀ {c o}, s.heap.get? c = some o → s.heap.objs.size ≠ c := fun e => Nat.ne_of_gt (Heap.lt_size e)
    have fr : s.heap.get? s.heap.objs.size = Option.none := fresh_none s
    have gT : h''.get? s.heap.objs.size = some { cls := .type "tuple", data := .seq #[x, y] } := hs''.extBut _ _ (lt hz) a5
    have hTI' : IsPair h' TI (.ref i1) (.ref i2) := hk _ _ D.TIz D.TITO D.TIi1 D.TIi2 hTI
    refine hQ h'' s.toks (.ref s.heap.objs.size) ⟨⟨hz'', hs''.extBut _ _ D.TIz hTI', ⟨_, _, hs''.extBut _ _ D.TOz a2⟩, a3.extBut hs''.extBut D.i1z, a4.extBut hs''.extBut D.i2z⟩,
      m.same _ _ g1 e1 p1, ⟨e1, p1⟩, Rvs.mono m _ r1⟩ kk ?_
    unfold Rv
    refine ⟨_, [x, y], _, rfl, by simpa using gT, ⟨?_, fun p => ?_⟩, len_ok (by rfl), ⟨x, [y], rfl, Rv.mono m _ rx, y, [], rfl, Rv.mono m _ ry, rfl⟩⟩
    · cases q : η s.heap.objs.size with
      | none => rfl
      | some mo => have := hex s.heap.objs.size (.inr (by rw [q]; rfl)); rw [fr] at this; cases this
    · have := hex s.heap.objs.size (.inl p); rw [fr] at this; cases this
  done := fun {s η pr QQ E} II G st hQ => by
    obtain ⟨⟨hz, hTI, ⟨a, b, hTO⟩, h1, h2⟩, g1, ⟨e1, p1⟩, r1⟩ := st
    obtain ⟨ys, n2, g2, _, r2⟩ := II.hrel _ _ G
    have l1' := rvs_length r1
    have l2' := rvs_length r2
    have hend : xs.toArray[(zipV vs ws).length]? = Option.none ∨ ys.toArray[(zipV vs ws).length]? = Option.none := by
      rw [zipV_len, List.getElem?_toArray, List.getElem?_toArray]
      rcases Nat.le_total vs.length ws.length with h | h
      · exact .inl (List.getElem?_eq_none (by rw [Nat.min_eq_left h, l1']; exact Nat.le_refl _))
      · exact .inr (List.getElem?_eq_none (by rw [Nat.min_eq_right h, l2']; exact Nat.le_refl _))
    exact wpAny_pyNext_zip_end hh D hz hTI hTO h1 h2 ⟨_, g1, rfl, _, rfl⟩ ⟨_, g2, rfl, _, rfl⟩ hend fun h' hk => hQ h' s.toks fun b o nb e =>
      hk b o (fun q => nb (.inl q)) (fun q => nb (.inr (.inr (.inl q)))) (fun q => nb (.inr (.inr (.inr (.inl q))))) (fun q => nb (.inr (.inr (.inr (.inr q))))) e
  self := fun {i s η pr QQ E} st q => wpAny_pyIter_zip st.1.1 q

theorem SJ.zipR {elts : List Expr} {k : Nat} {tp : Pos} {f : Str} {es : List Expr} {KK : (Hp → Prop) → List V → Hp → Prop} (m : (f, NameKind.globalImplicit) ∈ nm) (gl : Glob c f (.type "zip")) (p : SL c d true nm σ η es (fun us η₁ => ∃ vs ws l, us = [.lst vs, .loc l] ∧ η₁ l = some (.lst ws) ∧ KK (fun η => η l = some (.lst ws)) (zipV vs ws) η₁) X)
    (hs : es.any star? = false := by with_unfolding_all rfl) (hn : (f == ("__debug__" : Str)) = false := by decide +kernel) : SJ c d nm σ η (.Call (.Name f fp) es [] pos) (.Tuple elts k tp) KK X := by
  intro A env s pr QQ E o I F hE hQ
  refine wpAny_Call_ofName (wpAny_mono (SE.glob (Q := fun v η' => v = .glob (.type "zip") ∧ η' = η) (X := X) m gl ⟨rfl, rfl⟩ hn A env s pr o I F) (fun x s₁ hq => ?_) fun r s' e => hE r s' e)
  obtain ⟨v, η₁, ⟨rfl, e⟩, I₁, rv, st⟩ := hq
  subst e
  unfold Rv at rv; subst rv
  refine callWith_SL (first := []) Callee.ty p o I₁ (F.step I st) hs (fun us η₂ s₂ as q I₂ r st₂ => ?_) fun r s' e => hE r s' (e.older st)
  obtain ⟨vs, ws, l2, rfl, el, q⟩ := q
  obtain ⟨y, z, rfl, ry, rz⟩ := rvs2 r
  unfold Rv at ry rz
  obtain ⟨l1, xs, n1, rfl, g1, ⟨e1, p1⟩, _, r1⟩ := ry
  obtain ⟨rfl, _⟩ := rz
  obtain ⟨ys, n2, g2, _, r2⟩ := I₂.hrel _ _ el
  refine call_zip_2 (xs := xs.toArray) (ys := ys.toArray) ⟨_, g1, rfl, _, rfl⟩ ⟨_, g2, rfl, _, rfl⟩ fun h' a1 a2 a3 a4 a5 a6 keep => ?_
  refine wpAny_pyIter_zip (s := { s₂ with heap := h' }) a1 ?_
  have lt1 := Heap.lt_size g1
  have lt2 := Heap.lt_size g2
  have D : ZipApart (s₂.heap.objs.size + 4) (s₂.heap.objs.size + 2) (s₂.heap.objs.size + 3) s₂.heap.objs.size (s₂.heap.objs.size + 1) l1 l2 := by
    constructor <;> (generalize s₂.heap.objs.size = nn at *; unfold Addr at *; omega)
  have frs : ∀ j, s₂.heap.get? (s₂.heap.objs.size + j) = Option.none := fun j => by
    cases e : s₂.heap.get? (s₂.heap.objs.size + j) with
    | none => rfl
    | some ob => exact absurd (Heap.lt_size e) (Nat.not_lt.mpr (Nat.le_add_right _ _))
  have hJ : ∀ b, (b = s₂.heap.objs.size + 4 ∨ b = s₂.heap.objs.size + 2 ∨ b = s₂.heap.objs.size + 3 ∨ b = s₂.heap.objs.size ∨ b = s₂.heap.objs.size + 1) → s₂.heap.get? b = Option.none := fun b q => by
    rcases q with rfl | rfl | rfl | rfl | rfl
    · exact frs 4
    · exact frs 2
    · exact frs 3
    · exact frs 0
    · exact frs 1
  have hJf : ∀ b, (b = s₂.heap.objs.size + 4 ∨ b = s₂.heap.objs.size + 2 ∨ b = s₂.heap.objs.size + 3 ∨ b = s₂.heap.objs.size ∨ b = s₂.heap.objs.size + 1) → ¬ isFr A b := fun b q f => by
    obtain ⟨o, e⟩ := Option.isSome_iff_exists.mp (I₂.privs _ (I₂.frs _ f)).1
    rw [hJ b q] at e; cases e
  have m : Mono pr η₂ s₂.heap η₂ (fun b => pr b ∨ (b = s₂.heap.objs.size + 4 ∨ b = s₂.heap.objs.size + 2 ∨ b = s₂.heap.objs.size + 3 ∨ b = s₂.heap.objs.size ∨ b = s₂.heap.objs.size + 1)) h' :=
    ⟨fun b ob e _ _ => keep b ob e, fun _ e => e, fun b ob e n p => ⟨n, fun q => q.elim p fun q => by rw [hJ b q] at e; cases e⟩⟩
  exact hQ _ (zipV vs ws) η₂ s₂ h' s₂.toks _ _ _ q I₂ (st.trans st₂) (itr_zipR (xs := xs) (n1 := n1) (vs := vs) (ws := ws) (o.handled rfl) D) hJ hJf keep
    ⟨⟨a1, a2, ⟨_, _, a3⟩, a4, a5⟩, keep _ _ g1, m.new _ _ g1 e1 p1, Rvs.mono m _ r1⟩

section
variable {scope : Scope} {nmC : List (Str × NameKind)} {τ : List (Option V)} {iter elt t : Expr} {h₀ : Heap}
/-- a comprehension that a name takes, a new list that will be changed -/
theorem SX.assignCompM {x : Str} {px : Pos} {spos : Pos} (xs : List Str) (cnd : Option Expr) (cap : CapR nm σ scope.names nmC τ) (hk : (x, NameKind.local) ∈ nm)
    (p : SJ c d nm σ η iter t (fun G vs η₁ => vs.length ≤ sizeLine ∧ CompLG c d nmC t xs cnd elt (fun ws η₂ => ∀ a, η₂ a = Option.none → ∃ σ', Put nm σ x (.loc a) σ' ∧ N σ' (η₂.set a (.lst ws))) G vs [] τ η₁) X)
    (hl : (px.line == pos.line) = true := by with_unfolding_all rfl) (hn : (scope.names.any fun (n, k) => n == x && (k == .local || k == .cell)) = false := by decide +kernel)
    (ok : compOk scope xs = true := by decide +kernel) (hs : ∀ env x, foldedSetIterable iter env x = pure x := by intro _ _; with_unfolding_all rfl) :
    SX c d true nm σ η (.Assign [.Name x px] (.ListComp elt [⟨t, iter, ifsOf cnd, 0⟩] scope pos) spos) N R X := by
  intro A env s pr outer o I F h1 h2
  have kb : env.blockKind = .function := by unfold Env.blockKind; rw [F.kind]; rfl
  have hsw : swapsWith (.ListComp elt [⟨t, iter, ifsOf cnd, 0⟩] scope pos) (some (.Name x px)) spos.line env = pure true := by
    unfold swapsWith
    have e1 : ((Expr.ListComp elt [⟨t, iter, ifsOf cnd, 0⟩] scope pos).pos.line) = pos.line := rfl
    simp only [pure_bind, kb, F.kindOf hk, e1, hl, hn, beq_self_eq_true, Bool.and_self, Bool.not_false]
  rw [exec_Assign_Name_used _ _ _ _ hsw]
  obtain ⟨hkind, hnames⟩ := compNames ok
  refine wpAny_bind (wpAny_standAt (wpAny_bind ?_))
  show wpAny _ A (do let _ ← comprehension (.ListComp elt [⟨t, iter, ifsOf cnd, 0⟩] scope pos) scope env _ (newList []) false (eval iter env) (some (PySem.assign (.Name x px) env))) _ _ s
  refine wpAny_bind (wpAny_mono (wpAny_comprehension_free (use := some (PySem.assign (.Name x px) env)) (Q := fun _ s' => FPost c A pr nm env η s.heap N R .next s') (e := .ListComp elt [⟨t, iter, ifsOf cnd, 0⟩] scope pos) (g := ⟨t, iter, ifsOf cnd, 0⟩) (gs := []) rfl (hs env) (closure_eq (cap.free F)) hkind hnames
    (p A env s pr _ _ o I F (fun _ _ e => e.weak fun _ q => q.elim) fun G vs η₁ s₁ h₂ tk J I₀ St k I₁ st itr hJ hJf keep st0 => ?_)) (fun _ s' hq => wpAny_pure (wpAny_pure hq)) fun _ _ e => e)
  obtain ⟨hz, cl⟩ := k
  have F₁ := F.step I st
  refine comp_core ok o I₁ F₁ cap itr hJ hJf keep st0 hz cl fun ws η' s' D C its n m k hlen I' gD rs ηD nD bD sD sC ns stp => ?_
  have nCpr : ∀ b, pr b → ¬ b = C := fun b q e => by
    subst e
    have := (I₁.privs _ q).1; rw [sC] at this; cases this
  have nDpr : ∀ b, pr b → ¬ b = D := fun b q e => by
    subst e
    have := (I₁.privs _ q).1; rw [sD] at this; cases this
  have DneC : ¬ D = C := fun e => nD (.inr e)
  have I2 : Inv c η' (fun b => (pr b ∨ b = C) ∨ b = D) A s' := I'.less (fun b q => by
    rcases q with (q | q) | q
    · exact .inl q
    · exact .inr (.inl q)
    · exact .inr (.inr q)) fun b f => .inl (.inl (I.frs b f))
  have rs2 : Rvs c.P s'.heap η' (fun b => (pr b ∨ b = C) ∨ b = D) ws its := Rvs.mono (Mono.down (pr := fun b => (pr b ∨ b = C) ∨ b = D) fun b q => by
    rcases q with (q | q) | q
    · exact .inl q
    · exact .inr (.inl q)
    · exact .inr (.inr q)) _ rs
  have I3 : Inv c (η'.set D (.lst ws)) (fun b => pr b ∨ b = C) A s' := Inv.thaw I2 ηD nD bD gD hlen rs2 fun b f => .inl (I.frs b f)
  have F₁' : FrameR c s₁.heap η₁ (fun b => (pr b ∨ b = C) ∨ b = D) nm env σ := (F₁.more (J := fun b => b = C) (fun _ _ e => e) fun b e => e ▸ sC).more (J := fun b => b = D) (fun _ _ e => e) fun b e => e ▸ sD
  have F2 : FrameR c s'.heap η' (fun b => (pr b ∨ b = C) ∨ b = D) nm env σ := by
    refine F₁'.move (stp.toMono (fun _ q => q.elim) fun b f => .inl (.inl (I.frs b f))) fun b q ob e => ?_
    rcases q with (q | q) | q
    · exact stp.upto b ob e (I₁.privs b q).2.1 fun q => q
    · rw [q, sC] at e; cases e
    · rw [q, sD] at e; cases e
  have F3 : FrameR c s'.heap (η'.set D (.lst ws)) (fun b => pr b ∨ b = C) nm env σ := by
    have mt : Mono (fun b => (pr b ∨ b = C) ∨ b = D) η' s'.heap (η'.set D (.lst ws)) (fun b => pr b ∨ b = C) s'.heap := Mono.thaw ηD
    refine ⟨F2.kind, F2.names, F2.nodup, F2.globals, F2.builtins, F2.ns, .inl F.nsp, fun x a e => ⟨.inl (F.cells x a e).1, (F2.cells x a e).2⟩, F2.inj, F2.has, fun x k v e => ?_⟩
    obtain ⟨val, q, r⟩ := F2.vars x k v e
    exact ⟨val, q, Rv.mono mt v r⟩
  obtain ⟨σ', put, hN⟩ := k D ηD
  have rD : Rv c.P s'.heap (η'.set D (.lst ws)) (fun b => pr b ∨ b = C) (.loc D) (.ref D) := by
    unfold Rv; exact ⟨rfl, by rw [Hp.set_self]; rfl⟩
  refine wpAny_assign_Name (store_var I3 F3 put rD fun s₂ I₂ F₂ st₂ _ => ?_)
  have ownC : ¬ ownOf env C := fun q => by
    rcases q with q | ⟨z, q⟩
    · exact nCpr _ F.nsp q.symm
    · exact nCpr _ (F.cells z C q).1 rfl
  have nfC : ¬ isFr A C := fun f => nCpr C (I.frs C f) rfl
  have ns₂ : s₂.heap.Ns C m := ns_upto ns fun ob e => ⟨ob.slots, st₂.same C ob e (I3.privs C (.inr rfl)).2.1 (fun q => ownC (ownX_of C q)) nfC⟩
  refine ⟨m, ns₂, fun h' sb => ?_⟩
  have kC : ∀ b ob, ¬ b = C → s₂.heap.get? b = some ob → h'.get? b = some ob := fun b ob nb e => (sb.2 b nb).trans e
  have nsD : s.heap.get? D = Option.none := by
    cases q : s.heap.get? D with
    | none => rfl
    | some ob => have := st.there D ob q; rw [sD] at this; cases this
  have stD : Step A noOwn η s.heap (η'.set D (.lst ws)) s'.heap := Step.thaw (st.trans stp) nsD
  refine ⟨σ', _, hN, I₂.end (J := fun b => b = C) kC nCpr I.frs s₂.toks, F.down (F₂.wr (J := fun b => b = C) kC (fun b e => .inr e) fun b e => e ▸ ownC) fun b q => .inl q,
    (stD.own.trans (st₂.weak ownX_of)).then_keep (J := fun b => b = C) kC fun b e => ?_⟩
  subst e
  cases q : s.heap.get? b with
  | none => rfl
  | some ob => have := st.there b ob q; rw [sC] at this; cases this
theorem SS.assignCompM {x : Str} {px : Pos} {spos : Pos} (xs : List Str) (cnd : Option Expr) (cap : CapR nm σ scope.names nmC τ) (hk : (x, NameKind.local) ∈ nm)
    (p : SJ c d nm σ η iter t (fun G vs η₁ => vs.length ≤ sizeLine ∧ CompLG c d nmC t xs cnd elt (fun ws η₂ => ∀ a, η₂ a = Option.none → ∃ σ', Put nm σ x (.loc a) σ' ∧ SS c d true nm σ' (η₂.set a (.lst ws)) rest N R X) G vs [] τ η₁) X)
    (hl : (px.line == pos.line) = true := by with_unfolding_all rfl) (hn : (scope.names.any fun (n, k) => n == x && (k == .local || k == .cell)) = false := by decide +kernel)
    (ok : compOk scope xs = true := by decide +kernel) (hs : ∀ env x, foldedSetIterable iter env x = pure x := by intro _ _; with_unfolding_all rfl) :
    SS c d true nm σ η (.Assign [.Name x px] (.ListComp elt [⟨t, iter, ifsOf cnd, 0⟩] scope pos) spos :: rest) N R X := SS.cons (SX.assignCompM xs cnd cap hk p hl hn ok hs)
end
end

section
variable {c : Cx} {A : Around} {η : Hp} {d : Nat} {hd : Bool} {nm : List (Str × NameKind)} {σ : List (Option V)} {Q R : V → Hp → Prop} {X : Addr → Hp → Prop} {N : List (Option V) → Hp → Prop}
/-- a for over items by numbers, of a list that changes elsewhere -/
theorem ForLG.mapT {t : Expr} {xs : List Str} {body : List Stmt} {n : Nat} {u : Nat → V} {G : Hp → Prop} (hG : G η) (T : Nat → List (Option V)) (hb : ∀ k, k < n → SA c d nm (T k) η t xs (u k) fun τ => SS c d true nm τ η body (fun τ' η' => Less (T (k + 1)) τ' ∧ η' = η) R X)
    (hN : ∀ σ', Less (T n) σ' → N σ' η) {σ : List (Option V)} (l : Less (T 0) σ) : ForLG c d nm t xs body N R X G ((List.range n).map u) σ η := by
  have key : ∀ (m k : Nat) (σ : List (Option V)), k + m = n → Less (T k) σ → ForLG c d nm t xs body N R X G ((List.range' k m).map u) σ η := by
    intro m
    induction m with
    | zero => intro k σ e l; rw [List.range'_zero, List.map_nil]; unfold ForLG; have : k = n := by omega
              subst this; exact ⟨hG, hN σ l⟩
    | succ m ih =>
      intro k σ e l
      rw [List.range'_succ, List.map_cons]
      unfold ForLG
      refine ⟨hG, SA.forget l ((hb k (by omega)).mono fun τ p => p.mono (fun τ' η' q => ?_) (fun _ _ q => q) fun _ _ q => q)⟩
      obtain ⟨l', rfl⟩ := q
      exact ih (k + 1) τ' (by omega) l'
  have := key n 0 σ (by omega) l
  rwa [← List.range_eq_range'] at this
end
theorem mulBig {a b : Int} {k : Nat} (ha : a.natAbs ≤ 2 ^ k) (hb : b.natAbs ≤ 2 ^ k) (hk : k ≤ 2 ^ 25) : IntMulOk a b := by
  have h1 : Builtin.Int.intBits a ≤ k + 1 := bits_le (Nat.lt_of_le_of_lt ha (Nat.pow_lt_pow_right (by decide) (Nat.lt_succ_self k)))
  have h2 : Builtin.Int.intBits b ≤ k + 1 := bits_le (Nat.lt_of_le_of_lt hb (Nat.pow_lt_pow_right (by decide) (Nat.lt_succ_self k)))
  have h3 : bitsLine = 134217728 := by decide
  have h4 : Builtin.Int.intTooBig (Builtin.Int.intBits a + Builtin.Int.intBits b) = false := by
    unfold Builtin.Int.intTooBig
    rw [h3]
    exact decide_eq_false (by omega)
  unfold IntMulOk
  rw [h4]; simp

-- shares as rationals
/-- a share, in Python's form -/
noncomputable def rS (q : Rat) : V := .tup [.int q.num, .int q.den]
noncomputable abbrev rowR (n : Nat) (f : Nat → Rat) : List V := (List.range n).map fun k => rS (f k)
theorem shareOf_rat {t b : Int} (h : b ≠ 0) : shareOf t b = rS ((t : Rat) / (b : Rat)) := by
  have N' : Normal ((t : Rat) / (b : Rat)).num ((t : Rat) / (b : Rat)).den ((t : Rat) / (b : Rat)).num ((t : Rat) / (b : Rat)).den :=
    ⟨by have := ((t : Rat) / (b : Rat)).den_nz; omega, by have := ((t : Rat) / (b : Rat)).reduced; simpa [Int.gcd, Nat.Coprime] using this, rfl, Nat.le_refl _, Nat.le_refl _⟩
  obtain ⟨e1, e2⟩ := normal_uniq h (den_pos' _) (div_cross h) (shareOf_normal h) N'
  unfold shareOf rS
  rw [e1, e2]
theorem rS_zero : rS 0 = .tup [.int 0, .int 1] := rfl
theorem rS_one : rS 1 = .tup [.int 1, .int 1] := rfl
noncomputable abbrev rD (q : Rat) : PyData := .tuple [.int q.num, .int q.den]
theorem rS_pyr {η : Hp} (q : Rat) : PyR η (rS q) (rD q) := .tup (.cons .int (.cons .int .nil))
theorem rD_shaped (q : Rat) : PySem.SeqAt.shaped (rD q) = true := by simp [PySem.SeqAt.shaped, PyData.canLay0, PyData.canLayAll0, PyData.depth, PyData.depthAll]
theorem rD_eqv (x y : Rat) : PyData.eqv (rD x) (rD y) = decide (x = y) := by
  by_cases h : x = y
  · subst h; simp [PyData.eqv, PyData.eqvAll]
  · rw [decide_eq_false h]
    by_cases h1 : x.num = y.num
    · have h2 : ¬ x.den = y.den := fun e => h (Rat.ext h1 e)
      simp [PyData.eqv, PyData.eqvAll]; omega
    · simp [PyData.eqv, PyData.eqvAll, h1]
section
variable {c : Cx} {η : Hp} {d : Nat} {hd : Bool} {Q : V → Hp → Prop} {X : Addr → Hp → Prop}
theorem S2.neZ {x : Rat} (q : Q (.bool (!decide (x = 0))) η) : S2 c d hd (compareOp .NotEq) (rS x) (.tup [.int 0, .int 1]) η Q X := by
  refine S2.neD (rS_pyr x) (rS_pyr 0) (rD_shaped _) (rD_shaped _) ?_
  rw [rD_eqv]; exact q
end
theorem row_add (f : Nat → Rat) (a b : Nat) : rowR (a + b) f = rowR a f ++ (List.range b).map fun k => rS (f (a + k)) := by
  unfold rowR; rw [List.range_add, List.map_append, List.map_map]; rfl
theorem row_snoc (f : Nat → Rat) (m : Nat) : rowR (m + 1) f = rowR m f ++ [rS (f m)] := by
  unfold rowR; rw [List.range_succ, List.map_append]; rfl
theorem row_congr {n : Nat} {f g : Nat → Rat} (h : ∀ k, k < n → f k = g k) : rowR n f = rowR n g := by
  refine List.map_congr_left fun k hk => ?_
  rw [h k (List.mem_range.mp hk)]
theorem row_pad {f : Nat → Rat} {a m : Nat} (h : a ≤ m) (z : ∀ k, a ≤ k → f k = 0) : rowR a f ++ List.replicate (m - a) (rS 0) = rowR m f := by
  obtain ⟨b, rfl⟩ : ∃ b, m = a + b := ⟨m - a, by omega⟩
  rw [row_add, show a + b - a = b by omega]
  congr 1
  refine List.ext_getElem? fun i => ?_
  rw [List.getElem?_replicate, List.getElem?_map]
  by_cases hi : i < b
  · rw [if_pos hi, List.getElem?_range hi]; simp [z (a + i) (by omega)]
  · rw [if_neg hi, List.getElem?_eq_none (by simpa using hi)]; rfl
theorem row_shs (n : Nat) (f : Nat → Rat) : Shs (rowR n f) := fun v hv => by
  obtain ⟨k, _, rfl⟩ := List.mem_map.mp hv
  exact ⟨_, _, rfl⟩
theorem row_linR {η : Hp} (n : Nat) (f : Nat → Rat) : Lins η (rowR n f) := lins_of fun v hv => by
  obtain ⟨k, _, rfl⟩ := List.mem_map.mp hv
  exact ⟨trivial, trivial, trivial⟩
end Mine

namespace Mine
open PySem PySem.W PyProof.Rows

/-- the parts of the text, by their places in the program -/
noncomputable def stAt (p : Program) (i : Nat) : Stmt := p.main.body.getD i (.Pass default)
noncomputable def stIn (s : Stmt) (j : Nat) : Stmt := match s with | .ClassDef _ _ _ b _ _ _ _ _ _ _ => b.getD j (.Pass default) | _ => .Pass default
noncomputable def fnA : Stmt → Arguments | .FunctionDef _ a _ _ _ _ _ _ _ _ => a | _ => default
noncomputable def fnB : Stmt → List Stmt | .FunctionDef _ _ b _ _ _ _ _ _ _ => b | _ => []
noncomputable def fnS : Stmt → Scope | .FunctionDef _ _ _ _ _ _ s _ _ _ => s | _ => default
noncomputable def fnP : Stmt → Pos | .FunctionDef _ _ _ _ _ _ _ _ _ p => p | _ => default
noncomputable def stsAt (p : Program) (i n : Nat) : List Stmt := ((behindTheImports p).drop i).take n
noncomputable def dE (P : Params) (s : String) (t : Tok) (v : Value) : DictEntry := ⟨PyData.keyHash P (Str.ofString s), .str (Str.ofString s) t, v⟩

/-- a list of objects as a tree, by recursors alone (the kernel runs it) -/
noncomputable def unz (l : List Obj) : List Obj × List Obj := @List.rec Obj (fun _ => List Obj × List Obj) ([], []) (fun a _ ih => (a :: ih.2, ih.1)) l
noncomputable def btOf (n : Nat) : List Obj → BT := @Nat.rec (fun _ => List Obj → BT) (fun _ => .nil) (fun _ ih l => @List.rec Obj (fun _ => BT) .nil (fun a t _ => .node a (ih (unz t).1) (ih (unz t).2)) l) n
end Mine

open PySem PySem.W PyProof.Rows
namespace Mine
noncomputable abbrev PW : Program := PySem.Challenge.pw_uf020009_04
namespace Hd
noncomputable def sh0 (P : Params)  : Obj := (@PySem.Obj.mk (@PySem.Value.type "tuple") none (@PySem.Data.seq (@List.toArray @PySem.Value []) 0) (@List.toArray (@Option @PySem.Value) []))
noncomputable def o11 (P : Params) : Obj := sh0 P 
noncomputable def sh1 (P : Params)  : Obj := (@PySem.Obj.mk @PySem.Value.none none (@PySem.Data.fields (@List.toArray @PySem.Value [])) (@List.toArray (@Option @PySem.Value) []))
noncomputable def o12 (P : Params) : Obj := sh1 P 
noncomputable def sh2 (P : Params) (a0 : String) (a1 : Nat) (a2 : Nat) (a3 : Nat) (a4 : Nat) (a5 : Nat) (a6 : Nat) (a7 : Nat) (a8 : Nat) : Obj := (@PySem.Obj.mk (@PySem.Value.type "code") none (@PySem.Data.fields (@List.toArray @PySem.Value [(@PySem.Value.str (@PySem.Str.ofString a0) a1), (@PySem.Value.str (@PySem.Str.ofString a0) a2), (@PySem.Value.str (@PySem.Str.ofString "/claim/cut.py") a3), (@PySem.Value.int (@OfNat.ofNat @Int a4 (@instOfNat a4)) 0), (@PySem.Value.int (@OfNat.ofNat @Int 0 (@instOfNat 0)) 0), (@PySem.Value.int (@OfNat.ofNat @Int 0 (@instOfNat 0)) 0), (@PySem.Value.int (@OfNat.ofNat @Int 0 (@instOfNat 0)) 0), (@PySem.Value.int (@OfNat.ofNat @Int 0 (@instOfNat 0)) 0), (@PySem.Value.ref a5), (@PySem.Value.bool @Bool.false), (@PySem.Value.int (@OfNat.ofNat @Int 181 (@instOfNat 181)) 0), (@PySem.Value.ref a6), @PySem.Value.none, @PySem.Value.none, @PySem.Value.none, @PySem.Value.none, (@PySem.Value.int (@OfNat.ofNat @Int a7 (@instOfNat a7)) 0), (@PySem.Value.int (@OfNat.ofNat @Int a4 (@instOfNat a4)) 0), (@PySem.Value.str (@PySem.Str.ofString "/claim/cut.py") a8)])) (@List.toArray (@Option @PySem.Value) []))
noncomputable def o13 (P : Params) : Obj := sh2 P "<module>" 182 183 184 1 11 12 185 186
noncomputable def sh3 (P : Params) (a0 : Nat) (a1 : Nat) (a2 : String) (a3 : Nat) : Obj := (@PySem.Obj.mk (@PySem.Value.type "frame") none @PySem.Data.plain (@List.toArray (@Option @PySem.Value) [(some (@PySem.Value.ref a0)), (some (@PySem.Value.ref 3)), (some (@PySem.Value.ref a1)), none, (some (@PySem.Value.str (@PySem.Str.ofString a2) a3)), none, (some (@PySem.Value.ref 0))]))
noncomputable def o14 (P : Params) : Obj := sh3 P 13 3 "__main__" 164
noncomputable def o3_0 (P : Params) : Obj := (@PySem.Obj.mk (@PySem.Value.type "dict") none (@PySem.Data.dict (@List.toArray @PySem.DictEntry [(dE P "__name__" 165 (@PySem.Value.str (@PySem.Str.ofString "weighwords.errors") 187)), (dE P "__doc__" 166 @PySem.Value.none), (dE P "__package__" 167 @PySem.Value.none), (dE P "__loader__" 168 (@PySem.Value.builtin "__main__.__loader__#opaque")), (dE P "__spec__" 169 @PySem.Value.none), (dE P "__annotations__" 170 (@PySem.Value.ref 6)), (dE P "__builtins__" 171 (@PySem.Value.ref 4)), (dE P "__file__" 173 (@PySem.Value.str (@PySem.Str.ofString "/claim/cut.py") 172)), (dE P "__cached__" 174 @PySem.Value.none), (dE P "WeighError" 206 (@PySem.Value.ref 24))]) 10) (@List.toArray (@Option @PySem.Value) []))
noncomputable def o12_0 (P : Params) : Obj := (@PySem.Obj.mk @PySem.Value.none none (@PySem.Data.fields (@List.toArray @PySem.Value [(@PySem.Value.int (@OfNat.ofNat @Int 2 (@instOfNat 2)) 0), (@PySem.Value.int (@OfNat.ofNat @Int 0 (@instOfNat 0)) 0), (@PySem.Value.ref 20)])) (@List.toArray (@Option @PySem.Value) []))
noncomputable def o15 (P : Params) : Obj := (@PySem.Obj.mk (@PySem.Value.type "tuple") none (@PySem.Data.seq (@List.toArray @PySem.Value [(@PySem.Value.type "ValueError")]) 0) (@List.toArray (@Option @PySem.Value) []))
noncomputable def sh4 (P : Params)  : Obj := (@PySem.Obj.mk (@PySem.Value.type "builtin_function_or_method") none (@PySem.Data.fields (@List.toArray @PySem.Value [(@PySem.Value.builtin "type.__prepare__"), (@PySem.Value.type "type")])) (@List.toArray (@Option @PySem.Value) []))
noncomputable def o16 (P : Params) : Obj := sh4 P 
noncomputable def sh5 (P : Params) (a0 : Nat) (a1 : Nat) (a2 : String) (a3 : Nat) (a4 : Nat) (a5 : Nat) (a6 : Nat) (a7 : Nat) (a8 : Nat) : Obj := (@PySem.Obj.mk (@PySem.Value.type "dict") none (@PySem.Data.dict (@List.toArray @PySem.DictEntry [(dE P "__module__" a0 (@PySem.Value.str (@PySem.Str.ofString "weighwords.errors") 187)), (dE P "__qualname__" a1 (@PySem.Value.str (@PySem.Str.ofString a2) a3)), (dE P "__firstlineno__" a4 (@PySem.Value.int (@OfNat.ofNat @Int a5 (@instOfNat a5)) a6)), (dE P "__static_attributes__" a7 (@PySem.Value.ref a8))]) 4) (@List.toArray (@Option @PySem.Value) []))
noncomputable def o17 (P : Params) : Obj := sh5 P 196 198 "WeighError" 197 200 2 199 201 22
noncomputable def o18 (P : Params) : Obj := sh0 P 
noncomputable def o19 (P : Params) : Obj := sh1 P 
noncomputable def o20 (P : Params) : Obj := sh2 P "WeighError" 191 192 193 2 18 19 194 195
noncomputable def o21 (P : Params) : Obj := sh3 P 20 17 "weighwords.errors" 187
noncomputable def o22 (P : Params) : Obj := sh0 P 
noncomputable def o23 (P : Params) : Obj := (@PySem.Obj.mk (@PySem.Value.type "dict") none (@PySem.Data.dict (@List.toArray @PySem.DictEntry [(dE P "__module__" 196 (@PySem.Value.str (@PySem.Str.ofString "weighwords.errors") 187)), (dE P "__firstlineno__" 200 (@PySem.Value.int (@OfNat.ofNat @Int 2 (@instOfNat 2)) 199)), (dE P "__static_attributes__" 201 (@PySem.Value.ref 22)), (dE P "__weakref__" 203 (@PySem.Value.ref 25)), (dE P "__doc__" 204 @PySem.Value.none)]) 3) (@List.toArray (@Option @PySem.Value) []))
noncomputable def o24 (P : Params) : Obj := (@PySem.Obj.mk (@PySem.Value.type "type") none (@PySem.Data.cls (@PySem.ClassData.mk (@PySem.Str.ofString "WeighError") [(@PySem.Value.type "ValueError")] [(@PySem.Value.ref 24), (@PySem.Value.type "ValueError"), (@PySem.Value.type "Exception"), (@PySem.Value.type "BaseException"), (@PySem.Value.type "object")] 23 (@PySem.Str.ofString "WeighError") @Bool.true [] [] @Bool.false none @Bool.false)) (@List.toArray (@Option @PySem.Value) [(some (@PySem.Value.ref 15)), none, (some (@PySem.Value.str (@PySem.Str.ofString "WeighError") 189)), (some (@PySem.Value.str (@PySem.Str.ofString "WeighError") 197)), (some (@PySem.Value.builtin "ValueError.__new__")), (some (@PySem.Value.bool @Bool.true))]))
noncomputable def sh6 (P : Params) (a0 : Nat) (a1 : Nat) : Obj := (@PySem.Obj.mk (@PySem.Value.type "getset_descriptor") none (@PySem.Data.fields (@List.toArray @PySem.Value [(@PySem.Value.str (@PySem.Str.ofString "__weakref__") a0), (@PySem.Value.ref a1), (@PySem.Value.builtin "ExceptionGroup.__weakref__"), @PySem.Value.none])) (@List.toArray (@Option @PySem.Value) []))
noncomputable def o25 (P : Params) : Obj := sh6 P 202 24
noncomputable def sh7 (P : Params) (a0 : Nat) : Obj := (@PySem.Obj.mk (@PySem.Value.type "super") none (@PySem.Data.fields (@List.toArray @PySem.Value [(@PySem.Value.ref a0), (@PySem.Value.ref a0), (@PySem.Value.ref a0)])) (@List.toArray (@Option @PySem.Value) []))
noncomputable def o26 (P : Params) : Obj := sh7 P 24
noncomputable def sh8 (P : Params) (a0 : Nat) : Obj := (@PySem.Obj.mk (@PySem.Value.type "builtin_function_or_method") none (@PySem.Data.fields (@List.toArray @PySem.Value [(@PySem.Value.builtin "object.__init_subclass__"), (@PySem.Value.ref a0)])) (@List.toArray (@Option @PySem.Value) []))
noncomputable def o27 (P : Params) : Obj := sh8 P 24
noncomputable def o3_1 (P : Params) : Obj := (@PySem.Obj.mk (@PySem.Value.type "dict") none (@PySem.Data.dict (@List.toArray @PySem.DictEntry [(dE P "__name__" 165 (@PySem.Value.str (@PySem.Str.ofString "weighwords.errors") 187)), (dE P "__doc__" 166 @PySem.Value.none), (dE P "__package__" 167 @PySem.Value.none), (dE P "__loader__" 168 (@PySem.Value.builtin "__main__.__loader__#opaque")), (dE P "__spec__" 169 @PySem.Value.none), (dE P "__annotations__" 170 (@PySem.Value.ref 6)), (dE P "__builtins__" 171 (@PySem.Value.ref 4)), (dE P "__file__" 173 (@PySem.Value.str (@PySem.Str.ofString "/claim/cut.py") 172)), (dE P "__cached__" 174 @PySem.Value.none), (dE P "WeighError" 206 (@PySem.Value.ref 24)), (dE P "Nought" 222 (@PySem.Value.ref 37))]) 11) (@List.toArray (@Option @PySem.Value) []))
noncomputable def o12_1 (P : Params) : Obj := (@PySem.Obj.mk @PySem.Value.none none (@PySem.Data.fields (@List.toArray @PySem.Value [(@PySem.Value.int (@OfNat.ofNat @Int 2 (@instOfNat 2)) 0), (@PySem.Value.int (@OfNat.ofNat @Int 0 (@instOfNat 0)) 0), (@PySem.Value.ref 20), (@PySem.Value.int (@OfNat.ofNat @Int 4 (@instOfNat 4)) 0), (@PySem.Value.int (@OfNat.ofNat @Int 0 (@instOfNat 0)) 0), (@PySem.Value.ref 33)])) (@List.toArray (@Option @PySem.Value) []))
noncomputable def o24_1 (P : Params) : Obj := (@PySem.Obj.mk (@PySem.Value.type "type") none (@PySem.Data.cls (@PySem.ClassData.mk (@PySem.Str.ofString "WeighError") [(@PySem.Value.type "ValueError")] [(@PySem.Value.ref 24), (@PySem.Value.type "ValueError"), (@PySem.Value.type "Exception"), (@PySem.Value.type "BaseException"), (@PySem.Value.type "object")] 23 (@PySem.Str.ofString "WeighError") @Bool.true [] [(@PySem.Value.ref 37)] @Bool.false none @Bool.false)) (@List.toArray (@Option @PySem.Value) [(some (@PySem.Value.ref 15)), none, (some (@PySem.Value.str (@PySem.Str.ofString "WeighError") 189)), (some (@PySem.Value.str (@PySem.Str.ofString "WeighError") 197)), (some (@PySem.Value.builtin "ValueError.__new__")), (some (@PySem.Value.bool @Bool.true))]))
noncomputable def sh9 (P : Params)  : Obj := (@PySem.Obj.mk (@PySem.Value.type "tuple") none (@PySem.Data.seq (@List.toArray @PySem.Value [(@PySem.Value.ref 24)]) 0) (@List.toArray (@Option @PySem.Value) []))
noncomputable def o28 (P : Params) : Obj := sh9 P 
noncomputable def o29 (P : Params) : Obj := sh4 P 
noncomputable def o30 (P : Params) : Obj := sh5 P 214 216 "Nought" 215 218 4 217 219 35
noncomputable def o31 (P : Params) : Obj := sh0 P 
noncomputable def o32 (P : Params) : Obj := sh1 P 
noncomputable def o33 (P : Params) : Obj := sh2 P "Nought" 209 210 211 4 31 32 212 213
noncomputable def o34 (P : Params) : Obj := sh3 P 33 30 "weighwords.errors" 187
noncomputable def o35 (P : Params) : Obj := sh0 P 
noncomputable def sh10 (P : Params) (a0 : Nat) (a1 : Nat) (a2 : Nat) (a3 : Nat) (a4 : Nat) (a5 : Nat) (a6 : Nat) : Obj := (@PySem.Obj.mk (@PySem.Value.type "dict") none (@PySem.Data.dict (@List.toArray @PySem.DictEntry [(dE P "__module__" a0 (@PySem.Value.str (@PySem.Str.ofString "weighwords.errors") 187)), (dE P "__firstlineno__" a1 (@PySem.Value.int (@OfNat.ofNat @Int a2 (@instOfNat a2)) a3)), (dE P "__static_attributes__" a4 (@PySem.Value.ref a5)), (dE P "__doc__" a6 @PySem.Value.none)]) 2) (@List.toArray (@Option @PySem.Value) []))
noncomputable def o36 (P : Params) : Obj := sh10 P 214 218 4 217 219 35 220
noncomputable def sh11 (P : Params) (a0 : String) (a1 : Nat) (a2 : Nat) (a3 : Nat) (a4 : Nat) (a5 : Nat) : Obj := (@PySem.Obj.mk (@PySem.Value.type "type") none (@PySem.Data.cls (@PySem.ClassData.mk (@PySem.Str.ofString a0) [(@PySem.Value.ref 24)] [(@PySem.Value.ref a1), (@PySem.Value.ref 24), (@PySem.Value.type "ValueError"), (@PySem.Value.type "Exception"), (@PySem.Value.type "BaseException"), (@PySem.Value.type "object")] a2 (@PySem.Str.ofString a0) @Bool.true [] [] @Bool.false none @Bool.false)) (@List.toArray (@Option @PySem.Value) [(some (@PySem.Value.ref a3)), none, (some (@PySem.Value.str (@PySem.Str.ofString a0) a4)), (some (@PySem.Value.str (@PySem.Str.ofString a0) a5)), (some (@PySem.Value.builtin "ValueError.__new__")), (some (@PySem.Value.bool @Bool.true))]))
noncomputable def o37 (P : Params) : Obj := sh11 P "Nought" 37 36 28 207 215
noncomputable def o38 (P : Params) : Obj := sh7 P 37
noncomputable def o39 (P : Params) : Obj := sh8 P 37
noncomputable def o3_2 (P : Params) : Obj := (@PySem.Obj.mk (@PySem.Value.type "dict") none (@PySem.Data.dict (@List.toArray @PySem.DictEntry [(dE P "__name__" 165 (@PySem.Value.str (@PySem.Str.ofString "weighwords.errors") 187)), (dE P "__doc__" 166 @PySem.Value.none), (dE P "__package__" 167 @PySem.Value.none), (dE P "__loader__" 168 (@PySem.Value.builtin "__main__.__loader__#opaque")), (dE P "__spec__" 169 @PySem.Value.none), (dE P "__annotations__" 170 (@PySem.Value.ref 6)), (dE P "__builtins__" 171 (@PySem.Value.ref 4)), (dE P "__file__" 173 (@PySem.Value.str (@PySem.Str.ofString "/claim/cut.py") 172)), (dE P "__cached__" 174 @PySem.Value.none), (dE P "WeighError" 206 (@PySem.Value.ref 24)), (dE P "Nought" 222 (@PySem.Value.ref 37)), (dE P "NoText" 238 (@PySem.Value.ref 49))]) 12) (@List.toArray (@Option @PySem.Value) []))
noncomputable def o12_2 (P : Params) : Obj := (@PySem.Obj.mk @PySem.Value.none none (@PySem.Data.fields (@List.toArray @PySem.Value [(@PySem.Value.int (@OfNat.ofNat @Int 2 (@instOfNat 2)) 0), (@PySem.Value.int (@OfNat.ofNat @Int 0 (@instOfNat 0)) 0), (@PySem.Value.ref 20), (@PySem.Value.int (@OfNat.ofNat @Int 4 (@instOfNat 4)) 0), (@PySem.Value.int (@OfNat.ofNat @Int 0 (@instOfNat 0)) 0), (@PySem.Value.ref 33), (@PySem.Value.int (@OfNat.ofNat @Int 6 (@instOfNat 6)) 0), (@PySem.Value.int (@OfNat.ofNat @Int 0 (@instOfNat 0)) 0), (@PySem.Value.ref 45)])) (@List.toArray (@Option @PySem.Value) []))
noncomputable def o24_2 (P : Params) : Obj := (@PySem.Obj.mk (@PySem.Value.type "type") none (@PySem.Data.cls (@PySem.ClassData.mk (@PySem.Str.ofString "WeighError") [(@PySem.Value.type "ValueError")] [(@PySem.Value.ref 24), (@PySem.Value.type "ValueError"), (@PySem.Value.type "Exception"), (@PySem.Value.type "BaseException"), (@PySem.Value.type "object")] 23 (@PySem.Str.ofString "WeighError") @Bool.true [] [(@PySem.Value.ref 37), (@PySem.Value.ref 49)] @Bool.false none @Bool.false)) (@List.toArray (@Option @PySem.Value) [(some (@PySem.Value.ref 15)), none, (some (@PySem.Value.str (@PySem.Str.ofString "WeighError") 189)), (some (@PySem.Value.str (@PySem.Str.ofString "WeighError") 197)), (some (@PySem.Value.builtin "ValueError.__new__")), (some (@PySem.Value.bool @Bool.true))]))
noncomputable def o40 (P : Params) : Obj := sh9 P 
noncomputable def o41 (P : Params) : Obj := sh4 P 
noncomputable def o42 (P : Params) : Obj := sh5 P 230 232 "NoText" 231 234 6 233 235 47
noncomputable def o43 (P : Params) : Obj := sh0 P 
noncomputable def o44 (P : Params) : Obj := sh1 P 
noncomputable def o45 (P : Params) : Obj := sh2 P "NoText" 225 226 227 6 43 44 228 229
noncomputable def o46 (P : Params) : Obj := sh3 P 45 42 "weighwords.errors" 187
noncomputable def o47 (P : Params) : Obj := sh0 P 
noncomputable def o48 (P : Params) : Obj := sh10 P 230 234 6 233 235 47 236
noncomputable def o49 (P : Params) : Obj := sh11 P "NoText" 49 48 40 223 231
noncomputable def o50 (P : Params) : Obj := sh7 P 49
noncomputable def o51 (P : Params) : Obj := sh8 P 49
noncomputable def o3_3 (P : Params) : Obj := (@PySem.Obj.mk (@PySem.Value.type "dict") none (@PySem.Data.dict (@List.toArray @PySem.DictEntry [(dE P "__name__" 165 (@PySem.Value.str (@PySem.Str.ofString "weighwords.errors") 187)), (dE P "__doc__" 166 @PySem.Value.none), (dE P "__package__" 167 @PySem.Value.none), (dE P "__loader__" 168 (@PySem.Value.builtin "__main__.__loader__#opaque")), (dE P "__spec__" 169 @PySem.Value.none), (dE P "__annotations__" 170 (@PySem.Value.ref 6)), (dE P "__builtins__" 171 (@PySem.Value.ref 4)), (dE P "__file__" 173 (@PySem.Value.str (@PySem.Str.ofString "/claim/cut.py") 172)), (dE P "__cached__" 174 @PySem.Value.none), (dE P "WeighError" 206 (@PySem.Value.ref 24)), (dE P "Nought" 222 (@PySem.Value.ref 37)), (dE P "NoText" 238 (@PySem.Value.ref 49)), (dE P "NoRow" 254 (@PySem.Value.ref 61))]) 13) (@List.toArray (@Option @PySem.Value) []))
noncomputable def o12_3 (P : Params) : Obj := (@PySem.Obj.mk @PySem.Value.none none (@PySem.Data.fields (@List.toArray @PySem.Value [(@PySem.Value.int (@OfNat.ofNat @Int 2 (@instOfNat 2)) 0), (@PySem.Value.int (@OfNat.ofNat @Int 0 (@instOfNat 0)) 0), (@PySem.Value.ref 20), (@PySem.Value.int (@OfNat.ofNat @Int 4 (@instOfNat 4)) 0), (@PySem.Value.int (@OfNat.ofNat @Int 0 (@instOfNat 0)) 0), (@PySem.Value.ref 33), (@PySem.Value.int (@OfNat.ofNat @Int 6 (@instOfNat 6)) 0), (@PySem.Value.int (@OfNat.ofNat @Int 0 (@instOfNat 0)) 0), (@PySem.Value.ref 45), (@PySem.Value.int (@OfNat.ofNat @Int 8 (@instOfNat 8)) 0), (@PySem.Value.int (@OfNat.ofNat @Int 0 (@instOfNat 0)) 0), (@PySem.Value.ref 57)])) (@List.toArray (@Option @PySem.Value) []))
noncomputable def o24_3 (P : Params) : Obj := (@PySem.Obj.mk (@PySem.Value.type "type") none (@PySem.Data.cls (@PySem.ClassData.mk (@PySem.Str.ofString "WeighError") [(@PySem.Value.type "ValueError")] [(@PySem.Value.ref 24), (@PySem.Value.type "ValueError"), (@PySem.Value.type "Exception"), (@PySem.Value.type "BaseException"), (@PySem.Value.type "object")] 23 (@PySem.Str.ofString "WeighError") @Bool.true [] [(@PySem.Value.ref 37), (@PySem.Value.ref 49), (@PySem.Value.ref 61)] @Bool.false none @Bool.false)) (@List.toArray (@Option @PySem.Value) [(some (@PySem.Value.ref 15)), none, (some (@PySem.Value.str (@PySem.Str.ofString "WeighError") 189)), (some (@PySem.Value.str (@PySem.Str.ofString "WeighError") 197)), (some (@PySem.Value.builtin "ValueError.__new__")), (some (@PySem.Value.bool @Bool.true))]))
noncomputable def o52 (P : Params) : Obj := sh9 P 
noncomputable def o53 (P : Params) : Obj := sh4 P 
noncomputable def o54 (P : Params) : Obj := sh5 P 246 248 "NoRow" 247 250 8 249 251 59
noncomputable def o55 (P : Params) : Obj := sh0 P 
noncomputable def o56 (P : Params) : Obj := sh1 P 
noncomputable def o57 (P : Params) : Obj := sh2 P "NoRow" 241 242 243 8 55 56 244 245
noncomputable def o58 (P : Params) : Obj := sh3 P 57 54 "weighwords.errors" 187
noncomputable def o59 (P : Params) : Obj := sh0 P 
noncomputable def o60 (P : Params) : Obj := sh10 P 246 250 8 249 251 59 252
noncomputable def o61 (P : Params) : Obj := sh11 P "NoRow" 61 60 52 239 247
noncomputable def o62 (P : Params) : Obj := sh7 P 61
noncomputable def o63 (P : Params) : Obj := sh8 P 61
noncomputable def o3_4 (P : Params) : Obj := (@PySem.Obj.mk (@PySem.Value.type "dict") none (@PySem.Data.dict (@List.toArray @PySem.DictEntry [(dE P "__name__" 165 (@PySem.Value.str (@PySem.Str.ofString "weighwords.errors") 187)), (dE P "__doc__" 166 @PySem.Value.none), (dE P "__package__" 167 @PySem.Value.none), (dE P "__loader__" 168 (@PySem.Value.builtin "__main__.__loader__#opaque")), (dE P "__spec__" 169 @PySem.Value.none), (dE P "__annotations__" 170 (@PySem.Value.ref 6)), (dE P "__builtins__" 171 (@PySem.Value.ref 4)), (dE P "__file__" 173 (@PySem.Value.str (@PySem.Str.ofString "/claim/cut.py") 172)), (dE P "__cached__" 174 @PySem.Value.none), (dE P "WeighError" 206 (@PySem.Value.ref 24)), (dE P "Nought" 222 (@PySem.Value.ref 37)), (dE P "NoText" 238 (@PySem.Value.ref 49)), (dE P "NoRow" 254 (@PySem.Value.ref 61)), (dE P "NoMachine" 270 (@PySem.Value.ref 73))]) 14) (@List.toArray (@Option @PySem.Value) []))
noncomputable def o12_4 (P : Params) : Obj := (@PySem.Obj.mk @PySem.Value.none none (@PySem.Data.fields (@List.toArray @PySem.Value [(@PySem.Value.int (@OfNat.ofNat @Int 2 (@instOfNat 2)) 0), (@PySem.Value.int (@OfNat.ofNat @Int 0 (@instOfNat 0)) 0), (@PySem.Value.ref 20), (@PySem.Value.int (@OfNat.ofNat @Int 4 (@instOfNat 4)) 0), (@PySem.Value.int (@OfNat.ofNat @Int 0 (@instOfNat 0)) 0), (@PySem.Value.ref 33), (@PySem.Value.int (@OfNat.ofNat @Int 6 (@instOfNat 6)) 0), (@PySem.Value.int (@OfNat.ofNat @Int 0 (@instOfNat 0)) 0), (@PySem.Value.ref 45), (@PySem.Value.int (@OfNat.ofNat @Int 8 (@instOfNat 8)) 0), (@PySem.Value.int (@OfNat.ofNat @Int 0 (@instOfNat 0)) 0), (@PySem.Value.ref 57), (@PySem.Value.int (@OfNat.ofNat @Int 10 (@instOfNat 10)) 0), (@PySem.Value.int (@OfNat.ofNat @Int 0 (@instOfNat 0)) 0), (@PySem.Value.ref 69)])) (@List.toArray (@Option @PySem.Value) []))
noncomputable def o24_4 (P : Params) : Obj := (@PySem.Obj.mk (@PySem.Value.type "type") none (@PySem.Data.cls (@PySem.ClassData.mk (@PySem.Str.ofString "WeighError") [(@PySem.Value.type "ValueError")] [(@PySem.Value.ref 24), (@PySem.Value.type "ValueError"), (@PySem.Value.type "Exception"), (@PySem.Value.type "BaseException"), (@PySem.Value.type "object")] 23 (@PySem.Str.ofString "WeighError") @Bool.true [] [(@PySem.Value.ref 37), (@PySem.Value.ref 49), (@PySem.Value.ref 61), (@PySem.Value.ref 73)] @Bool.false none @Bool.false)) (@List.toArray (@Option @PySem.Value) [(some (@PySem.Value.ref 15)), none, (some (@PySem.Value.str (@PySem.Str.ofString "WeighError") 189)), (some (@PySem.Value.str (@PySem.Str.ofString "WeighError") 197)), (some (@PySem.Value.builtin "ValueError.__new__")), (some (@PySem.Value.bool @Bool.true))]))
noncomputable def o64 (P : Params) : Obj := sh9 P 
noncomputable def o65 (P : Params) : Obj := sh4 P 
noncomputable def o66 (P : Params) : Obj := sh5 P 262 264 "NoMachine" 263 266 10 265 267 71
noncomputable def o67 (P : Params) : Obj := sh0 P 
noncomputable def o68 (P : Params) : Obj := sh1 P 
noncomputable def o69 (P : Params) : Obj := sh2 P "NoMachine" 257 258 259 10 67 68 260 261
noncomputable def o70 (P : Params) : Obj := sh3 P 69 66 "weighwords.errors" 187
noncomputable def o71 (P : Params) : Obj := sh0 P 
noncomputable def o72 (P : Params) : Obj := sh10 P 262 266 10 265 267 71 268
noncomputable def o73 (P : Params) : Obj := sh11 P "NoMachine" 73 72 64 255 263
noncomputable def o74 (P : Params) : Obj := sh7 P 73
noncomputable def o75 (P : Params) : Obj := sh8 P 73
noncomputable def o3_5 (P : Params) : Obj := (@PySem.Obj.mk (@PySem.Value.type "dict") none (@PySem.Data.dict (@List.toArray @PySem.DictEntry [(dE P "__name__" 165 (@PySem.Value.str (@PySem.Str.ofString "weighwords.errors") 187)), (dE P "__doc__" 166 @PySem.Value.none), (dE P "__package__" 167 @PySem.Value.none), (dE P "__loader__" 168 (@PySem.Value.builtin "__main__.__loader__#opaque")), (dE P "__spec__" 169 @PySem.Value.none), (dE P "__annotations__" 170 (@PySem.Value.ref 6)), (dE P "__builtins__" 171 (@PySem.Value.ref 4)), (dE P "__file__" 173 (@PySem.Value.str (@PySem.Str.ofString "/claim/cut.py") 172)), (dE P "__cached__" 174 @PySem.Value.none), (dE P "WeighError" 206 (@PySem.Value.ref 24)), (dE P "Nought" 222 (@PySem.Value.ref 37)), (dE P "NoText" 238 (@PySem.Value.ref 49)), (dE P "NoRow" 254 (@PySem.Value.ref 61)), (dE P "NoMachine" 270 (@PySem.Value.ref 73)), (dE P "NoWord" 286 (@PySem.Value.ref 85))]) 15) (@List.toArray (@Option @PySem.Value) []))
noncomputable def sh12 (P : Params) (a0 : Nat) (a1 : Nat) (a2 : Nat) (a3 : Nat) (a4 : Nat) (a5 : Nat) (a6 : Nat) (a7 : Nat) (a8 : Nat) (a9 : Nat) (a10 : Nat) (a11 : Nat) (a12 : Nat) : Obj := (@PySem.Obj.mk @PySem.Value.none none (@PySem.Data.fields (@List.toArray @PySem.Value [(@PySem.Value.int (@OfNat.ofNat @Int a0 (@instOfNat a0)) 0), (@PySem.Value.int (@OfNat.ofNat @Int a1 (@instOfNat a1)) 0), (@PySem.Value.ref a2), (@PySem.Value.int (@OfNat.ofNat @Int a3 (@instOfNat a3)) 0), (@PySem.Value.int (@OfNat.ofNat @Int a1 (@instOfNat a1)) 0), (@PySem.Value.ref a4), (@PySem.Value.int (@OfNat.ofNat @Int a5 (@instOfNat a5)) 0), (@PySem.Value.int (@OfNat.ofNat @Int a1 (@instOfNat a1)) 0), (@PySem.Value.ref a6), (@PySem.Value.int (@OfNat.ofNat @Int a7 (@instOfNat a7)) 0), (@PySem.Value.int (@OfNat.ofNat @Int a1 (@instOfNat a1)) 0), (@PySem.Value.ref a8), (@PySem.Value.int (@OfNat.ofNat @Int a9 (@instOfNat a9)) 0), (@PySem.Value.int (@OfNat.ofNat @Int a1 (@instOfNat a1)) 0), (@PySem.Value.ref a10), (@PySem.Value.int (@OfNat.ofNat @Int a11 (@instOfNat a11)) 0), (@PySem.Value.int (@OfNat.ofNat @Int a1 (@instOfNat a1)) 0), (@PySem.Value.ref a12)])) (@List.toArray (@Option @PySem.Value) []))
noncomputable def o12_5 (P : Params) : Obj := sh12 P 2 0 20 4 33 6 45 8 57 10 69 12 81
noncomputable def o24_5 (P : Params) : Obj := (@PySem.Obj.mk (@PySem.Value.type "type") none (@PySem.Data.cls (@PySem.ClassData.mk (@PySem.Str.ofString "WeighError") [(@PySem.Value.type "ValueError")] [(@PySem.Value.ref 24), (@PySem.Value.type "ValueError"), (@PySem.Value.type "Exception"), (@PySem.Value.type "BaseException"), (@PySem.Value.type "object")] 23 (@PySem.Str.ofString "WeighError") @Bool.true [] [(@PySem.Value.ref 37), (@PySem.Value.ref 49), (@PySem.Value.ref 61), (@PySem.Value.ref 73), (@PySem.Value.ref 85)] @Bool.false none @Bool.false)) (@List.toArray (@Option @PySem.Value) [(some (@PySem.Value.ref 15)), none, (some (@PySem.Value.str (@PySem.Str.ofString "WeighError") 189)), (some (@PySem.Value.str (@PySem.Str.ofString "WeighError") 197)), (some (@PySem.Value.builtin "ValueError.__new__")), (some (@PySem.Value.bool @Bool.true))]))
noncomputable def o76 (P : Params) : Obj := sh9 P 
noncomputable def o77 (P : Params) : Obj := sh4 P 
noncomputable def o78 (P : Params) : Obj := sh5 P 278 280 "NoWord" 279 282 12 281 283 83
noncomputable def o79 (P : Params) : Obj := sh0 P 
noncomputable def o80 (P : Params) : Obj := sh1 P 
noncomputable def o81 (P : Params) : Obj := sh2 P "NoWord" 273 274 275 12 79 80 276 277
noncomputable def o82 (P : Params) : Obj := sh3 P 81 78 "weighwords.errors" 187
noncomputable def o83 (P : Params) : Obj := sh0 P 
noncomputable def o84 (P : Params) : Obj := sh10 P 278 282 12 281 283 83 284
noncomputable def o85 (P : Params) : Obj := sh11 P "NoWord" 85 84 76 271 279
noncomputable def o86 (P : Params) : Obj := sh7 P 85
noncomputable def o87 (P : Params) : Obj := sh8 P 85
noncomputable def o3_6 (P : Params) : Obj := (@PySem.Obj.mk (@PySem.Value.type "dict") none (@PySem.Data.dict (@List.toArray @PySem.DictEntry [(dE P "__name__" 165 (@PySem.Value.str (@PySem.Str.ofString "weighwords.errors") 187)), (dE P "__doc__" 166 @PySem.Value.none), (dE P "__package__" 167 @PySem.Value.none), (dE P "__loader__" 168 (@PySem.Value.builtin "__main__.__loader__#opaque")), (dE P "__spec__" 169 @PySem.Value.none), (dE P "__annotations__" 170 (@PySem.Value.ref 6)), (dE P "__builtins__" 171 (@PySem.Value.ref 4)), (dE P "__file__" 173 (@PySem.Value.str (@PySem.Str.ofString "/claim/cut.py") 172)), (dE P "__cached__" 174 @PySem.Value.none), (dE P "WeighError" 206 (@PySem.Value.ref 24)), (dE P "Nought" 222 (@PySem.Value.ref 37)), (dE P "NoText" 238 (@PySem.Value.ref 49)), (dE P "NoRow" 254 (@PySem.Value.ref 61)), (dE P "NoMachine" 270 (@PySem.Value.ref 73)), (dE P "NoWord" 286 (@PySem.Value.ref 85)), (dE P "OtherSigns" 302 (@PySem.Value.ref 97))]) 16) (@List.toArray (@Option @PySem.Value) []))
noncomputable def o12_6 (P : Params) : Obj := (@PySem.Obj.mk @PySem.Value.none none (@PySem.Data.fields (@List.toArray @PySem.Value [(@PySem.Value.int (@OfNat.ofNat @Int 2 (@instOfNat 2)) 0), (@PySem.Value.int (@OfNat.ofNat @Int 0 (@instOfNat 0)) 0), (@PySem.Value.ref 20), (@PySem.Value.int (@OfNat.ofNat @Int 4 (@instOfNat 4)) 0), (@PySem.Value.int (@OfNat.ofNat @Int 0 (@instOfNat 0)) 0), (@PySem.Value.ref 33), (@PySem.Value.int (@OfNat.ofNat @Int 6 (@instOfNat 6)) 0), (@PySem.Value.int (@OfNat.ofNat @Int 0 (@instOfNat 0)) 0), (@PySem.Value.ref 45), (@PySem.Value.int (@OfNat.ofNat @Int 8 (@instOfNat 8)) 0), (@PySem.Value.int (@OfNat.ofNat @Int 0 (@instOfNat 0)) 0), (@PySem.Value.ref 57), (@PySem.Value.int (@OfNat.ofNat @Int 10 (@instOfNat 10)) 0), (@PySem.Value.int (@OfNat.ofNat @Int 0 (@instOfNat 0)) 0), (@PySem.Value.ref 69), (@PySem.Value.int (@OfNat.ofNat @Int 12 (@instOfNat 12)) 0), (@PySem.Value.int (@OfNat.ofNat @Int 0 (@instOfNat 0)) 0), (@PySem.Value.ref 81), (@PySem.Value.int (@OfNat.ofNat @Int 14 (@instOfNat 14)) 0), (@PySem.Value.int (@OfNat.ofNat @Int 0 (@instOfNat 0)) 0), (@PySem.Value.ref 93)])) (@List.toArray (@Option @PySem.Value) []))
noncomputable def o24_6 (P : Params) : Obj := (@PySem.Obj.mk (@PySem.Value.type "type") none (@PySem.Data.cls (@PySem.ClassData.mk (@PySem.Str.ofString "WeighError") [(@PySem.Value.type "ValueError")] [(@PySem.Value.ref 24), (@PySem.Value.type "ValueError"), (@PySem.Value.type "Exception"), (@PySem.Value.type "BaseException"), (@PySem.Value.type "object")] 23 (@PySem.Str.ofString "WeighError") @Bool.true [] [(@PySem.Value.ref 37), (@PySem.Value.ref 49), (@PySem.Value.ref 61), (@PySem.Value.ref 73), (@PySem.Value.ref 85), (@PySem.Value.ref 97)] @Bool.false none @Bool.false)) (@List.toArray (@Option @PySem.Value) [(some (@PySem.Value.ref 15)), none, (some (@PySem.Value.str (@PySem.Str.ofString "WeighError") 189)), (some (@PySem.Value.str (@PySem.Str.ofString "WeighError") 197)), (some (@PySem.Value.builtin "ValueError.__new__")), (some (@PySem.Value.bool @Bool.true))]))
noncomputable def o88 (P : Params) : Obj := sh9 P 
noncomputable def o89 (P : Params) : Obj := sh4 P 
noncomputable def o90 (P : Params) : Obj := sh5 P 294 296 "OtherSigns" 295 298 14 297 299 95
noncomputable def o91 (P : Params) : Obj := sh0 P 
noncomputable def o92 (P : Params) : Obj := sh1 P 
noncomputable def o93 (P : Params) : Obj := sh2 P "OtherSigns" 289 290 291 14 91 92 292 293
noncomputable def o94 (P : Params) : Obj := sh3 P 93 90 "weighwords.errors" 187
noncomputable def o95 (P : Params) : Obj := sh0 P 
noncomputable def o96 (P : Params) : Obj := sh10 P 294 298 14 297 299 95 300
noncomputable def o97 (P : Params) : Obj := sh11 P "OtherSigns" 97 96 88 287 295
noncomputable def o98 (P : Params) : Obj := sh7 P 97
noncomputable def o99 (P : Params) : Obj := sh8 P 97
noncomputable def o3_7 (P : Params) : Obj := (@PySem.Obj.mk (@PySem.Value.type "dict") none (@PySem.Data.dict (@List.toArray @PySem.DictEntry [(dE P "__name__" 165 (@PySem.Value.str (@PySem.Str.ofString "weighwords.shares") 319)), (dE P "__doc__" 166 @PySem.Value.none), (dE P "__package__" 167 @PySem.Value.none), (dE P "__loader__" 168 (@PySem.Value.builtin "__main__.__loader__#opaque")), (dE P "__spec__" 169 @PySem.Value.none), (dE P "__annotations__" 170 (@PySem.Value.ref 6)), (dE P "__builtins__" 171 (@PySem.Value.ref 4)), (dE P "__file__" 173 (@PySem.Value.str (@PySem.Str.ofString "/claim/cut.py") 172)), (dE P "__cached__" 174 @PySem.Value.none), (dE P "WeighError" 206 (@PySem.Value.ref 24)), (dE P "Nought" 222 (@PySem.Value.ref 37)), (dE P "NoText" 238 (@PySem.Value.ref 49)), (dE P "NoRow" 254 (@PySem.Value.ref 61)), (dE P "NoMachine" 270 (@PySem.Value.ref 73)), (dE P "NoWord" 286 (@PySem.Value.ref 85)), (dE P "OtherSigns" 302 (@PySem.Value.ref 97)), (dE P "TooMany" 318 (@PySem.Value.ref 109)), (dE P "NOUGHT" 323 (@PySem.Value.ref 112)), (dE P "ONE" 326 (@PySem.Value.ref 113)), (dE P "is_whole" 333 (@PySem.Value.ref 120)), (dE P "common" 341 (@PySem.Value.ref 127)), (dE P "is_share" 348 (@PySem.Value.ref 134)), (dE P "share" 357 (@PySem.Value.ref 141)), (dE P "plus" 365 (@PySem.Value.ref 148))]) 24) (@List.toArray (@Option @PySem.Value) []))
noncomputable def o12_7 (P : Params) : Obj := (@PySem.Obj.mk @PySem.Value.none none (@PySem.Data.fields (@List.toArray @PySem.Value [(@PySem.Value.int (@OfNat.ofNat @Int 2 (@instOfNat 2)) 0), (@PySem.Value.int (@OfNat.ofNat @Int 0 (@instOfNat 0)) 0), (@PySem.Value.ref 20), (@PySem.Value.int (@OfNat.ofNat @Int 4 (@instOfNat 4)) 0), (@PySem.Value.int (@OfNat.ofNat @Int 0 (@instOfNat 0)) 0), (@PySem.Value.ref 33), (@PySem.Value.int (@OfNat.ofNat @Int 6 (@instOfNat 6)) 0), (@PySem.Value.int (@OfNat.ofNat @Int 0 (@instOfNat 0)) 0), (@PySem.Value.ref 45), (@PySem.Value.int (@OfNat.ofNat @Int 8 (@instOfNat 8)) 0), (@PySem.Value.int (@OfNat.ofNat @Int 0 (@instOfNat 0)) 0), (@PySem.Value.ref 57), (@PySem.Value.int (@OfNat.ofNat @Int 10 (@instOfNat 10)) 0), (@PySem.Value.int (@OfNat.ofNat @Int 0 (@instOfNat 0)) 0), (@PySem.Value.ref 69), (@PySem.Value.int (@OfNat.ofNat @Int 12 (@instOfNat 12)) 0), (@PySem.Value.int (@OfNat.ofNat @Int 0 (@instOfNat 0)) 0), (@PySem.Value.ref 81), (@PySem.Value.int (@OfNat.ofNat @Int 14 (@instOfNat 14)) 0), (@PySem.Value.int (@OfNat.ofNat @Int 0 (@instOfNat 0)) 0), (@PySem.Value.ref 93), (@PySem.Value.int (@OfNat.ofNat @Int 16 (@instOfNat 16)) 0), (@PySem.Value.int (@OfNat.ofNat @Int 0 (@instOfNat 0)) 0), (@PySem.Value.ref 105), (@PySem.Value.int (@OfNat.ofNat @Int 21 (@instOfNat 21)) 0), (@PySem.Value.int (@OfNat.ofNat @Int 0 (@instOfNat 0)) 0), (@PySem.Value.ref 119), (@PySem.Value.int (@OfNat.ofNat @Int 23 (@instOfNat 23)) 0), (@PySem.Value.int (@OfNat.ofNat @Int 0 (@instOfNat 0)) 0), (@PySem.Value.ref 126), (@PySem.Value.int (@OfNat.ofNat @Int 27 (@instOfNat 27)) 0), (@PySem.Value.int (@OfNat.ofNat @Int 0 (@instOfNat 0)) 0), (@PySem.Value.ref 133), (@PySem.Value.int (@OfNat.ofNat @Int 31 (@instOfNat 31)) 0), (@PySem.Value.int (@OfNat.ofNat @Int 0 (@instOfNat 0)) 0), (@PySem.Value.ref 140), (@PySem.Value.int (@OfNat.ofNat @Int 38 (@instOfNat 38)) 0), (@PySem.Value.int (@OfNat.ofNat @Int 0 (@instOfNat 0)) 0), (@PySem.Value.ref 147)])) (@List.toArray (@Option @PySem.Value) []))
noncomputable def o24_7 (P : Params) : Obj := (@PySem.Obj.mk (@PySem.Value.type "type") none (@PySem.Data.cls (@PySem.ClassData.mk (@PySem.Str.ofString "WeighError") [(@PySem.Value.type "ValueError")] [(@PySem.Value.ref 24), (@PySem.Value.type "ValueError"), (@PySem.Value.type "Exception"), (@PySem.Value.type "BaseException"), (@PySem.Value.type "object")] 23 (@PySem.Str.ofString "WeighError") @Bool.true [] [(@PySem.Value.ref 37), (@PySem.Value.ref 49), (@PySem.Value.ref 61), (@PySem.Value.ref 73), (@PySem.Value.ref 85), (@PySem.Value.ref 97), (@PySem.Value.ref 109)] @Bool.false none @Bool.false)) (@List.toArray (@Option @PySem.Value) [(some (@PySem.Value.ref 15)), none, (some (@PySem.Value.str (@PySem.Str.ofString "WeighError") 189)), (some (@PySem.Value.str (@PySem.Str.ofString "WeighError") 197)), (some (@PySem.Value.builtin "ValueError.__new__")), (some (@PySem.Value.bool @Bool.true))]))
noncomputable def o100 (P : Params) : Obj := sh9 P 
noncomputable def o101 (P : Params) : Obj := sh4 P 
noncomputable def o102 (P : Params) : Obj := sh5 P 310 312 "TooMany" 311 314 16 313 315 107
noncomputable def o103 (P : Params) : Obj := sh0 P 
noncomputable def o104 (P : Params) : Obj := sh1 P 
noncomputable def o105 (P : Params) : Obj := sh2 P "TooMany" 305 306 307 16 103 104 308 309
noncomputable def o106 (P : Params) : Obj := sh3 P 105 102 "weighwords.errors" 187
noncomputable def o107 (P : Params) : Obj := sh0 P 
noncomputable def o108 (P : Params) : Obj := sh10 P 310 314 16 313 315 107 316
noncomputable def o109 (P : Params) : Obj := sh11 P "TooMany" 109 108 100 303 311
noncomputable def o110 (P : Params) : Obj := sh7 P 109
noncomputable def o111 (P : Params) : Obj := sh8 P 109
noncomputable def sh13 (P : Params) (a0 : Nat) (a1 : Nat) (a2 : Nat) : Obj := (@PySem.Obj.mk (@PySem.Value.type "tuple") none (@PySem.Data.seq (@List.toArray @PySem.Value [(@PySem.Value.int (@OfNat.ofNat @Int a0 (@instOfNat a0)) a1), (@PySem.Value.int (@OfNat.ofNat @Int 1 (@instOfNat 1)) a2)]) 0) (@List.toArray (@Option @PySem.Value) []))
noncomputable def o112 (P : Params) : Obj := sh13 P 0 321 322
noncomputable def o113 (P : Params) : Obj := sh13 P 1 324 325
noncomputable def o114 (P : Params) : Obj := sh0 P 
noncomputable def o115 (P : Params) : Obj := sh1 P 
noncomputable def sh14 (P : Params) (a0 : String) (a1 : Nat) : Obj := (@PySem.Obj.mk (@PySem.Value.type "tuple") none (@PySem.Data.seq (@List.toArray @PySem.Value [(@PySem.Value.str (@PySem.Str.ofString a0) a1)]) 0) (@List.toArray (@Option @PySem.Value) []))
noncomputable def o116 (P : Params) : Obj := sh14 P "thing" 330
noncomputable def o117 (P : Params) : Obj := sh0 P 
noncomputable def sh15 (P : Params) (a0 : String) (a1 : Nat) (a2 : Nat) : Obj := (@PySem.Obj.mk @PySem.Value.none none (@PySem.Data.func (@PySem.FuncData.mk (@PySem.Str.ofString a0) (@PySem.Str.ofString a0) (@fnA (@stAt @PW a1)) (@PySem.FuncBody.stmts (@fnB (@stAt @PW a1))) (@fnS (@stAt @PW a2)) 0 [] @PySem.Value.none @PySem.Value.none @PySem.Value.none @PySem.Value.none none @PySem.Value.none @PySem.Value.none 0)) (@List.toArray (@Option @PySem.Value) []))
noncomputable def o118 (P : Params) : Obj := sh15 P "is_whole" 12 12
noncomputable def sh16 (P : Params) (a0 : String) (a1 : Nat) (a2 : String) (a3 : Nat) (a4 : Nat) (a5 : Nat) (a6 : Nat) (a7 : Nat) (a8 : Nat) (a9 : Nat) (a10 : Nat) (a11 : Nat) (a12 : Nat) (a13 : Nat) : Obj := (@PySem.Obj.mk (@PySem.Value.type "code") none (@PySem.Data.fields (@List.toArray @PySem.Value [(@PySem.Value.str (@PySem.Str.ofString a0) a1), (@PySem.Value.str (@PySem.Str.ofString a2) a3), (@PySem.Value.str (@PySem.Str.ofString "/claim/cut.py") a4), (@PySem.Value.int (@OfNat.ofNat @Int a5 (@instOfNat a5)) 0), (@PySem.Value.int (@OfNat.ofNat @Int a6 (@instOfNat a6)) 0), (@PySem.Value.int (@OfNat.ofNat @Int 0 (@instOfNat 0)) 0), (@PySem.Value.int (@OfNat.ofNat @Int 0 (@instOfNat 0)) 0), (@PySem.Value.int (@OfNat.ofNat @Int 3 (@instOfNat 3)) 0), (@PySem.Value.ref a7), (@PySem.Value.bool @Bool.true), (@PySem.Value.int (@OfNat.ofNat @Int 181 (@instOfNat 181)) 0), (@PySem.Value.ref a8), @PySem.Value.none, (@PySem.Value.ref a9), (@PySem.Value.ref a10), (@PySem.Value.ref a11), (@PySem.Value.int (@OfNat.ofNat @Int a12 (@instOfNat a12)) 0), (@PySem.Value.int (@OfNat.ofNat @Int a5 (@instOfNat a5)) 0), (@PySem.Value.str (@PySem.Str.ofString "/claim/cut.py") a13)])) (@List.toArray (@Option @PySem.Value) []))
noncomputable def o119 (P : Params) : Obj := sh16 P "is_whole" 327 "is_whole" 328 329 21 1 114 115 116 117 118 331 332
noncomputable def sh17 (P : Params) (a0 : String) (a1 : Nat) (a2 : Nat) (a3 : String) (a4 : Nat) (a5 : Nat) : Obj := (@PySem.Obj.mk (@PySem.Value.type "function") none (@PySem.Data.func (@PySem.FuncData.mk (@PySem.Str.ofString a0) (@PySem.Str.ofString a0) (@fnA (@stAt @PW a1)) (@PySem.FuncBody.stmts (@fnB (@stAt @PW a1))) (@fnS (@stAt @PW a2)) 3 [] @PySem.Value.none @PySem.Value.none @PySem.Value.none (@PySem.Value.str (@PySem.Str.ofString a3) a4) none (@PySem.Value.ref a5) @PySem.Value.none 0)) (@List.toArray (@Option @PySem.Value) []))
noncomputable def o120 (P : Params) : Obj := sh17 P "is_whole" 12 12 "weighwords.shares" 319 119
noncomputable def o121 (P : Params) : Obj := sh0 P 
noncomputable def o122 (P : Params) : Obj := sh1 P 
noncomputable def sh18 (P : Params) (a0 : String) (a1 : Nat) (a2 : String) (a3 : Nat) : Obj := (@PySem.Obj.mk (@PySem.Value.type "tuple") none (@PySem.Data.seq (@List.toArray @PySem.Value [(@PySem.Value.str (@PySem.Str.ofString a0) a1), (@PySem.Value.str (@PySem.Str.ofString a2) a3)]) 0) (@List.toArray (@Option @PySem.Value) []))
noncomputable def o123 (P : Params) : Obj := sh18 P "one" 337 "other" 338
noncomputable def o124 (P : Params) : Obj := sh0 P 
noncomputable def o125 (P : Params) : Obj := sh15 P "common" 13 13
noncomputable def o126 (P : Params) : Obj := sh16 P "common" 334 "common" 335 336 23 2 121 122 123 124 125 339 340
noncomputable def o127 (P : Params) : Obj := sh17 P "common" 13 13 "weighwords.shares" 319 126
noncomputable def o128 (P : Params) : Obj := sh0 P 
noncomputable def o129 (P : Params) : Obj := sh1 P 
noncomputable def o130 (P : Params) : Obj := sh14 P "thing" 345
noncomputable def o131 (P : Params) : Obj := sh0 P 
noncomputable def o132 (P : Params) : Obj := sh15 P "is_share" 14 14
noncomputable def o133 (P : Params) : Obj := sh16 P "is_share" 342 "is_share" 343 344 27 1 128 129 130 131 132 346 347
noncomputable def o134 (P : Params) : Obj := sh17 P "is_share" 14 14 "weighwords.shares" 319 133
noncomputable def o135 (P : Params) : Obj := sh0 P 
noncomputable def o136 (P : Params) : Obj := sh1 P 
noncomputable def sh19 (P : Params) (a0 : String) (a1 : Nat) (a2 : String) (a3 : Nat) (a4 : String) (a5 : Nat) : Obj := (@PySem.Obj.mk (@PySem.Value.type "tuple") none (@PySem.Data.seq (@List.toArray @PySem.Value [(@PySem.Value.str (@PySem.Str.ofString a0) a1), (@PySem.Value.str (@PySem.Str.ofString a2) a3), (@PySem.Value.str (@PySem.Str.ofString a4) a5)]) 0) (@List.toArray (@Option @PySem.Value) []))
noncomputable def o137 (P : Params) : Obj := sh19 P "top" 352 "bottom" 353 "by" 354
noncomputable def o138 (P : Params) : Obj := sh0 P 
noncomputable def o139 (P : Params) : Obj := sh15 P "share" 15 15
noncomputable def o140 (P : Params) : Obj := sh16 P "share" 349 "share" 350 351 31 2 135 136 137 138 139 355 356
noncomputable def o141 (P : Params) : Obj := sh17 P "share" 15 15 "weighwords.shares" 319 140
noncomputable def o142 (P : Params) : Obj := sh0 P 
noncomputable def o143 (P : Params) : Obj := sh1 P 
noncomputable def o144 (P : Params) : Obj := sh18 P "one" 361 "other" 362
noncomputable def o145 (P : Params) : Obj := sh0 P 
noncomputable def o146 (P : Params) : Obj := sh15 P "plus" 16 16
noncomputable def o147 (P : Params) : Obj := sh16 P "plus" 358 "plus" 359 360 38 2 142 143 144 145 146 363 364
noncomputable def o148 (P : Params) : Obj := sh17 P "plus" 16 16 "weighwords.shares" 319 147
noncomputable def o3_8 (P : Params) : Obj := (@PySem.Obj.mk (@PySem.Value.type "dict") none (@PySem.Data.dict (@List.toArray @PySem.DictEntry [(dE P "__name__" 165 (@PySem.Value.str (@PySem.Str.ofString "weighwords.spans") 390)), (dE P "__doc__" 166 @PySem.Value.none), (dE P "__package__" 167 @PySem.Value.none), (dE P "__loader__" 168 (@PySem.Value.builtin "__main__.__loader__#opaque")), (dE P "__spec__" 169 @PySem.Value.none), (dE P "__annotations__" 170 (@PySem.Value.ref 6)), (dE P "__builtins__" 171 (@PySem.Value.ref 4)), (dE P "__file__" 173 (@PySem.Value.str (@PySem.Str.ofString "/claim/cut.py") 172)), (dE P "__cached__" 174 @PySem.Value.none), (dE P "WeighError" 206 (@PySem.Value.ref 24)), (dE P "Nought" 222 (@PySem.Value.ref 37)), (dE P "NoText" 238 (@PySem.Value.ref 49)), (dE P "NoRow" 254 (@PySem.Value.ref 61)), (dE P "NoMachine" 270 (@PySem.Value.ref 73)), (dE P "NoWord" 286 (@PySem.Value.ref 85)), (dE P "OtherSigns" 302 (@PySem.Value.ref 97)), (dE P "TooMany" 318 (@PySem.Value.ref 109)), (dE P "NOUGHT" 323 (@PySem.Value.ref 112)), (dE P "ONE" 326 (@PySem.Value.ref 113)), (dE P "is_whole" 333 (@PySem.Value.ref 120)), (dE P "common" 341 (@PySem.Value.ref 127)), (dE P "is_share" 348 (@PySem.Value.ref 134)), (dE P "share" 357 (@PySem.Value.ref 141)), (dE P "plus" 365 (@PySem.Value.ref 148)), (dE P "less" 373 (@PySem.Value.ref 155)), (dE P "times" 381 (@PySem.Value.ref 162)), (dE P "over" 389 (@PySem.Value.ref 169)), (dE P "first_other" 399 (@PySem.Value.ref 176)), (dE P "longer" 407 (@PySem.Value.ref 183))]) 29) (@List.toArray (@Option @PySem.Value) []))
noncomputable def o12_8 (P : Params) : Obj := (@PySem.Obj.mk @PySem.Value.none none (@PySem.Data.fields (@List.toArray @PySem.Value [(@PySem.Value.int (@OfNat.ofNat @Int 2 (@instOfNat 2)) 0), (@PySem.Value.int (@OfNat.ofNat @Int 0 (@instOfNat 0)) 0), (@PySem.Value.ref 20), (@PySem.Value.int (@OfNat.ofNat @Int 4 (@instOfNat 4)) 0), (@PySem.Value.int (@OfNat.ofNat @Int 0 (@instOfNat 0)) 0), (@PySem.Value.ref 33), (@PySem.Value.int (@OfNat.ofNat @Int 6 (@instOfNat 6)) 0), (@PySem.Value.int (@OfNat.ofNat @Int 0 (@instOfNat 0)) 0), (@PySem.Value.ref 45), (@PySem.Value.int (@OfNat.ofNat @Int 8 (@instOfNat 8)) 0), (@PySem.Value.int (@OfNat.ofNat @Int 0 (@instOfNat 0)) 0), (@PySem.Value.ref 57), (@PySem.Value.int (@OfNat.ofNat @Int 10 (@instOfNat 10)) 0), (@PySem.Value.int (@OfNat.ofNat @Int 0 (@instOfNat 0)) 0), (@PySem.Value.ref 69), (@PySem.Value.int (@OfNat.ofNat @Int 12 (@instOfNat 12)) 0), (@PySem.Value.int (@OfNat.ofNat @Int 0 (@instOfNat 0)) 0), (@PySem.Value.ref 81), (@PySem.Value.int (@OfNat.ofNat @Int 14 (@instOfNat 14)) 0), (@PySem.Value.int (@OfNat.ofNat @Int 0 (@instOfNat 0)) 0), (@PySem.Value.ref 93), (@PySem.Value.int (@OfNat.ofNat @Int 16 (@instOfNat 16)) 0), (@PySem.Value.int (@OfNat.ofNat @Int 0 (@instOfNat 0)) 0), (@PySem.Value.ref 105), (@PySem.Value.int (@OfNat.ofNat @Int 21 (@instOfNat 21)) 0), (@PySem.Value.int (@OfNat.ofNat @Int 0 (@instOfNat 0)) 0), (@PySem.Value.ref 119), (@PySem.Value.int (@OfNat.ofNat @Int 23 (@instOfNat 23)) 0), (@PySem.Value.int (@OfNat.ofNat @Int 0 (@instOfNat 0)) 0), (@PySem.Value.ref 126), (@PySem.Value.int (@OfNat.ofNat @Int 27 (@instOfNat 27)) 0), (@PySem.Value.int (@OfNat.ofNat @Int 0 (@instOfNat 0)) 0), (@PySem.Value.ref 133), (@PySem.Value.int (@OfNat.ofNat @Int 31 (@instOfNat 31)) 0), (@PySem.Value.int (@OfNat.ofNat @Int 0 (@instOfNat 0)) 0), (@PySem.Value.ref 140), (@PySem.Value.int (@OfNat.ofNat @Int 38 (@instOfNat 38)) 0), (@PySem.Value.int (@OfNat.ofNat @Int 0 (@instOfNat 0)) 0), (@PySem.Value.ref 147), (@PySem.Value.int (@OfNat.ofNat @Int 40 (@instOfNat 40)) 0), (@PySem.Value.int (@OfNat.ofNat @Int 0 (@instOfNat 0)) 0), (@PySem.Value.ref 154), (@PySem.Value.int (@OfNat.ofNat @Int 42 (@instOfNat 42)) 0), (@PySem.Value.int (@OfNat.ofNat @Int 0 (@instOfNat 0)) 0), (@PySem.Value.ref 161), (@PySem.Value.int (@OfNat.ofNat @Int 44 (@instOfNat 44)) 0), (@PySem.Value.int (@OfNat.ofNat @Int 0 (@instOfNat 0)) 0), (@PySem.Value.ref 168), (@PySem.Value.int (@OfNat.ofNat @Int 47 (@instOfNat 47)) 0), (@PySem.Value.int (@OfNat.ofNat @Int 0 (@instOfNat 0)) 0), (@PySem.Value.ref 175), (@PySem.Value.int (@OfNat.ofNat @Int 52 (@instOfNat 52)) 0), (@PySem.Value.int (@OfNat.ofNat @Int 0 (@instOfNat 0)) 0), (@PySem.Value.ref 182)])) (@List.toArray (@Option @PySem.Value) []))
noncomputable def o149 (P : Params) : Obj := sh0 P 
noncomputable def o150 (P : Params) : Obj := sh1 P 
noncomputable def o151 (P : Params) : Obj := sh18 P "one" 369 "other" 370
noncomputable def o152 (P : Params) : Obj := sh0 P 
noncomputable def o153 (P : Params) : Obj := sh15 P "less" 17 16
noncomputable def o154 (P : Params) : Obj := sh16 P "less" 366 "less" 367 368 40 2 149 150 151 152 153 371 372
noncomputable def o155 (P : Params) : Obj := sh17 P "less" 17 16 "weighwords.shares" 319 154
noncomputable def o156 (P : Params) : Obj := sh0 P 
noncomputable def o157 (P : Params) : Obj := sh1 P 
noncomputable def o158 (P : Params) : Obj := sh18 P "one" 377 "other" 378
noncomputable def o159 (P : Params) : Obj := sh0 P 
noncomputable def o160 (P : Params) : Obj := sh15 P "times" 18 16
noncomputable def o161 (P : Params) : Obj := sh16 P "times" 374 "times" 375 376 42 2 156 157 158 159 160 379 380
noncomputable def o162 (P : Params) : Obj := sh17 P "times" 18 16 "weighwords.shares" 319 161
noncomputable def o163 (P : Params) : Obj := sh0 P 
noncomputable def o164 (P : Params) : Obj := sh1 P 
noncomputable def o165 (P : Params) : Obj := sh18 P "one" 385 "other" 386
noncomputable def o166 (P : Params) : Obj := sh0 P 
noncomputable def o167 (P : Params) : Obj := sh15 P "over" 19 16
noncomputable def o168 (P : Params) : Obj := sh16 P "over" 382 "over" 383 384 44 2 163 164 165 166 167 387 388
noncomputable def o169 (P : Params) : Obj := sh17 P "over" 19 16 "weighwords.shares" 319 168
noncomputable def o170 (P : Params) : Obj := sh0 P 
noncomputable def o171 (P : Params) : Obj := sh1 P 
noncomputable def o172 (P : Params) : Obj := sh18 P "row" 395 "place" 396
noncomputable def o173 (P : Params) : Obj := sh0 P 
noncomputable def o174 (P : Params) : Obj := sh15 P "first_other" 21 21
noncomputable def o175 (P : Params) : Obj := sh16 P "first_other" 392 "first_other" 393 394 47 1 170 171 172 173 174 397 398
noncomputable def o176 (P : Params) : Obj := sh17 P "first_other" 21 21 "weighwords.spans" 390 175
noncomputable def o177 (P : Params) : Obj := sh0 P 
noncomputable def o178 (P : Params) : Obj := sh1 P 
noncomputable def o179 (P : Params) : Obj := sh18 P "row" 403 "many" 404
noncomputable def o180 (P : Params) : Obj := sh0 P 
noncomputable def o181 (P : Params) : Obj := sh15 P "longer" 22 22
noncomputable def o182 (P : Params) : Obj := sh16 P "longer" 400 "longer" 401 402 52 2 177 178 179 180 181 405 406
noncomputable def o183 (P : Params) : Obj := sh17 P "longer" 22 22 "weighwords.spans" 390 182
noncomputable def o3_9 (P : Params) : Obj := (@PySem.Obj.mk (@PySem.Value.type "dict") none (@PySem.Data.dict (@List.toArray @PySem.DictEntry [(dE P "__name__" 165 (@PySem.Value.str (@PySem.Str.ofString "law_uf020009_04") 473)), (dE P "__doc__" 166 @PySem.Value.none), (dE P "__package__" 167 @PySem.Value.none), (dE P "__loader__" 168 (@PySem.Value.builtin "__main__.__loader__#opaque")), (dE P "__spec__" 169 @PySem.Value.none), (dE P "__annotations__" 170 (@PySem.Value.ref 6)), (dE P "__builtins__" 171 (@PySem.Value.ref 4)), (dE P "__file__" 173 (@PySem.Value.str (@PySem.Str.ofString "/claim/cut.py") 172)), (dE P "__cached__" 174 @PySem.Value.none), (dE P "WeighError" 206 (@PySem.Value.ref 24)), (dE P "Nought" 222 (@PySem.Value.ref 37)), (dE P "NoText" 238 (@PySem.Value.ref 49)), (dE P "NoRow" 254 (@PySem.Value.ref 61)), (dE P "NoMachine" 270 (@PySem.Value.ref 73)), (dE P "NoWord" 286 (@PySem.Value.ref 85)), (dE P "OtherSigns" 302 (@PySem.Value.ref 97)), (dE P "TooMany" 318 (@PySem.Value.ref 109)), (dE P "NOUGHT" 323 (@PySem.Value.ref 112)), (dE P "ONE" 326 (@PySem.Value.ref 113)), (dE P "is_whole" 333 (@PySem.Value.ref 120)), (dE P "common" 341 (@PySem.Value.ref 127)), (dE P "is_share" 348 (@PySem.Value.ref 134)), (dE P "share" 357 (@PySem.Value.ref 141)), (dE P "plus" 365 (@PySem.Value.ref 148)), (dE P "less" 373 (@PySem.Value.ref 155)), (dE P "times" 381 (@PySem.Value.ref 162)), (dE P "over" 389 (@PySem.Value.ref 169)), (dE P "first_other" 399 (@PySem.Value.ref 176)), (dE P "longer" 407 (@PySem.Value.ref 183)), (dE P "Span" 472 (@PySem.Value.ref 229))]) 30) (@List.toArray (@Option @PySem.Value) []))
noncomputable def o12_9 (P : Params) : Obj := (@PySem.Obj.mk @PySem.Value.none none (@PySem.Data.fields (@List.toArray @PySem.Value [(@PySem.Value.int (@OfNat.ofNat @Int 2 (@instOfNat 2)) 0), (@PySem.Value.int (@OfNat.ofNat @Int 0 (@instOfNat 0)) 0), (@PySem.Value.ref 20), (@PySem.Value.int (@OfNat.ofNat @Int 4 (@instOfNat 4)) 0), (@PySem.Value.int (@OfNat.ofNat @Int 0 (@instOfNat 0)) 0), (@PySem.Value.ref 33), (@PySem.Value.int (@OfNat.ofNat @Int 6 (@instOfNat 6)) 0), (@PySem.Value.int (@OfNat.ofNat @Int 0 (@instOfNat 0)) 0), (@PySem.Value.ref 45), (@PySem.Value.int (@OfNat.ofNat @Int 8 (@instOfNat 8)) 0), (@PySem.Value.int (@OfNat.ofNat @Int 0 (@instOfNat 0)) 0), (@PySem.Value.ref 57), (@PySem.Value.int (@OfNat.ofNat @Int 10 (@instOfNat 10)) 0), (@PySem.Value.int (@OfNat.ofNat @Int 0 (@instOfNat 0)) 0), (@PySem.Value.ref 69), (@PySem.Value.int (@OfNat.ofNat @Int 12 (@instOfNat 12)) 0), (@PySem.Value.int (@OfNat.ofNat @Int 0 (@instOfNat 0)) 0), (@PySem.Value.ref 81), (@PySem.Value.int (@OfNat.ofNat @Int 14 (@instOfNat 14)) 0), (@PySem.Value.int (@OfNat.ofNat @Int 0 (@instOfNat 0)) 0), (@PySem.Value.ref 93), (@PySem.Value.int (@OfNat.ofNat @Int 16 (@instOfNat 16)) 0), (@PySem.Value.int (@OfNat.ofNat @Int 0 (@instOfNat 0)) 0), (@PySem.Value.ref 105), (@PySem.Value.int (@OfNat.ofNat @Int 21 (@instOfNat 21)) 0), (@PySem.Value.int (@OfNat.ofNat @Int 0 (@instOfNat 0)) 0), (@PySem.Value.ref 119), (@PySem.Value.int (@OfNat.ofNat @Int 23 (@instOfNat 23)) 0), (@PySem.Value.int (@OfNat.ofNat @Int 0 (@instOfNat 0)) 0), (@PySem.Value.ref 126), (@PySem.Value.int (@OfNat.ofNat @Int 27 (@instOfNat 27)) 0), (@PySem.Value.int (@OfNat.ofNat @Int 0 (@instOfNat 0)) 0), (@PySem.Value.ref 133), (@PySem.Value.int (@OfNat.ofNat @Int 31 (@instOfNat 31)) 0), (@PySem.Value.int (@OfNat.ofNat @Int 0 (@instOfNat 0)) 0), (@PySem.Value.ref 140), (@PySem.Value.int (@OfNat.ofNat @Int 38 (@instOfNat 38)) 0), (@PySem.Value.int (@OfNat.ofNat @Int 0 (@instOfNat 0)) 0), (@PySem.Value.ref 147), (@PySem.Value.int (@OfNat.ofNat @Int 40 (@instOfNat 40)) 0), (@PySem.Value.int (@OfNat.ofNat @Int 0 (@instOfNat 0)) 0), (@PySem.Value.ref 154), (@PySem.Value.int (@OfNat.ofNat @Int 42 (@instOfNat 42)) 0), (@PySem.Value.int (@OfNat.ofNat @Int 0 (@instOfNat 0)) 0), (@PySem.Value.ref 161), (@PySem.Value.int (@OfNat.ofNat @Int 44 (@instOfNat 44)) 0), (@PySem.Value.int (@OfNat.ofNat @Int 0 (@instOfNat 0)) 0), (@PySem.Value.ref 168), (@PySem.Value.int (@OfNat.ofNat @Int 47 (@instOfNat 47)) 0), (@PySem.Value.int (@OfNat.ofNat @Int 0 (@instOfNat 0)) 0), (@PySem.Value.ref 175), (@PySem.Value.int (@OfNat.ofNat @Int 52 (@instOfNat 52)) 0), (@PySem.Value.int (@OfNat.ofNat @Int 0 (@instOfNat 0)) 0), (@PySem.Value.ref 182), (@PySem.Value.int (@OfNat.ofNat @Int 54 (@instOfNat 54)) 0), (@PySem.Value.int (@OfNat.ofNat @Int 0 (@instOfNat 0)) 0), (@PySem.Value.ref 189)])) (@List.toArray (@Option @PySem.Value) []))
noncomputable def o184 (P : Params) : Obj := sh0 P 
noncomputable def o185 (P : Params) : Obj := sh4 P 
noncomputable def o186 (P : Params) : Obj := (@PySem.Obj.mk (@PySem.Value.type "dict") none (@PySem.Data.dict (@List.toArray @PySem.DictEntry [(dE P "__module__" 415 (@PySem.Value.str (@PySem.Str.ofString "weighwords.spans") 390)), (dE P "__qualname__" 417 (@PySem.Value.str (@PySem.Str.ofString "Span") 416)), (dE P "__firstlineno__" 419 (@PySem.Value.int (@OfNat.ofNat @Int 54 (@instOfNat 54)) 418)), (dE P "__init__" 427 (@PySem.Value.ref 197)), (dE P "need" 433 (@PySem.Value.ref 202)), (dE P "cleared" 439 (@PySem.Value.ref 207)), (dE P "put" 445 (@PySem.Value.ref 212)), (dE P "tells" 455 (@PySem.Value.ref 219)), (dE P "many" 462 (@PySem.Value.ref 226)), (dE P "__static_attributes__" 465 (@PySem.Value.ref 227))]) 10) (@List.toArray (@Option @PySem.Value) []))
noncomputable def o187 (P : Params) : Obj := sh0 P 
noncomputable def o188 (P : Params) : Obj := sh12 P 56 4 196 60 201 64 206 75 211 86 218 93 225
noncomputable def o189 (P : Params) : Obj := sh2 P "Span" 410 411 412 54 187 188 413 414
noncomputable def o190 (P : Params) : Obj := sh3 P 189 186 "weighwords.spans" 390
noncomputable def o191 (P : Params) : Obj := sh0 P 
noncomputable def o192 (P : Params) : Obj := sh1 P 
noncomputable def o193 (P : Params) : Obj := sh18 P "self" 423 "size" 424
noncomputable def o194 (P : Params) : Obj := sh0 P 
noncomputable def sh20 (P : Params) (a0 : String) (a1 : String) (a2 : Nat) : Obj := (@PySem.Obj.mk @PySem.Value.none none (@PySem.Data.func (@PySem.FuncData.mk (@PySem.Str.ofString a0) (@PySem.Str.ofString a1) (@fnA (@stIn (@stAt @PW 23) a2)) (@PySem.FuncBody.stmts (@fnB (@stIn (@stAt @PW 23) a2))) (@fnS (@stIn (@stAt @PW 23) a2)) 0 [] @PySem.Value.none @PySem.Value.none @PySem.Value.none @PySem.Value.none none @PySem.Value.none @PySem.Value.none 0)) (@List.toArray (@Option @PySem.Value) []))
noncomputable def o195 (P : Params) : Obj := sh20 P "__init__" "Span.__init__" 0
noncomputable def o196 (P : Params) : Obj := sh16 P "__init__" 420 "Span.__init__" 421 422 56 2 191 192 193 194 195 425 426
noncomputable def sh21 (P : Params) (a0 : String) (a1 : String) (a2 : Nat) (a3 : Nat) : Obj := (@PySem.Obj.mk (@PySem.Value.type "function") none (@PySem.Data.func (@PySem.FuncData.mk (@PySem.Str.ofString a0) (@PySem.Str.ofString a1) (@fnA (@stIn (@stAt @PW 23) a2)) (@PySem.FuncBody.stmts (@fnB (@stIn (@stAt @PW 23) a2))) (@fnS (@stIn (@stAt @PW 23) a2)) 3 [] @PySem.Value.none @PySem.Value.none @PySem.Value.none (@PySem.Value.str (@PySem.Str.ofString "weighwords.spans") 390) none (@PySem.Value.ref a3) @PySem.Value.none 0)) (@List.toArray (@Option @PySem.Value) []))
noncomputable def o197 (P : Params) : Obj := sh21 P "__init__" "Span.__init__" 0 196
noncomputable def o198 (P : Params) : Obj := sh0 P 
noncomputable def o199 (P : Params) : Obj := sh1 P 
noncomputable def o200 (P : Params) : Obj := sh20 P "need" "Span.need" 1
noncomputable def sh22 (P : Params) (a0 : String) (a1 : Nat) (a2 : String) (a3 : Nat) (a4 : Nat) (a5 : Nat) (a6 : Nat) (a7 : Nat) (a8 : Nat) (a9 : Nat) (a10 : Nat) (a11 : Nat) : Obj := (@PySem.Obj.mk (@PySem.Value.type "code") none (@PySem.Data.fields (@List.toArray @PySem.Value [(@PySem.Value.str (@PySem.Str.ofString a0) a1), (@PySem.Value.str (@PySem.Str.ofString a2) a3), (@PySem.Value.str (@PySem.Str.ofString "/claim/cut.py") a4), (@PySem.Value.int (@OfNat.ofNat @Int a5 (@instOfNat a5)) 0), (@PySem.Value.int (@OfNat.ofNat @Int a6 (@instOfNat a6)) 0), (@PySem.Value.int (@OfNat.ofNat @Int 0 (@instOfNat 0)) 0), (@PySem.Value.int (@OfNat.ofNat @Int 0 (@instOfNat 0)) 0), (@PySem.Value.int (@OfNat.ofNat @Int 3 (@instOfNat 3)) 0), (@PySem.Value.ref a7), (@PySem.Value.bool @Bool.true), (@PySem.Value.int (@OfNat.ofNat @Int 181 (@instOfNat 181)) 0), (@PySem.Value.ref a8), @PySem.Value.none, @PySem.Value.none, @PySem.Value.none, (@PySem.Value.ref a9), (@PySem.Value.int (@OfNat.ofNat @Int a10 (@instOfNat a10)) 0), (@PySem.Value.int (@OfNat.ofNat @Int a5 (@instOfNat a5)) 0), (@PySem.Value.str (@PySem.Str.ofString "/claim/cut.py") a11)])) (@List.toArray (@Option @PySem.Value) []))
noncomputable def o201 (P : Params) : Obj := sh22 P "need" 428 "Span.need" 429 430 60 2 198 199 200 431 432
noncomputable def o202 (P : Params) : Obj := sh21 P "need" "Span.need" 1 201
noncomputable def o203 (P : Params) : Obj := sh0 P 
noncomputable def o204 (P : Params) : Obj := sh1 P 
noncomputable def o205 (P : Params) : Obj := sh20 P "cleared" "Span.cleared" 2
noncomputable def o206 (P : Params) : Obj := sh22 P "cleared" 434 "Span.cleared" 435 436 64 2 203 204 205 437 438
noncomputable def o207 (P : Params) : Obj := sh21 P "cleared" "Span.cleared" 2 206
noncomputable def o208 (P : Params) : Obj := sh0 P 
noncomputable def o209 (P : Params) : Obj := sh1 P 
noncomputable def o210 (P : Params) : Obj := sh20 P "put" "Span.put" 3
noncomputable def o211 (P : Params) : Obj := sh22 P "put" 440 "Span.put" 441 442 75 2 208 209 210 443 444
noncomputable def o212 (P : Params) : Obj := sh21 P "put" "Span.put" 3 211
noncomputable def o213 (P : Params) : Obj := sh0 P 
noncomputable def o214 (P : Params) : Obj := sh1 P 
noncomputable def sh23 (P : Params) (a0 : String) (a1 : Nat) (a2 : String) (a3 : Nat) (a4 : String) (a5 : Nat) (a6 : String) (a7 : Nat) : Obj := (@PySem.Obj.mk (@PySem.Value.type "tuple") none (@PySem.Data.seq (@List.toArray @PySem.Value [(@PySem.Value.str (@PySem.Str.ofString a0) a1), (@PySem.Value.str (@PySem.Str.ofString a2) a3), (@PySem.Value.str (@PySem.Str.ofString a4) a5), (@PySem.Value.str (@PySem.Str.ofString a6) a7)]) 0) (@List.toArray (@Option @PySem.Value) []))
noncomputable def o215 (P : Params) : Obj := sh23 P "self" 449 "row" 450 "left" 451 "by" 452
noncomputable def o216 (P : Params) : Obj := sh0 P 
noncomputable def o217 (P : Params) : Obj := sh20 P "tells" "Span.tells" 4
noncomputable def o218 (P : Params) : Obj := sh16 P "tells" 446 "Span.tells" 447 448 86 2 213 214 215 216 217 453 454
noncomputable def o219 (P : Params) : Obj := sh21 P "tells" "Span.tells" 4 218
noncomputable def o220 (P : Params) : Obj := sh0 P 
noncomputable def o221 (P : Params) : Obj := sh1 P 
noncomputable def o222 (P : Params) : Obj := sh14 P "self" 459
noncomputable def o223 (P : Params) : Obj := sh0 P 
noncomputable def o224 (P : Params) : Obj := sh20 P "many" "Span.many" 5
noncomputable def o225 (P : Params) : Obj := sh16 P "many" 456 "Span.many" 457 458 93 1 220 221 222 223 224 460 461
noncomputable def o226 (P : Params) : Obj := sh21 P "many" "Span.many" 5 225
noncomputable def o227 (P : Params) : Obj := sh18 P "size" 463 "steps" 464
noncomputable def o228 (P : Params) : Obj := (@PySem.Obj.mk (@PySem.Value.type "dict") none (@PySem.Data.dict (@List.toArray @PySem.DictEntry [(dE P "__module__" 415 (@PySem.Value.str (@PySem.Str.ofString "weighwords.spans") 390)), (dE P "__firstlineno__" 419 (@PySem.Value.int (@OfNat.ofNat @Int 54 (@instOfNat 54)) 418)), (dE P "__init__" 427 (@PySem.Value.ref 197)), (dE P "need" 433 (@PySem.Value.ref 202)), (dE P "cleared" 439 (@PySem.Value.ref 207)), (dE P "put" 445 (@PySem.Value.ref 212)), (dE P "tells" 455 (@PySem.Value.ref 219)), (dE P "many" 462 (@PySem.Value.ref 226)), (dE P "__static_attributes__" 465 (@PySem.Value.ref 227)), (dE P "__dict__" 467 (@PySem.Value.ref 230)), (dE P "__weakref__" 469 (@PySem.Value.ref 231)), (dE P "__doc__" 470 @PySem.Value.none)]) 4) (@List.toArray (@Option @PySem.Value) []))
noncomputable def o229 (P : Params) : Obj := (@PySem.Obj.mk (@PySem.Value.type "type") none (@PySem.Data.cls (@PySem.ClassData.mk (@PySem.Str.ofString "Span") [(@PySem.Value.type "object")] [(@PySem.Value.ref 229), (@PySem.Value.type "object")] 228 (@PySem.Str.ofString "Span") @Bool.true [] [] @Bool.false none @Bool.false)) (@List.toArray (@Option @PySem.Value) [none, none, (some (@PySem.Value.str (@PySem.Str.ofString "Span") 408)), (some (@PySem.Value.str (@PySem.Str.ofString "Span") 416)), (some (@PySem.Value.builtin "object.__new__")), (some (@PySem.Value.bool @Bool.true))]))
noncomputable def o230 (P : Params) : Obj := (@PySem.Obj.mk (@PySem.Value.type "getset_descriptor") none (@PySem.Data.fields (@List.toArray @PySem.Value [(@PySem.Value.str (@PySem.Str.ofString "__dict__") 466), (@PySem.Value.ref 229), (@PySem.Value.builtin "function.__dict__"), (@PySem.Value.builtin "function.__dict__#set")])) (@List.toArray (@Option @PySem.Value) []))
noncomputable def o231 (P : Params) : Obj := sh6 P 468 229
noncomputable def o232 (P : Params) : Obj := sh7 P 229
noncomputable def o233 (P : Params) : Obj := sh8 P 229
noncomputable def o3_10 (P : Params) : Obj := (@PySem.Obj.mk (@PySem.Value.type "dict") none (@PySem.Data.dict (@List.toArray @PySem.DictEntry [(dE P "__name__" 165 (@PySem.Value.str (@PySem.Str.ofString "law_uf020009_04") 473)), (dE P "__doc__" 166 @PySem.Value.none), (dE P "__package__" 167 @PySem.Value.none), (dE P "__loader__" 168 (@PySem.Value.builtin "__main__.__loader__#opaque")), (dE P "__spec__" 169 @PySem.Value.none), (dE P "__annotations__" 170 (@PySem.Value.ref 6)), (dE P "__builtins__" 171 (@PySem.Value.ref 4)), (dE P "__file__" 173 (@PySem.Value.str (@PySem.Str.ofString "/claim/cut.py") 172)), (dE P "__cached__" 174 @PySem.Value.none), (dE P "WeighError" 206 (@PySem.Value.ref 24)), (dE P "Nought" 222 (@PySem.Value.ref 37)), (dE P "NoText" 238 (@PySem.Value.ref 49)), (dE P "NoRow" 254 (@PySem.Value.ref 61)), (dE P "NoMachine" 270 (@PySem.Value.ref 73)), (dE P "NoWord" 286 (@PySem.Value.ref 85)), (dE P "OtherSigns" 302 (@PySem.Value.ref 97)), (dE P "TooMany" 318 (@PySem.Value.ref 109)), (dE P "NOUGHT" 323 (@PySem.Value.ref 112)), (dE P "ONE" 326 (@PySem.Value.ref 113)), (dE P "is_whole" 333 (@PySem.Value.ref 120)), (dE P "common" 341 (@PySem.Value.ref 127)), (dE P "is_share" 348 (@PySem.Value.ref 134)), (dE P "share" 357 (@PySem.Value.ref 141)), (dE P "plus" 365 (@PySem.Value.ref 148)), (dE P "less" 373 (@PySem.Value.ref 155)), (dE P "times" 381 (@PySem.Value.ref 162)), (dE P "over" 389 (@PySem.Value.ref 169)), (dE P "first_other" 399 (@PySem.Value.ref 176)), (dE P "longer" 407 (@PySem.Value.ref 183)), (dE P "Span" 472 (@PySem.Value.ref 229)), (dE P "_law_cell_at" 482 (@PySem.Value.ref 240)), (dE P "_law_whole" 489 (@PySem.Value.ref 247)), (dE P "_law_common" 497 (@PySem.Value.ref 254)), (dE P "_law_share" 506 (@PySem.Value.ref 261)), (dE P "_law_is" 514 (@PySem.Value.ref 268)), (dE P "_law_word_of" 522 (@PySem.Value.ref 275)), (dE P "_law_plus" 530 (@PySem.Value.ref 282)), (dE P "_law_times" 538 (@PySem.Value.ref 289)), (dE P "_law_rank" 544 (@PySem.Value.ref 294)), (dE P "_law_tops_by" 550 (@PySem.Value.ref 299)), (dE P "_law_told" 560 (@PySem.Value.ref 306)), (dE P "_law_wrong" 569 (@PySem.Value.ref 313)), (dE P "_law_sums" 583 (@PySem.Value.ref 320))]) 43) (@List.toArray (@Option @PySem.Value) []))
noncomputable def o12_10 (P : Params) : Obj := (@PySem.Obj.mk @PySem.Value.none none (@PySem.Data.fields (@List.toArray @PySem.Value [(@PySem.Value.int (@OfNat.ofNat @Int 2 (@instOfNat 2)) 0), (@PySem.Value.int (@OfNat.ofNat @Int 0 (@instOfNat 0)) 0), (@PySem.Value.ref 20), (@PySem.Value.int (@OfNat.ofNat @Int 4 (@instOfNat 4)) 0), (@PySem.Value.int (@OfNat.ofNat @Int 0 (@instOfNat 0)) 0), (@PySem.Value.ref 33), (@PySem.Value.int (@OfNat.ofNat @Int 6 (@instOfNat 6)) 0), (@PySem.Value.int (@OfNat.ofNat @Int 0 (@instOfNat 0)) 0), (@PySem.Value.ref 45), (@PySem.Value.int (@OfNat.ofNat @Int 8 (@instOfNat 8)) 0), (@PySem.Value.int (@OfNat.ofNat @Int 0 (@instOfNat 0)) 0), (@PySem.Value.ref 57), (@PySem.Value.int (@OfNat.ofNat @Int 10 (@instOfNat 10)) 0), (@PySem.Value.int (@OfNat.ofNat @Int 0 (@instOfNat 0)) 0), (@PySem.Value.ref 69), (@PySem.Value.int (@OfNat.ofNat @Int 12 (@instOfNat 12)) 0), (@PySem.Value.int (@OfNat.ofNat @Int 0 (@instOfNat 0)) 0), (@PySem.Value.ref 81), (@PySem.Value.int (@OfNat.ofNat @Int 14 (@instOfNat 14)) 0), (@PySem.Value.int (@OfNat.ofNat @Int 0 (@instOfNat 0)) 0), (@PySem.Value.ref 93), (@PySem.Value.int (@OfNat.ofNat @Int 16 (@instOfNat 16)) 0), (@PySem.Value.int (@OfNat.ofNat @Int 0 (@instOfNat 0)) 0), (@PySem.Value.ref 105), (@PySem.Value.int (@OfNat.ofNat @Int 21 (@instOfNat 21)) 0), (@PySem.Value.int (@OfNat.ofNat @Int 0 (@instOfNat 0)) 0), (@PySem.Value.ref 119), (@PySem.Value.int (@OfNat.ofNat @Int 23 (@instOfNat 23)) 0), (@PySem.Value.int (@OfNat.ofNat @Int 0 (@instOfNat 0)) 0), (@PySem.Value.ref 126), (@PySem.Value.int (@OfNat.ofNat @Int 27 (@instOfNat 27)) 0), (@PySem.Value.int (@OfNat.ofNat @Int 0 (@instOfNat 0)) 0), (@PySem.Value.ref 133), (@PySem.Value.int (@OfNat.ofNat @Int 31 (@instOfNat 31)) 0), (@PySem.Value.int (@OfNat.ofNat @Int 0 (@instOfNat 0)) 0), (@PySem.Value.ref 140), (@PySem.Value.int (@OfNat.ofNat @Int 38 (@instOfNat 38)) 0), (@PySem.Value.int (@OfNat.ofNat @Int 0 (@instOfNat 0)) 0), (@PySem.Value.ref 147), (@PySem.Value.int (@OfNat.ofNat @Int 40 (@instOfNat 40)) 0), (@PySem.Value.int (@OfNat.ofNat @Int 0 (@instOfNat 0)) 0), (@PySem.Value.ref 154), (@PySem.Value.int (@OfNat.ofNat @Int 42 (@instOfNat 42)) 0), (@PySem.Value.int (@OfNat.ofNat @Int 0 (@instOfNat 0)) 0), (@PySem.Value.ref 161), (@PySem.Value.int (@OfNat.ofNat @Int 44 (@instOfNat 44)) 0), (@PySem.Value.int (@OfNat.ofNat @Int 0 (@instOfNat 0)) 0), (@PySem.Value.ref 168), (@PySem.Value.int (@OfNat.ofNat @Int 47 (@instOfNat 47)) 0), (@PySem.Value.int (@OfNat.ofNat @Int 0 (@instOfNat 0)) 0), (@PySem.Value.ref 175), (@PySem.Value.int (@OfNat.ofNat @Int 52 (@instOfNat 52)) 0), (@PySem.Value.int (@OfNat.ofNat @Int 0 (@instOfNat 0)) 0), (@PySem.Value.ref 182), (@PySem.Value.int (@OfNat.ofNat @Int 54 (@instOfNat 54)) 0), (@PySem.Value.int (@OfNat.ofNat @Int 0 (@instOfNat 0)) 0), (@PySem.Value.ref 189), (@PySem.Value.int (@OfNat.ofNat @Int 96 (@instOfNat 96)) 0), (@PySem.Value.int (@OfNat.ofNat @Int 0 (@instOfNat 0)) 0), (@PySem.Value.ref 239), (@PySem.Value.int (@OfNat.ofNat @Int 100 (@instOfNat 100)) 0), (@PySem.Value.int (@OfNat.ofNat @Int 0 (@instOfNat 0)) 0), (@PySem.Value.ref 246), (@PySem.Value.int (@OfNat.ofNat @Int 102 (@instOfNat 102)) 0), (@PySem.Value.int (@OfNat.ofNat @Int 0 (@instOfNat 0)) 0), (@PySem.Value.ref 253), (@PySem.Value.int (@OfNat.ofNat @Int 106 (@instOfNat 106)) 0), (@PySem.Value.int (@OfNat.ofNat @Int 0 (@instOfNat 0)) 0), (@PySem.Value.ref 260), (@PySem.Value.int (@OfNat.ofNat @Int 109 (@instOfNat 109)) 0), (@PySem.Value.int (@OfNat.ofNat @Int 0 (@instOfNat 0)) 0), (@PySem.Value.ref 267), (@PySem.Value.int (@OfNat.ofNat @Int 113 (@instOfNat 113)) 0), (@PySem.Value.int (@OfNat.ofNat @Int 0 (@instOfNat 0)) 0), (@PySem.Value.ref 274), (@PySem.Value.int (@OfNat.ofNat @Int 119 (@instOfNat 119)) 0), (@PySem.Value.int (@OfNat.ofNat @Int 0 (@instOfNat 0)) 0), (@PySem.Value.ref 281), (@PySem.Value.int (@OfNat.ofNat @Int 121 (@instOfNat 121)) 0), (@PySem.Value.int (@OfNat.ofNat @Int 0 (@instOfNat 0)) 0), (@PySem.Value.ref 288), (@PySem.Value.int (@OfNat.ofNat @Int 123 (@instOfNat 123)) 0), (@PySem.Value.int (@OfNat.ofNat @Int 0 (@instOfNat 0)) 0), (@PySem.Value.ref 293), (@PySem.Value.int (@OfNat.ofNat @Int 135 (@instOfNat 135)) 0), (@PySem.Value.int (@OfNat.ofNat @Int 0 (@instOfNat 0)) 0), (@PySem.Value.ref 298), (@PySem.Value.int (@OfNat.ofNat @Int 145 (@instOfNat 145)) 0), (@PySem.Value.int (@OfNat.ofNat @Int 0 (@instOfNat 0)) 0), (@PySem.Value.ref 305), (@PySem.Value.int (@OfNat.ofNat @Int 150 (@instOfNat 150)) 0), (@PySem.Value.int (@OfNat.ofNat @Int 0 (@instOfNat 0)) 0), (@PySem.Value.ref 312), (@PySem.Value.int (@OfNat.ofNat @Int 155 (@instOfNat 155)) 0), (@PySem.Value.int (@OfNat.ofNat @Int 0 (@instOfNat 0)) 0), (@PySem.Value.ref 319)])) (@List.toArray (@Option @PySem.Value) []))
noncomputable def o234 (P : Params) : Obj := sh0 P 
noncomputable def o235 (P : Params) : Obj := sh1 P 
noncomputable def o236 (P : Params) : Obj := sh18 P "_law_script" 478 "_law_k" 479
noncomputable def o237 (P : Params) : Obj := sh0 P 
noncomputable def o238 (P : Params) : Obj := sh15 P "_law_cell_at" 25 25
noncomputable def o239 (P : Params) : Obj := sh16 P "_law_cell_at" 475 "_law_cell_at" 476 477 96 2 234 235 236 237 238 480 481
noncomputable def o240 (P : Params) : Obj := sh17 P "_law_cell_at" 25 25 "law_uf020009_04" 473 239
noncomputable def o241 (P : Params) : Obj := sh0 P 
noncomputable def o242 (P : Params) : Obj := sh1 P 
noncomputable def o243 (P : Params) : Obj := sh14 P "_law_found" 486
noncomputable def o244 (P : Params) : Obj := sh0 P 
noncomputable def o245 (P : Params) : Obj := sh15 P "_law_whole" 26 26
noncomputable def o246 (P : Params) : Obj := sh16 P "_law_whole" 483 "_law_whole" 484 485 100 1 241 242 243 244 245 487 488
noncomputable def o247 (P : Params) : Obj := sh17 P "_law_whole" 26 26 "law_uf020009_04" 473 246
noncomputable def o248 (P : Params) : Obj := sh0 P 
noncomputable def o249 (P : Params) : Obj := sh1 P 
noncomputable def o250 (P : Params) : Obj := sh18 P "_law_one" 493 "_law_other" 494
noncomputable def o251 (P : Params) : Obj := sh0 P 
noncomputable def o252 (P : Params) : Obj := sh15 P "_law_common" 27 27
noncomputable def o253 (P : Params) : Obj := sh16 P "_law_common" 490 "_law_common" 491 492 102 2 248 249 250 251 252 495 496
noncomputable def o254 (P : Params) : Obj := sh17 P "_law_common" 27 27 "law_uf020009_04" 473 253
noncomputable def o255 (P : Params) : Obj := sh0 P 
noncomputable def o256 (P : Params) : Obj := sh1 P 
noncomputable def o257 (P : Params) : Obj := sh19 P "_law_top" 501 "_law_bottom" 502 "_law_common_here" 503
noncomputable def o258 (P : Params) : Obj := sh0 P 
noncomputable def o259 (P : Params) : Obj := sh15 P "_law_share" 28 28
noncomputable def o260 (P : Params) : Obj := sh16 P "_law_share" 498 "_law_share" 499 500 106 2 255 256 257 258 259 504 505
noncomputable def o261 (P : Params) : Obj := sh17 P "_law_share" 28 28 "law_uf020009_04" 473 260
noncomputable def o262 (P : Params) : Obj := sh0 P 
noncomputable def o263 (P : Params) : Obj := sh1 P 
noncomputable def o264 (P : Params) : Obj := sh18 P "_law_found" 510 "_law_due" 511
noncomputable def o265 (P : Params) : Obj := sh0 P 
noncomputable def o266 (P : Params) : Obj := sh15 P "_law_is" 29 29
noncomputable def o267 (P : Params) : Obj := sh16 P "_law_is" 507 "_law_is" 508 509 109 2 262 263 264 265 266 512 513
noncomputable def o268 (P : Params) : Obj := sh17 P "_law_is" 29 29 "law_uf020009_04" 473 267
noncomputable def o269 (P : Params) : Obj := sh0 P 
noncomputable def o270 (P : Params) : Obj := sh1 P 
noncomputable def o271 (P : Params) : Obj := sh18 P "_law_e" 518 "_law_found" 519
noncomputable def o272 (P : Params) : Obj := sh0 P 
noncomputable def o273 (P : Params) : Obj := sh15 P "_law_word_of" 30 30
noncomputable def o274 (P : Params) : Obj := sh16 P "_law_word_of" 515 "_law_word_of" 516 517 113 1 269 270 271 272 273 520 521
noncomputable def o275 (P : Params) : Obj := sh17 P "_law_word_of" 30 30 "law_uf020009_04" 473 274
noncomputable def o276 (P : Params) : Obj := sh0 P 
noncomputable def o277 (P : Params) : Obj := sh1 P 
noncomputable def o278 (P : Params) : Obj := sh18 P "_law_one" 526 "_law_other" 527
noncomputable def o279 (P : Params) : Obj := sh0 P 
noncomputable def o280 (P : Params) : Obj := sh15 P "_law_plus" 31 31
noncomputable def o281 (P : Params) : Obj := sh16 P "_law_plus" 523 "_law_plus" 524 525 119 2 276 277 278 279 280 528 529
noncomputable def o282 (P : Params) : Obj := sh17 P "_law_plus" 31 31 "law_uf020009_04" 473 281
noncomputable def o283 (P : Params) : Obj := sh0 P 
noncomputable def o284 (P : Params) : Obj := sh1 P 
noncomputable def o285 (P : Params) : Obj := sh18 P "_law_one" 534 "_law_other" 535
noncomputable def o286 (P : Params) : Obj := sh0 P 
noncomputable def o287 (P : Params) : Obj := sh15 P "_law_times" 32 31
noncomputable def o288 (P : Params) : Obj := sh16 P "_law_times" 531 "_law_times" 532 533 121 2 283 284 285 286 287 536 537
noncomputable def o289 (P : Params) : Obj := sh17 P "_law_times" 32 31 "law_uf020009_04" 473 288
noncomputable def o290 (P : Params) : Obj := sh0 P 
noncomputable def o291 (P : Params) : Obj := sh1 P 
noncomputable def o292 (P : Params) : Obj := sh15 P "_law_rank" 33 33
noncomputable def o293 (P : Params) : Obj := sh22 P "_law_rank" 539 "_law_rank" 540 541 123 1 290 291 292 542 543
noncomputable def o294 (P : Params) : Obj := sh17 P "_law_rank" 33 33 "law_uf020009_04" 473 293
noncomputable def o295 (P : Params) : Obj := sh0 P 
noncomputable def o296 (P : Params) : Obj := sh1 P 
noncomputable def o297 (P : Params) : Obj := sh15 P "_law_tops_by" 34 34
noncomputable def o298 (P : Params) : Obj := sh22 P "_law_tops_by" 545 "_law_tops_by" 546 547 135 3 295 296 297 548 549
noncomputable def o299 (P : Params) : Obj := sh17 P "_law_tops_by" 34 34 "law_uf020009_04" 473 298
noncomputable def o300 (P : Params) : Obj := sh0 P 
noncomputable def o301 (P : Params) : Obj := sh1 P 
noncomputable def o302 (P : Params) : Obj := sh23 P "_law_span" 554 "_law_way" 555 "_law_row" 556 "_law_e" 557
noncomputable def o303 (P : Params) : Obj := sh0 P 
noncomputable def o304 (P : Params) : Obj := sh15 P "_law_told" 35 35
noncomputable def o305 (P : Params) : Obj := sh16 P "_law_told" 551 "_law_told" 552 553 145 3 300 301 302 303 304 558 559
noncomputable def o306 (P : Params) : Obj := sh17 P "_law_told" 35 35 "law_uf020009_04" 473 305
noncomputable def o307 (P : Params) : Obj := sh0 P 
noncomputable def o308 (P : Params) : Obj := sh1 P 
noncomputable def o309 (P : Params) : Obj := sh19 P "_law_cell" 564 "_law_row" 565 "_law_some" 566
noncomputable def o310 (P : Params) : Obj := sh0 P 
noncomputable def o311 (P : Params) : Obj := sh15 P "_law_wrong" 36 36
noncomputable def o312 (P : Params) : Obj := sh16 P "_law_wrong" 561 "_law_wrong" 562 563 150 2 307 308 309 310 311 567 568
noncomputable def o313 (P : Params) : Obj := sh17 P "_law_wrong" 36 36 "law_uf020009_04" 473 312
noncomputable def o314 (P : Params) : Obj := sh0 P 
noncomputable def o315 (P : Params) : Obj := sh1 P 
noncomputable def o316 (P : Params) : Obj := (@PySem.Obj.mk (@PySem.Value.type "tuple") none (@PySem.Data.seq (@List.toArray @PySem.Value [(@PySem.Value.str (@PySem.Str.ofString "_law_parts") 573), (@PySem.Value.str (@PySem.Str.ofString "_law_kept") 574), (@PySem.Value.str (@PySem.Str.ofString "_law_size") 575), (@PySem.Value.str (@PySem.Str.ofString "_law_found") 576), (@PySem.Value.str (@PySem.Str.ofString "_law_place") 577), (@PySem.Value.str (@PySem.Str.ofString "_law_total") 578), (@PySem.Value.str (@PySem.Str.ofString "_law_part") 579), (@PySem.Value.str (@PySem.Str.ofString "_law_row") 580)]) 0) (@List.toArray (@Option @PySem.Value) []))
noncomputable def o317 (P : Params) : Obj := sh0 P 
noncomputable def o318 (P : Params) : Obj := sh15 P "_law_sums" 37 37
noncomputable def o319 (P : Params) : Obj := sh16 P "_law_sums" 570 "_law_sums" 571 572 155 3 314 315 316 317 318 581 582
noncomputable def o320 (P : Params) : Obj := sh17 P "_law_sums" 37 37 "law_uf020009_04" 473 319
noncomputable def o3_11 (P : Params) : Obj := (@PySem.Obj.mk (@PySem.Value.type "dict") none (@PySem.Data.dict (@List.toArray @PySem.DictEntry [(dE P "__name__" 165 (@PySem.Value.str (@PySem.Str.ofString "law_uf020009_04") 473)), (dE P "__doc__" 166 @PySem.Value.none), (dE P "__package__" 167 @PySem.Value.none), (dE P "__loader__" 168 (@PySem.Value.builtin "__main__.__loader__#opaque")), (dE P "__spec__" 169 @PySem.Value.none), (dE P "__annotations__" 170 (@PySem.Value.ref 6)), (dE P "__builtins__" 171 (@PySem.Value.ref 4)), (dE P "__file__" 173 (@PySem.Value.str (@PySem.Str.ofString "/claim/cut.py") 172)), (dE P "__cached__" 174 @PySem.Value.none), (dE P "WeighError" 206 (@PySem.Value.ref 24)), (dE P "Nought" 222 (@PySem.Value.ref 37)), (dE P "NoText" 238 (@PySem.Value.ref 49)), (dE P "NoRow" 254 (@PySem.Value.ref 61)), (dE P "NoMachine" 270 (@PySem.Value.ref 73)), (dE P "NoWord" 286 (@PySem.Value.ref 85)), (dE P "OtherSigns" 302 (@PySem.Value.ref 97)), (dE P "TooMany" 318 (@PySem.Value.ref 109)), (dE P "NOUGHT" 323 (@PySem.Value.ref 112)), (dE P "ONE" 326 (@PySem.Value.ref 113)), (dE P "is_whole" 333 (@PySem.Value.ref 120)), (dE P "common" 341 (@PySem.Value.ref 127)), (dE P "is_share" 348 (@PySem.Value.ref 134)), (dE P "share" 357 (@PySem.Value.ref 141)), (dE P "plus" 365 (@PySem.Value.ref 148)), (dE P "less" 373 (@PySem.Value.ref 155)), (dE P "times" 381 (@PySem.Value.ref 162)), (dE P "over" 389 (@PySem.Value.ref 169)), (dE P "first_other" 399 (@PySem.Value.ref 176)), (dE P "longer" 407 (@PySem.Value.ref 183)), (dE P "Span" 472 (@PySem.Value.ref 229)), (dE P "_law_cell_at" 482 (@PySem.Value.ref 240)), (dE P "_law_whole" 489 (@PySem.Value.ref 247)), (dE P "_law_common" 497 (@PySem.Value.ref 254)), (dE P "_law_share" 506 (@PySem.Value.ref 261)), (dE P "_law_is" 514 (@PySem.Value.ref 268)), (dE P "_law_word_of" 522 (@PySem.Value.ref 275)), (dE P "_law_plus" 530 (@PySem.Value.ref 282)), (dE P "_law_times" 538 (@PySem.Value.ref 289)), (dE P "_law_rank" 544 (@PySem.Value.ref 294)), (dE P "_law_tops_by" 550 (@PySem.Value.ref 299)), (dE P "_law_told" 560 (@PySem.Value.ref 306)), (dE P "_law_wrong" 569 (@PySem.Value.ref 313)), (dE P "_law_sums" 583 (@PySem.Value.ref 320)), (dE P "_law_tells_good" 589 (@PySem.Value.ref 325)), (dE P "_law_deed" 595 (@PySem.Value.ref 330)), (dE P "law" 601 (@PySem.Value.ref 335))]) 46) (@List.toArray (@Option @PySem.Value) []))
noncomputable def o12_11 (P : Params) : Obj := (@PySem.Obj.mk @PySem.Value.none none (@PySem.Data.fields (@List.toArray @PySem.Value [(@PySem.Value.int (@OfNat.ofNat @Int 2 (@instOfNat 2)) 0), (@PySem.Value.int (@OfNat.ofNat @Int 0 (@instOfNat 0)) 0), (@PySem.Value.ref 20), (@PySem.Value.int (@OfNat.ofNat @Int 4 (@instOfNat 4)) 0), (@PySem.Value.int (@OfNat.ofNat @Int 0 (@instOfNat 0)) 0), (@PySem.Value.ref 33), (@PySem.Value.int (@OfNat.ofNat @Int 6 (@instOfNat 6)) 0), (@PySem.Value.int (@OfNat.ofNat @Int 0 (@instOfNat 0)) 0), (@PySem.Value.ref 45), (@PySem.Value.int (@OfNat.ofNat @Int 8 (@instOfNat 8)) 0), (@PySem.Value.int (@OfNat.ofNat @Int 0 (@instOfNat 0)) 0), (@PySem.Value.ref 57), (@PySem.Value.int (@OfNat.ofNat @Int 10 (@instOfNat 10)) 0), (@PySem.Value.int (@OfNat.ofNat @Int 0 (@instOfNat 0)) 0), (@PySem.Value.ref 69), (@PySem.Value.int (@OfNat.ofNat @Int 12 (@instOfNat 12)) 0), (@PySem.Value.int (@OfNat.ofNat @Int 0 (@instOfNat 0)) 0), (@PySem.Value.ref 81), (@PySem.Value.int (@OfNat.ofNat @Int 14 (@instOfNat 14)) 0), (@PySem.Value.int (@OfNat.ofNat @Int 0 (@instOfNat 0)) 0), (@PySem.Value.ref 93), (@PySem.Value.int (@OfNat.ofNat @Int 16 (@instOfNat 16)) 0), (@PySem.Value.int (@OfNat.ofNat @Int 0 (@instOfNat 0)) 0), (@PySem.Value.ref 105), (@PySem.Value.int (@OfNat.ofNat @Int 21 (@instOfNat 21)) 0), (@PySem.Value.int (@OfNat.ofNat @Int 0 (@instOfNat 0)) 0), (@PySem.Value.ref 119), (@PySem.Value.int (@OfNat.ofNat @Int 23 (@instOfNat 23)) 0), (@PySem.Value.int (@OfNat.ofNat @Int 0 (@instOfNat 0)) 0), (@PySem.Value.ref 126), (@PySem.Value.int (@OfNat.ofNat @Int 27 (@instOfNat 27)) 0), (@PySem.Value.int (@OfNat.ofNat @Int 0 (@instOfNat 0)) 0), (@PySem.Value.ref 133), (@PySem.Value.int (@OfNat.ofNat @Int 31 (@instOfNat 31)) 0), (@PySem.Value.int (@OfNat.ofNat @Int 0 (@instOfNat 0)) 0), (@PySem.Value.ref 140), (@PySem.Value.int (@OfNat.ofNat @Int 38 (@instOfNat 38)) 0), (@PySem.Value.int (@OfNat.ofNat @Int 0 (@instOfNat 0)) 0), (@PySem.Value.ref 147), (@PySem.Value.int (@OfNat.ofNat @Int 40 (@instOfNat 40)) 0), (@PySem.Value.int (@OfNat.ofNat @Int 0 (@instOfNat 0)) 0), (@PySem.Value.ref 154), (@PySem.Value.int (@OfNat.ofNat @Int 42 (@instOfNat 42)) 0), (@PySem.Value.int (@OfNat.ofNat @Int 0 (@instOfNat 0)) 0), (@PySem.Value.ref 161), (@PySem.Value.int (@OfNat.ofNat @Int 44 (@instOfNat 44)) 0), (@PySem.Value.int (@OfNat.ofNat @Int 0 (@instOfNat 0)) 0), (@PySem.Value.ref 168), (@PySem.Value.int (@OfNat.ofNat @Int 47 (@instOfNat 47)) 0), (@PySem.Value.int (@OfNat.ofNat @Int 0 (@instOfNat 0)) 0), (@PySem.Value.ref 175), (@PySem.Value.int (@OfNat.ofNat @Int 52 (@instOfNat 52)) 0), (@PySem.Value.int (@OfNat.ofNat @Int 0 (@instOfNat 0)) 0), (@PySem.Value.ref 182), (@PySem.Value.int (@OfNat.ofNat @Int 54 (@instOfNat 54)) 0), (@PySem.Value.int (@OfNat.ofNat @Int 0 (@instOfNat 0)) 0), (@PySem.Value.ref 189), (@PySem.Value.int (@OfNat.ofNat @Int 96 (@instOfNat 96)) 0), (@PySem.Value.int (@OfNat.ofNat @Int 0 (@instOfNat 0)) 0), (@PySem.Value.ref 239), (@PySem.Value.int (@OfNat.ofNat @Int 100 (@instOfNat 100)) 0), (@PySem.Value.int (@OfNat.ofNat @Int 0 (@instOfNat 0)) 0), (@PySem.Value.ref 246), (@PySem.Value.int (@OfNat.ofNat @Int 102 (@instOfNat 102)) 0), (@PySem.Value.int (@OfNat.ofNat @Int 0 (@instOfNat 0)) 0), (@PySem.Value.ref 253), (@PySem.Value.int (@OfNat.ofNat @Int 106 (@instOfNat 106)) 0), (@PySem.Value.int (@OfNat.ofNat @Int 0 (@instOfNat 0)) 0), (@PySem.Value.ref 260), (@PySem.Value.int (@OfNat.ofNat @Int 109 (@instOfNat 109)) 0), (@PySem.Value.int (@OfNat.ofNat @Int 0 (@instOfNat 0)) 0), (@PySem.Value.ref 267), (@PySem.Value.int (@OfNat.ofNat @Int 113 (@instOfNat 113)) 0), (@PySem.Value.int (@OfNat.ofNat @Int 0 (@instOfNat 0)) 0), (@PySem.Value.ref 274), (@PySem.Value.int (@OfNat.ofNat @Int 119 (@instOfNat 119)) 0), (@PySem.Value.int (@OfNat.ofNat @Int 0 (@instOfNat 0)) 0), (@PySem.Value.ref 281), (@PySem.Value.int (@OfNat.ofNat @Int 121 (@instOfNat 121)) 0), (@PySem.Value.int (@OfNat.ofNat @Int 0 (@instOfNat 0)) 0), (@PySem.Value.ref 288), (@PySem.Value.int (@OfNat.ofNat @Int 123 (@instOfNat 123)) 0), (@PySem.Value.int (@OfNat.ofNat @Int 0 (@instOfNat 0)) 0), (@PySem.Value.ref 293), (@PySem.Value.int (@OfNat.ofNat @Int 135 (@instOfNat 135)) 0), (@PySem.Value.int (@OfNat.ofNat @Int 0 (@instOfNat 0)) 0), (@PySem.Value.ref 298), (@PySem.Value.int (@OfNat.ofNat @Int 145 (@instOfNat 145)) 0), (@PySem.Value.int (@OfNat.ofNat @Int 0 (@instOfNat 0)) 0), (@PySem.Value.ref 305), (@PySem.Value.int (@OfNat.ofNat @Int 150 (@instOfNat 150)) 0), (@PySem.Value.int (@OfNat.ofNat @Int 0 (@instOfNat 0)) 0), (@PySem.Value.ref 312), (@PySem.Value.int (@OfNat.ofNat @Int 155 (@instOfNat 155)) 0), (@PySem.Value.int (@OfNat.ofNat @Int 0 (@instOfNat 0)) 0), (@PySem.Value.ref 319), (@PySem.Value.int (@OfNat.ofNat @Int 163 (@instOfNat 163)) 0), (@PySem.Value.int (@OfNat.ofNat @Int 0 (@instOfNat 0)) 0), (@PySem.Value.ref 324), (@PySem.Value.int (@OfNat.ofNat @Int 172 (@instOfNat 172)) 0), (@PySem.Value.int (@OfNat.ofNat @Int 0 (@instOfNat 0)) 0), (@PySem.Value.ref 329), (@PySem.Value.int (@OfNat.ofNat @Int 197 (@instOfNat 197)) 0), (@PySem.Value.int (@OfNat.ofNat @Int 0 (@instOfNat 0)) 0), (@PySem.Value.ref 334)])) (@List.toArray (@Option @PySem.Value) []))
noncomputable def o321 (P : Params) : Obj := sh0 P 
noncomputable def o322 (P : Params) : Obj := sh1 P 
noncomputable def o323 (P : Params) : Obj := sh15 P "_law_tells_good" 38 38
noncomputable def o324 (P : Params) : Obj := sh22 P "_law_tells_good" 584 "_law_tells_good" 585 586 163 4 321 322 323 587 588
noncomputable def o325 (P : Params) : Obj := sh17 P "_law_tells_good" 38 38 "law_uf020009_04" 473 324
noncomputable def o326 (P : Params) : Obj := sh0 P 
noncomputable def o327 (P : Params) : Obj := sh1 P 
noncomputable def o328 (P : Params) : Obj := sh15 P "_law_deed" 39 39
noncomputable def o329 (P : Params) : Obj := sh22 P "_law_deed" 590 "_law_deed" 591 592 172 2 326 327 328 593 594
noncomputable def o330 (P : Params) : Obj := sh17 P "_law_deed" 39 39 "law_uf020009_04" 473 329
noncomputable def o331 (P : Params) : Obj := sh0 P 
noncomputable def o332 (P : Params) : Obj := sh1 P 
noncomputable def o333 (P : Params) : Obj := sh15 P "law" 40 40
noncomputable def o334 (P : Params) : Obj := sh22 P "law" 596 "law" 597 598 197 1 331 332 333 599 600
noncomputable def o335 (P : Params) : Obj := sh17 P "law" 40 40 "law_uf020009_04" 473 334
noncomputable def LA (P : Params) : List Obj := [boot_o_0 P, boot_o_1 P, boot_o_2 P, boot_o_3 P, boot_o_4 P, boot_o_5 P, boot_o_6 P, boot_o_7 P, boot_o_8 P, boot_o_9 P, boot_o_10 P, o11 P, o12 P, o13 P, o14 P]
noncomputable def LB (P : Params) : List Obj := [boot_o_0 P, boot_o_1 P, boot_o_2 P, boot_o_3 P, boot_o_4 P, boot_o_5 P, boot_o_6 P, boot_o_7 P, boot_o_8 P, boot_o_9 P, boot_o_10 P, o11 P, o12 P, o13 P, o14 P]
noncomputable def L0 (P : Params) : List Obj := [boot_o_0 P, boot_o_1 P, boot_o_2 P, o3_0 P, boot_o_4 P, boot_o_5 P, boot_o_6 P, boot_o_7 P, boot_o_8 P, boot_o_9 P, boot_o_10 P, o11 P, o12_0 P, o13 P, o14 P, o15 P, o16 P, o17 P, o18 P, o19 P, o20 P, o21 P, o22 P, o23 P, o24 P, o25 P, o26 P, o27 P]
noncomputable def L1 (P : Params) : List Obj := [boot_o_0 P, boot_o_1 P, boot_o_2 P, o3_1 P, boot_o_4 P, boot_o_5 P, boot_o_6 P, boot_o_7 P, boot_o_8 P, boot_o_9 P, boot_o_10 P, o11 P, o12_1 P, o13 P, o14 P, o15 P, o16 P, o17 P, o18 P, o19 P, o20 P, o21 P, o22 P, o23 P, o24_1 P, o25 P, o26 P, o27 P, o28 P, o29 P, o30 P, o31 P, o32 P, o33 P, o34 P, o35 P, o36 P, o37 P, o38 P, o39 P]
noncomputable def L2 (P : Params) : List Obj := [boot_o_0 P, boot_o_1 P, boot_o_2 P, o3_2 P, boot_o_4 P, boot_o_5 P, boot_o_6 P, boot_o_7 P, boot_o_8 P, boot_o_9 P, boot_o_10 P, o11 P, o12_2 P, o13 P, o14 P, o15 P, o16 P, o17 P, o18 P, o19 P, o20 P, o21 P, o22 P, o23 P, o24_2 P, o25 P, o26 P, o27 P, o28 P, o29 P, o30 P, o31 P, o32 P, o33 P, o34 P, o35 P, o36 P, o37 P, o38 P, o39 P, o40 P, o41 P, o42 P, o43 P, o44 P, o45 P, o46 P, o47 P, o48 P, o49 P, o50 P, o51 P]
noncomputable def L3 (P : Params) : List Obj := [boot_o_0 P, boot_o_1 P, boot_o_2 P, o3_3 P, boot_o_4 P, boot_o_5 P, boot_o_6 P, boot_o_7 P, boot_o_8 P, boot_o_9 P, boot_o_10 P, o11 P, o12_3 P, o13 P, o14 P, o15 P, o16 P, o17 P, o18 P, o19 P, o20 P, o21 P, o22 P, o23 P, o24_3 P, o25 P, o26 P, o27 P, o28 P, o29 P, o30 P, o31 P, o32 P, o33 P, o34 P, o35 P, o36 P, o37 P, o38 P, o39 P, o40 P, o41 P, o42 P, o43 P, o44 P, o45 P, o46 P, o47 P, o48 P, o49 P, o50 P, o51 P, o52 P, o53 P, o54 P, o55 P, o56 P, o57 P, o58 P, o59 P, o60 P, o61 P, o62 P, o63 P]
noncomputable def L4 (P : Params) : List Obj := [boot_o_0 P, boot_o_1 P, boot_o_2 P, o3_4 P, boot_o_4 P, boot_o_5 P, boot_o_6 P, boot_o_7 P, boot_o_8 P, boot_o_9 P, boot_o_10 P, o11 P, o12_4 P, o13 P, o14 P, o15 P, o16 P, o17 P, o18 P, o19 P, o20 P, o21 P, o22 P, o23 P, o24_4 P, o25 P, o26 P, o27 P, o28 P, o29 P, o30 P, o31 P, o32 P, o33 P, o34 P, o35 P, o36 P, o37 P, o38 P, o39 P, o40 P, o41 P, o42 P, o43 P, o44 P, o45 P, o46 P, o47 P, o48 P, o49 P, o50 P, o51 P, o52 P, o53 P, o54 P, o55 P, o56 P, o57 P, o58 P, o59 P, o60 P, o61 P, o62 P, o63 P, o64 P, o65 P, o66 P, o67 P, o68 P, o69 P, o70 P, o71 P, o72 P, o73 P, o74 P, o75 P]
noncomputable def L5 (P : Params) : List Obj := [boot_o_0 P, boot_o_1 P, boot_o_2 P, o3_5 P, boot_o_4 P, boot_o_5 P, boot_o_6 P, boot_o_7 P, boot_o_8 P, boot_o_9 P, boot_o_10 P, o11 P, o12_5 P, o13 P, o14 P, o15 P, o16 P, o17 P, o18 P, o19 P, o20 P, o21 P, o22 P, o23 P, o24_5 P, o25 P, o26 P, o27 P, o28 P, o29 P, o30 P, o31 P, o32 P, o33 P, o34 P, o35 P, o36 P, o37 P, o38 P, o39 P, o40 P, o41 P, o42 P, o43 P, o44 P, o45 P, o46 P, o47 P, o48 P, o49 P, o50 P, o51 P, o52 P, o53 P, o54 P, o55 P, o56 P, o57 P, o58 P, o59 P, o60 P, o61 P, o62 P, o63 P, o64 P, o65 P, o66 P, o67 P, o68 P, o69 P, o70 P, o71 P, o72 P, o73 P, o74 P, o75 P, o76 P, o77 P, o78 P, o79 P, o80 P, o81 P, o82 P, o83 P, o84 P, o85 P, o86 P, o87 P]
noncomputable def L6 (P : Params) : List Obj := [boot_o_0 P, boot_o_1 P, boot_o_2 P, o3_6 P, boot_o_4 P, boot_o_5 P, boot_o_6 P, boot_o_7 P, boot_o_8 P, boot_o_9 P, boot_o_10 P, o11 P, o12_6 P, o13 P, o14 P, o15 P, o16 P, o17 P, o18 P, o19 P, o20 P, o21 P, o22 P, o23 P, o24_6 P, o25 P, o26 P, o27 P, o28 P, o29 P, o30 P, o31 P, o32 P, o33 P, o34 P, o35 P, o36 P, o37 P, o38 P, o39 P, o40 P, o41 P, o42 P, o43 P, o44 P, o45 P, o46 P, o47 P, o48 P, o49 P, o50 P, o51 P, o52 P, o53 P, o54 P, o55 P, o56 P, o57 P, o58 P, o59 P, o60 P, o61 P, o62 P, o63 P, o64 P, o65 P, o66 P, o67 P, o68 P, o69 P, o70 P, o71 P, o72 P, o73 P, o74 P, o75 P, o76 P, o77 P, o78 P, o79 P, o80 P, o81 P, o82 P, o83 P, o84 P, o85 P, o86 P, o87 P, o88 P, o89 P, o90 P, o91 P, o92 P, o93 P, o94 P, o95 P, o96 P, o97 P, o98 P, o99 P]
noncomputable def L7 (P : Params) : List Obj := [boot_o_0 P, boot_o_1 P, boot_o_2 P, o3_7 P, boot_o_4 P, boot_o_5 P, boot_o_6 P, boot_o_7 P, boot_o_8 P, boot_o_9 P, boot_o_10 P, o11 P, o12_7 P, o13 P, o14 P, o15 P, o16 P, o17 P, o18 P, o19 P, o20 P, o21 P, o22 P, o23 P, o24_7 P, o25 P, o26 P, o27 P, o28 P, o29 P, o30 P, o31 P, o32 P, o33 P, o34 P, o35 P, o36 P, o37 P, o38 P, o39 P, o40 P, o41 P, o42 P, o43 P, o44 P, o45 P, o46 P, o47 P, o48 P, o49 P, o50 P, o51 P, o52 P, o53 P, o54 P, o55 P, o56 P, o57 P, o58 P, o59 P, o60 P, o61 P, o62 P, o63 P, o64 P, o65 P, o66 P, o67 P, o68 P, o69 P, o70 P, o71 P, o72 P, o73 P, o74 P, o75 P, o76 P, o77 P, o78 P, o79 P, o80 P, o81 P, o82 P, o83 P, o84 P, o85 P, o86 P, o87 P, o88 P, o89 P, o90 P, o91 P, o92 P, o93 P, o94 P, o95 P, o96 P, o97 P, o98 P, o99 P, o100 P, o101 P, o102 P, o103 P, o104 P, o105 P, o106 P, o107 P, o108 P, o109 P, o110 P, o111 P, o112 P, o113 P, o114 P, o115 P, o116 P, o117 P, o118 P, o119 P, o120 P, o121 P, o122 P, o123 P, o124 P, o125 P, o126 P, o127 P, o128 P, o129 P, o130 P, o131 P, o132 P, o133 P, o134 P, o135 P, o136 P, o137 P, o138 P, o139 P, o140 P, o141 P, o142 P, o143 P, o144 P, o145 P, o146 P, o147 P, o148 P]
noncomputable def L8 (P : Params) : List Obj := [boot_o_0 P, boot_o_1 P, boot_o_2 P, o3_8 P, boot_o_4 P, boot_o_5 P, boot_o_6 P, boot_o_7 P, boot_o_8 P, boot_o_9 P, boot_o_10 P, o11 P, o12_8 P, o13 P, o14 P, o15 P, o16 P, o17 P, o18 P, o19 P, o20 P, o21 P, o22 P, o23 P, o24_7 P, o25 P, o26 P, o27 P, o28 P, o29 P, o30 P, o31 P, o32 P, o33 P, o34 P, o35 P, o36 P, o37 P, o38 P, o39 P, o40 P, o41 P, o42 P, o43 P, o44 P, o45 P, o46 P, o47 P, o48 P, o49 P, o50 P, o51 P, o52 P, o53 P, o54 P, o55 P, o56 P, o57 P, o58 P, o59 P, o60 P, o61 P, o62 P, o63 P, o64 P, o65 P, o66 P, o67 P, o68 P, o69 P, o70 P, o71 P, o72 P, o73 P, o74 P, o75 P, o76 P, o77 P, o78 P, o79 P, o80 P, o81 P, o82 P, o83 P, o84 P, o85 P, o86 P, o87 P, o88 P, o89 P, o90 P, o91 P, o92 P, o93 P, o94 P, o95 P, o96 P, o97 P, o98 P, o99 P, o100 P, o101 P, o102 P, o103 P, o104 P, o105 P, o106 P, o107 P, o108 P, o109 P, o110 P, o111 P, o112 P, o113 P, o114 P, o115 P, o116 P, o117 P, o118 P, o119 P, o120 P, o121 P, o122 P, o123 P, o124 P, o125 P, o126 P, o127 P, o128 P, o129 P, o130 P, o131 P, o132 P, o133 P, o134 P, o135 P, o136 P, o137 P, o138 P, o139 P, o140 P, o141 P, o142 P, o143 P, o144 P, o145 P, o146 P, o147 P, o148 P, o149 P, o150 P, o151 P, o152 P, o153 P, o154 P, o155 P, o156 P, o157 P, o158 P, o159 P, o160 P, o161 P, o162 P, o163 P, o164 P, o165 P, o166 P, o167 P, o168 P, o169 P, o170 P, o171 P, o172 P, o173 P, o174 P, o175 P, o176 P, o177 P, o178 P, o179 P, o180 P, o181 P, o182 P, o183 P]
noncomputable def L9 (P : Params) : List Obj := [boot_o_0 P, boot_o_1 P, boot_o_2 P, o3_9 P, boot_o_4 P, boot_o_5 P, boot_o_6 P, boot_o_7 P, boot_o_8 P, boot_o_9 P, boot_o_10 P, o11 P, o12_9 P, o13 P, o14 P, o15 P, o16 P, o17 P, o18 P, o19 P, o20 P, o21 P, o22 P, o23 P, o24_7 P, o25 P, o26 P, o27 P, o28 P, o29 P, o30 P, o31 P, o32 P, o33 P, o34 P, o35 P, o36 P, o37 P, o38 P, o39 P, o40 P, o41 P, o42 P, o43 P, o44 P, o45 P, o46 P, o47 P, o48 P, o49 P, o50 P, o51 P, o52 P, o53 P, o54 P, o55 P, o56 P, o57 P, o58 P, o59 P, o60 P, o61 P, o62 P, o63 P, o64 P, o65 P, o66 P, o67 P, o68 P, o69 P, o70 P, o71 P, o72 P, o73 P, o74 P, o75 P, o76 P, o77 P, o78 P, o79 P, o80 P, o81 P, o82 P, o83 P, o84 P, o85 P, o86 P, o87 P, o88 P, o89 P, o90 P, o91 P, o92 P, o93 P, o94 P, o95 P, o96 P, o97 P, o98 P, o99 P, o100 P, o101 P, o102 P, o103 P, o104 P, o105 P, o106 P, o107 P, o108 P, o109 P, o110 P, o111 P, o112 P, o113 P, o114 P, o115 P, o116 P, o117 P, o118 P, o119 P, o120 P, o121 P, o122 P, o123 P, o124 P, o125 P, o126 P, o127 P, o128 P, o129 P, o130 P, o131 P, o132 P, o133 P, o134 P, o135 P, o136 P, o137 P, o138 P, o139 P, o140 P, o141 P, o142 P, o143 P, o144 P, o145 P, o146 P, o147 P, o148 P, o149 P, o150 P, o151 P, o152 P, o153 P, o154 P, o155 P, o156 P, o157 P, o158 P, o159 P, o160 P, o161 P, o162 P, o163 P, o164 P, o165 P, o166 P, o167 P, o168 P, o169 P, o170 P, o171 P, o172 P, o173 P, o174 P, o175 P, o176 P, o177 P, o178 P, o179 P, o180 P, o181 P, o182 P, o183 P, o184 P, o185 P, o186 P, o187 P, o188 P, o189 P, o190 P, o191 P, o192 P, o193 P, o194 P, o195 P, o196 P, o197 P, o198 P, o199 P, o200 P, o201 P, o202 P, o203 P, o204 P, o205 P, o206 P, o207 P, o208 P, o209 P, o210 P, o211 P, o212 P, o213 P, o214 P, o215 P, o216 P, o217 P, o218 P, o219 P, o220 P, o221 P, o222 P, o223 P, o224 P, o225 P, o226 P, o227 P, o228 P, o229 P, o230 P, o231 P, o232 P, o233 P]
noncomputable def L10 (P : Params) : List Obj := [boot_o_0 P, boot_o_1 P, boot_o_2 P, o3_10 P, boot_o_4 P, boot_o_5 P, boot_o_6 P, boot_o_7 P, boot_o_8 P, boot_o_9 P, boot_o_10 P, o11 P, o12_10 P, o13 P, o14 P, o15 P, o16 P, o17 P, o18 P, o19 P, o20 P, o21 P, o22 P, o23 P, o24_7 P, o25 P, o26 P, o27 P, o28 P, o29 P, o30 P, o31 P, o32 P, o33 P, o34 P, o35 P, o36 P, o37 P, o38 P, o39 P, o40 P, o41 P, o42 P, o43 P, o44 P, o45 P, o46 P, o47 P, o48 P, o49 P, o50 P, o51 P, o52 P, o53 P, o54 P, o55 P, o56 P, o57 P, o58 P, o59 P, o60 P, o61 P, o62 P, o63 P, o64 P, o65 P, o66 P, o67 P, o68 P, o69 P, o70 P, o71 P, o72 P, o73 P, o74 P, o75 P, o76 P, o77 P, o78 P, o79 P, o80 P, o81 P, o82 P, o83 P, o84 P, o85 P, o86 P, o87 P, o88 P, o89 P, o90 P, o91 P, o92 P, o93 P, o94 P, o95 P, o96 P, o97 P, o98 P, o99 P, o100 P, o101 P, o102 P, o103 P, o104 P, o105 P, o106 P, o107 P, o108 P, o109 P, o110 P, o111 P, o112 P, o113 P, o114 P, o115 P, o116 P, o117 P, o118 P, o119 P, o120 P, o121 P, o122 P, o123 P, o124 P, o125 P, o126 P, o127 P, o128 P, o129 P, o130 P, o131 P, o132 P, o133 P, o134 P, o135 P, o136 P, o137 P, o138 P, o139 P, o140 P, o141 P, o142 P, o143 P, o144 P, o145 P, o146 P, o147 P, o148 P, o149 P, o150 P, o151 P, o152 P, o153 P, o154 P, o155 P, o156 P, o157 P, o158 P, o159 P, o160 P, o161 P, o162 P, o163 P, o164 P, o165 P, o166 P, o167 P, o168 P, o169 P, o170 P, o171 P, o172 P, o173 P, o174 P, o175 P, o176 P, o177 P, o178 P, o179 P, o180 P, o181 P, o182 P, o183 P, o184 P, o185 P, o186 P, o187 P, o188 P, o189 P, o190 P, o191 P, o192 P, o193 P, o194 P, o195 P, o196 P, o197 P, o198 P, o199 P, o200 P, o201 P, o202 P, o203 P, o204 P, o205 P, o206 P, o207 P, o208 P, o209 P, o210 P, o211 P, o212 P, o213 P, o214 P, o215 P, o216 P, o217 P, o218 P, o219 P, o220 P, o221 P, o222 P, o223 P, o224 P, o225 P, o226 P, o227 P, o228 P, o229 P, o230 P, o231 P, o232 P, o233 P, o234 P, o235 P, o236 P, o237 P, o238 P, o239 P, o240 P, o241 P, o242 P, o243 P, o244 P, o245 P, o246 P, o247 P, o248 P, o249 P, o250 P, o251 P, o252 P, o253 P, o254 P, o255 P, o256 P, o257 P, o258 P, o259 P, o260 P, o261 P, o262 P, o263 P, o264 P, o265 P, o266 P, o267 P, o268 P, o269 P, o270 P, o271 P, o272 P, o273 P, o274 P, o275 P, o276 P, o277 P, o278 P, o279 P, o280 P, o281 P, o282 P, o283 P, o284 P, o285 P, o286 P, o287 P, o288 P, o289 P, o290 P, o291 P, o292 P, o293 P, o294 P, o295 P, o296 P, o297 P, o298 P, o299 P, o300 P, o301 P, o302 P, o303 P, o304 P, o305 P, o306 P, o307 P, o308 P, o309 P, o310 P, o311 P, o312 P, o313 P, o314 P, o315 P, o316 P, o317 P, o318 P, o319 P, o320 P]
noncomputable def L11 (P : Params) : List Obj := [boot_o_0 P, boot_o_1 P, boot_o_2 P, o3_11 P, boot_o_4 P, boot_o_5 P, boot_o_6 P, boot_o_7 P, boot_o_8 P, boot_o_9 P, boot_o_10 P, o11 P, o12_11 P, o13 P, o14 P, o15 P, o16 P, o17 P, o18 P, o19 P, o20 P, o21 P, o22 P, o23 P, o24_7 P, o25 P, o26 P, o27 P, o28 P, o29 P, o30 P, o31 P, o32 P, o33 P, o34 P, o35 P, o36 P, o37 P, o38 P, o39 P, o40 P, o41 P, o42 P, o43 P, o44 P, o45 P, o46 P, o47 P, o48 P, o49 P, o50 P, o51 P, o52 P, o53 P, o54 P, o55 P, o56 P, o57 P, o58 P, o59 P, o60 P, o61 P, o62 P, o63 P, o64 P, o65 P, o66 P, o67 P, o68 P, o69 P, o70 P, o71 P, o72 P, o73 P, o74 P, o75 P, o76 P, o77 P, o78 P, o79 P, o80 P, o81 P, o82 P, o83 P, o84 P, o85 P, o86 P, o87 P, o88 P, o89 P, o90 P, o91 P, o92 P, o93 P, o94 P, o95 P, o96 P, o97 P, o98 P, o99 P, o100 P, o101 P, o102 P, o103 P, o104 P, o105 P, o106 P, o107 P, o108 P, o109 P, o110 P, o111 P, o112 P, o113 P, o114 P, o115 P, o116 P, o117 P, o118 P, o119 P, o120 P, o121 P, o122 P, o123 P, o124 P, o125 P, o126 P, o127 P, o128 P, o129 P, o130 P, o131 P, o132 P, o133 P, o134 P, o135 P, o136 P, o137 P, o138 P, o139 P, o140 P, o141 P, o142 P, o143 P, o144 P, o145 P, o146 P, o147 P, o148 P, o149 P, o150 P, o151 P, o152 P, o153 P, o154 P, o155 P, o156 P, o157 P, o158 P, o159 P, o160 P, o161 P, o162 P, o163 P, o164 P, o165 P, o166 P, o167 P, o168 P, o169 P, o170 P, o171 P, o172 P, o173 P, o174 P, o175 P, o176 P, o177 P, o178 P, o179 P, o180 P, o181 P, o182 P, o183 P, o184 P, o185 P, o186 P, o187 P, o188 P, o189 P, o190 P, o191 P, o192 P, o193 P, o194 P, o195 P, o196 P, o197 P, o198 P, o199 P, o200 P, o201 P, o202 P, o203 P, o204 P, o205 P, o206 P, o207 P, o208 P, o209 P, o210 P, o211 P, o212 P, o213 P, o214 P, o215 P, o216 P, o217 P, o218 P, o219 P, o220 P, o221 P, o222 P, o223 P, o224 P, o225 P, o226 P, o227 P, o228 P, o229 P, o230 P, o231 P, o232 P, o233 P, o234 P, o235 P, o236 P, o237 P, o238 P, o239 P, o240 P, o241 P, o242 P, o243 P, o244 P, o245 P, o246 P, o247 P, o248 P, o249 P, o250 P, o251 P, o252 P, o253 P, o254 P, o255 P, o256 P, o257 P, o258 P, o259 P, o260 P, o261 P, o262 P, o263 P, o264 P, o265 P, o266 P, o267 P, o268 P, o269 P, o270 P, o271 P, o272 P, o273 P, o274 P, o275 P, o276 P, o277 P, o278 P, o279 P, o280 P, o281 P, o282 P, o283 P, o284 P, o285 P, o286 P, o287 P, o288 P, o289 P, o290 P, o291 P, o292 P, o293 P, o294 P, o295 P, o296 P, o297 P, o298 P, o299 P, o300 P, o301 P, o302 P, o303 P, o304 P, o305 P, o306 P, o307 P, o308 P, o309 P, o310 P, o311 P, o312 P, o313 P, o314 P, o315 P, o316 P, o317 P, o318 P, o319 P, o320 P, o321 P, o322 P, o323 P, o324 P, o325 P, o326 P, o327 P, o328 P, o329 P, o330 P, o331 P, o332 P, o333 P, o334 P, o335 P]
noncomputable def LF (P : Params) : List Obj := [boot_o_0 P, boot_o_1 P, boot_o_2 P, o3_11 P, boot_o_4 P, boot_o_5 P, boot_o_6 P, boot_o_7 P, boot_o_8 P, boot_o_9 P, boot_o_10 P, o11 P, o12_11 P, o13 P, o14 P, o15 P, o16 P, o17 P, o18 P, o19 P, o20 P, o21 P, o22 P, o23 P, o24_7 P, o25 P, o26 P, o27 P, o28 P, o29 P, o30 P, o31 P, o32 P, o33 P, o34 P, o35 P, o36 P, o37 P, o38 P, o39 P, o40 P, o41 P, o42 P, o43 P, o44 P, o45 P, o46 P, o47 P, o48 P, o49 P, o50 P, o51 P, o52 P, o53 P, o54 P, o55 P, o56 P, o57 P, o58 P, o59 P, o60 P, o61 P, o62 P, o63 P, o64 P, o65 P, o66 P, o67 P, o68 P, o69 P, o70 P, o71 P, o72 P, o73 P, o74 P, o75 P, o76 P, o77 P, o78 P, o79 P, o80 P, o81 P, o82 P, o83 P, o84 P, o85 P, o86 P, o87 P, o88 P, o89 P, o90 P, o91 P, o92 P, o93 P, o94 P, o95 P, o96 P, o97 P, o98 P, o99 P, o100 P, o101 P, o102 P, o103 P, o104 P, o105 P, o106 P, o107 P, o108 P, o109 P, o110 P, o111 P, o112 P, o113 P, o114 P, o115 P, o116 P, o117 P, o118 P, o119 P, o120 P, o121 P, o122 P, o123 P, o124 P, o125 P, o126 P, o127 P, o128 P, o129 P, o130 P, o131 P, o132 P, o133 P, o134 P, o135 P, o136 P, o137 P, o138 P, o139 P, o140 P, o141 P, o142 P, o143 P, o144 P, o145 P, o146 P, o147 P, o148 P, o149 P, o150 P, o151 P, o152 P, o153 P, o154 P, o155 P, o156 P, o157 P, o158 P, o159 P, o160 P, o161 P, o162 P, o163 P, o164 P, o165 P, o166 P, o167 P, o168 P, o169 P, o170 P, o171 P, o172 P, o173 P, o174 P, o175 P, o176 P, o177 P, o178 P, o179 P, o180 P, o181 P, o182 P, o183 P, o184 P, o185 P, o186 P, o187 P, o188 P, o189 P, o190 P, o191 P, o192 P, o193 P, o194 P, o195 P, o196 P, o197 P, o198 P, o199 P, o200 P, o201 P, o202 P, o203 P, o204 P, o205 P, o206 P, o207 P, o208 P, o209 P, o210 P, o211 P, o212 P, o213 P, o214 P, o215 P, o216 P, o217 P, o218 P, o219 P, o220 P, o221 P, o222 P, o223 P, o224 P, o225 P, o226 P, o227 P, o228 P, o229 P, o230 P, o231 P, o232 P, o233 P, o234 P, o235 P, o236 P, o237 P, o238 P, o239 P, o240 P, o241 P, o242 P, o243 P, o244 P, o245 P, o246 P, o247 P, o248 P, o249 P, o250 P, o251 P, o252 P, o253 P, o254 P, o255 P, o256 P, o257 P, o258 P, o259 P, o260 P, o261 P, o262 P, o263 P, o264 P, o265 P, o266 P, o267 P, o268 P, o269 P, o270 P, o271 P, o272 P, o273 P, o274 P, o275 P, o276 P, o277 P, o278 P, o279 P, o280 P, o281 P, o282 P, o283 P, o284 P, o285 P, o286 P, o287 P, o288 P, o289 P, o290 P, o291 P, o292 P, o293 P, o294 P, o295 P, o296 P, o297 P, o298 P, o299 P, o300 P, o301 P, o302 P, o303 P, o304 P, o305 P, o306 P, o307 P, o308 P, o309 P, o310 P, o311 P, o312 P, o313 P, o314 P, o315 P, o316 P, o317 P, o318 P, o319 P, o320 P, o321 P, o322 P, o323 P, o324 P, o325 P, o326 P, o327 P, o328 P, o329 P, o330 P, o331 P, o332 P, o333 P, o334 P, o335 P]
noncomputable def env : Env := { scope := PW.main.scope, locals := mainNs, globals := mainNs, cells := [], code := (@PySem.Value.ref 13), frame := some 14 }
noncomputable def cE : Code := .body (behindTheImports PW) env
noncomputable def B : List Frame := [topFrame (@PySem.Pos.mk 0 0 0 0)]
theorem pre_f (w : World) (os : OsState) : PySem.W.Fast.tw15667345088766844465 PySem.W.Fast.tw14364793385576792824 PW w 11 (some (@PySem.Value.ref 6)) 12 (Shared.mk (boot_heap w.params) (Array.mk []) boot_drawn boot_toks os) (topStub PW) = some ((Shared.mk (Heap.mk (Array.mk (LA w.params)) (@PySem.Life.mk [] [] [] 0 [] [] @Bool.false (@List.toArray @Nat []) [] 0 @Bool.false @Bool.false @Bool.false (@OfNat.ofNat @Int 0 (@instOfNat 0)) [(@OfNat.ofNat @Int 2000 (@instOfNat 2000)), (@OfNat.ofNat @Int 10 (@instOfNat 10)), (@OfNat.ofNat @Int 10 (@instOfNat 10))] @Bool.false 0 @Bool.true [] [] 0 @Bool.false)) (Array.mk []) (@PySem.Drawn.mk 0 0 0 0) 187 os), Thread.mk (PySem.W.Fast.tw11892475500146522536 PySem.W.Fast.tw14364793385576792824 cE) cE (@PySem.Pos.mk 0 0 0 0) B) := by kernel_rfl
theorem pre (w : World) (os : OsState) : topGo treeTable PW w 11 (some (@PySem.Value.ref 6)) 12 (Shared.mk (boot_heap w.params) (Array.mk []) boot_drawn boot_toks os) (topStub PW) = some ((Shared.mk (Heap.mk (Array.mk (LA w.params)) (@PySem.Life.mk [] [] [] 0 [] [] @Bool.false (@List.toArray @Nat []) [] 0 @Bool.false @Bool.false @Bool.false (@OfNat.ofNat @Int 0 (@instOfNat 0)) [(@OfNat.ofNat @Int 2000 (@instOfNat 2000)), (@OfNat.ofNat @Int 10 (@instOfNat 10)), (@OfNat.ofNat @Int 10 (@instOfNat 10))] @Bool.false 0 @Bool.true [] [] 0 @Bool.false)) (Array.mk []) (@PySem.Drawn.mk 0 0 0 0) 187 os), Thread.mk (denote treeTable cE) cE (@PySem.Pos.mk 0 0 0 0) B) := by
  rw [PySem.W.Fast.te15667345088766844465, PySem.W.Fast.te11892475500146522536, PySem.W.Fast.te14364793385576792824]
  exact pre_f w os
theorem block_f (w : World) (os : OsState) : PySem.W.Fast.tw14374325043358763698 PySem.W.Fast.tw14364793385576792824 PW w 11 (some (@PySem.Value.ref 6)) 1 1 (Shared.mk (Heap.mk (Array.mk (LA w.params)) (@PySem.Life.mk [] [] [] 0 [] [] @Bool.false (@List.toArray @Nat []) [] 0 @Bool.false @Bool.false @Bool.false (@OfNat.ofNat @Int 0 (@instOfNat 0)) [(@OfNat.ofNat @Int 2000 (@instOfNat 2000)), (@OfNat.ofNat @Int 10 (@instOfNat 10)), (@OfNat.ofNat @Int 10 (@instOfNat 10))] @Bool.false 0 @Bool.true [] [] 0 @Bool.false)) (Array.mk []) (@PySem.Drawn.mk 0 0 0 0) 187 os) (blockOf (behindTheImports PW) env cE (@PySem.Pos.mk 0 0 0 0) B) = some (Flow.next, SharedT.abs (SharedT.mk (btOf 12 (LB w.params)) 15 (@PySem.Life.mk [] [] [] 0 [] [] @Bool.false (@List.toArray @Nat []) [] 0 @Bool.false @Bool.false @Bool.false (@OfNat.ofNat @Int 0 (@instOfNat 0)) [(@OfNat.ofNat @Int 2000 (@instOfNat 2000)), (@OfNat.ofNat @Int 10 (@instOfNat 10)), (@OfNat.ofNat @Int 10 (@instOfNat 10))] @Bool.false 0 @Bool.true [] [] 0 @Bool.false) (Array.mk []) (@PySem.Drawn.mk 0 0 0 0) 187 os), cE, (@PySem.Pos.mk 0 0 0 0)) := by kernel_rfl
theorem block (w : World) (os : OsState) : segRun treeTable PW w 11 (some (@PySem.Value.ref 6)) 1 1 (Shared.mk (Heap.mk (Array.mk (LA w.params)) (@PySem.Life.mk [] [] [] 0 [] [] @Bool.false (@List.toArray @Nat []) [] 0 @Bool.false @Bool.false @Bool.false (@OfNat.ofNat @Int 0 (@instOfNat 0)) [(@OfNat.ofNat @Int 2000 (@instOfNat 2000)), (@OfNat.ofNat @Int 10 (@instOfNat 10)), (@OfNat.ofNat @Int 10 (@instOfNat 10))] @Bool.false 0 @Bool.true [] [] 0 @Bool.false)) (Array.mk []) (@PySem.Drawn.mk 0 0 0 0) 187 os) (blockOf (behindTheImports PW) env cE (@PySem.Pos.mk 0 0 0 0) B) = some (Flow.next, SharedT.abs (SharedT.mk (btOf 12 (LB w.params)) 15 (@PySem.Life.mk [] [] [] 0 [] [] @Bool.false (@List.toArray @Nat []) [] 0 @Bool.false @Bool.false @Bool.false (@OfNat.ofNat @Int 0 (@instOfNat 0)) [(@OfNat.ofNat @Int 2000 (@instOfNat 2000)), (@OfNat.ofNat @Int 10 (@instOfNat 10)), (@OfNat.ofNat @Int 10 (@instOfNat 10))] @Bool.false 0 @Bool.true [] [] 0 @Bool.false) (Array.mk []) (@PySem.Drawn.mk 0 0 0 0) 187 os), cE, (@PySem.Pos.mk 0 0 0 0)) := by
  rw [PySem.W.Fast.te14364793385576792824, PySem.W.Fast.te14374325043358763698]
  exact block_f w os
theorem pc0_f (w : World) (os : OsState) : PySem.W.Fast.tw10110043849684766642 PySem.W.Fast.tw14364793385576792824 PW w 11 (some (@PySem.Value.ref 6)) 1 196 (SharedT.mk (btOf 12 (LB w.params)) 15 (@PySem.Life.mk [] [] [] 0 [] [] @Bool.false (@List.toArray @Nat []) [] 0 @Bool.false @Bool.false @Bool.false (@OfNat.ofNat @Int 0 (@instOfNat 0)) [(@OfNat.ofNat @Int 2000 (@instOfNat 2000)), (@OfNat.ofNat @Int 10 (@instOfNat 10)), (@OfNat.ofNat @Int 10 (@instOfNat 10))] @Bool.false 0 @Bool.true [] [] 0 @Bool.false) (Array.mk []) (@PySem.Drawn.mk 0 0 0 0) 187 os) (piecesOf (stsAt PW 0 2) env cE (@PySem.Pos.mk 0 0 0 0) B) = some (Flow.next, (SharedT.mk (btOf 12 (L0 w.params)) 28 (@PySem.Life.mk [] [] [] 0 [] [] @Bool.false (@List.toArray @Nat []) [] 0 @Bool.false @Bool.false @Bool.false (@OfNat.ofNat @Int 0 (@instOfNat 0)) [(@OfNat.ofNat @Int 2000 (@instOfNat 2000)), (@OfNat.ofNat @Int 10 (@instOfNat 10)), (@OfNat.ofNat @Int 10 (@instOfNat 10))] @Bool.false 0 @Bool.true [] [] 0 @Bool.false) (Array.mk []) (@PySem.Drawn.mk 0 0 0 0) 207 os), cE, (@PySem.Pos.mk 2 0 3 8)) := by kernel_rfl
theorem pc0 (w : World) (os : OsState) : segRunT treeTable PW w 11 (some (@PySem.Value.ref 6)) 1 196 (SharedT.mk (btOf 12 (LB w.params)) 15 (@PySem.Life.mk [] [] [] 0 [] [] @Bool.false (@List.toArray @Nat []) [] 0 @Bool.false @Bool.false @Bool.false (@OfNat.ofNat @Int 0 (@instOfNat 0)) [(@OfNat.ofNat @Int 2000 (@instOfNat 2000)), (@OfNat.ofNat @Int 10 (@instOfNat 10)), (@OfNat.ofNat @Int 10 (@instOfNat 10))] @Bool.false 0 @Bool.true [] [] 0 @Bool.false) (Array.mk []) (@PySem.Drawn.mk 0 0 0 0) 187 os) (piecesOf (stsAt PW 0 2) env cE (@PySem.Pos.mk 0 0 0 0) B) = some (Flow.next, (SharedT.mk (btOf 12 (L0 w.params)) 28 (@PySem.Life.mk [] [] [] 0 [] [] @Bool.false (@List.toArray @Nat []) [] 0 @Bool.false @Bool.false @Bool.false (@OfNat.ofNat @Int 0 (@instOfNat 0)) [(@OfNat.ofNat @Int 2000 (@instOfNat 2000)), (@OfNat.ofNat @Int 10 (@instOfNat 10)), (@OfNat.ofNat @Int 10 (@instOfNat 10))] @Bool.false 0 @Bool.true [] [] 0 @Bool.false) (Array.mk []) (@PySem.Drawn.mk 0 0 0 0) 207 os), cE, (@PySem.Pos.mk 2 0 3 8)) := by
  rw [PySem.W.Fast.te14364793385576792824, PySem.W.Fast.te10110043849684766642]
  exact pc0_f w os
theorem pc1_f (w : World) (os : OsState) : PySem.W.Fast.tw10110043849684766642 PySem.W.Fast.tw14364793385576792824 PW w 11 (some (@PySem.Value.ref 6)) 1 214 (SharedT.mk (btOf 12 (L0 w.params)) 28 (@PySem.Life.mk [] [] [] 0 [] [] @Bool.false (@List.toArray @Nat []) [] 0 @Bool.false @Bool.false @Bool.false (@OfNat.ofNat @Int 0 (@instOfNat 0)) [(@OfNat.ofNat @Int 2000 (@instOfNat 2000)), (@OfNat.ofNat @Int 10 (@instOfNat 10)), (@OfNat.ofNat @Int 10 (@instOfNat 10))] @Bool.false 0 @Bool.true [] [] 0 @Bool.false) (Array.mk []) (@PySem.Drawn.mk 0 0 0 0) 207 os) (piecesOf (stsAt PW 2 1) env cE (@PySem.Pos.mk 2 0 3 8) B) = some (Flow.next, (SharedT.mk (btOf 12 (L1 w.params)) 40 (@PySem.Life.mk [] [] [] 0 [] [] @Bool.false (@List.toArray @Nat []) [] 0 @Bool.false @Bool.false @Bool.false (@OfNat.ofNat @Int 0 (@instOfNat 0)) [(@OfNat.ofNat @Int 2000 (@instOfNat 2000)), (@OfNat.ofNat @Int 10 (@instOfNat 10)), (@OfNat.ofNat @Int 10 (@instOfNat 10))] @Bool.false 0 @Bool.true [] [] 0 @Bool.false) (Array.mk []) (@PySem.Drawn.mk 0 0 0 0) 223 os), cE, (@PySem.Pos.mk 4 0 5 8)) := by kernel_rfl
theorem pc1 (w : World) (os : OsState) : segRunT treeTable PW w 11 (some (@PySem.Value.ref 6)) 1 214 (SharedT.mk (btOf 12 (L0 w.params)) 28 (@PySem.Life.mk [] [] [] 0 [] [] @Bool.false (@List.toArray @Nat []) [] 0 @Bool.false @Bool.false @Bool.false (@OfNat.ofNat @Int 0 (@instOfNat 0)) [(@OfNat.ofNat @Int 2000 (@instOfNat 2000)), (@OfNat.ofNat @Int 10 (@instOfNat 10)), (@OfNat.ofNat @Int 10 (@instOfNat 10))] @Bool.false 0 @Bool.true [] [] 0 @Bool.false) (Array.mk []) (@PySem.Drawn.mk 0 0 0 0) 207 os) (piecesOf (stsAt PW 2 1) env cE (@PySem.Pos.mk 2 0 3 8) B) = some (Flow.next, (SharedT.mk (btOf 12 (L1 w.params)) 40 (@PySem.Life.mk [] [] [] 0 [] [] @Bool.false (@List.toArray @Nat []) [] 0 @Bool.false @Bool.false @Bool.false (@OfNat.ofNat @Int 0 (@instOfNat 0)) [(@OfNat.ofNat @Int 2000 (@instOfNat 2000)), (@OfNat.ofNat @Int 10 (@instOfNat 10)), (@OfNat.ofNat @Int 10 (@instOfNat 10))] @Bool.false 0 @Bool.true [] [] 0 @Bool.false) (Array.mk []) (@PySem.Drawn.mk 0 0 0 0) 223 os), cE, (@PySem.Pos.mk 4 0 5 8)) := by
  rw [PySem.W.Fast.te14364793385576792824, PySem.W.Fast.te10110043849684766642]
  exact pc1_f w os
theorem pc2_f (w : World) (os : OsState) : PySem.W.Fast.tw10110043849684766642 PySem.W.Fast.tw14364793385576792824 PW w 11 (some (@PySem.Value.ref 6)) 1 214 (SharedT.mk (btOf 12 (L1 w.params)) 40 (@PySem.Life.mk [] [] [] 0 [] [] @Bool.false (@List.toArray @Nat []) [] 0 @Bool.false @Bool.false @Bool.false (@OfNat.ofNat @Int 0 (@instOfNat 0)) [(@OfNat.ofNat @Int 2000 (@instOfNat 2000)), (@OfNat.ofNat @Int 10 (@instOfNat 10)), (@OfNat.ofNat @Int 10 (@instOfNat 10))] @Bool.false 0 @Bool.true [] [] 0 @Bool.false) (Array.mk []) (@PySem.Drawn.mk 0 0 0 0) 223 os) (piecesOf (stsAt PW 3 1) env cE (@PySem.Pos.mk 4 0 5 8) B) = some (Flow.next, (SharedT.mk (btOf 12 (L2 w.params)) 52 (@PySem.Life.mk [] [] [] 0 [] [] @Bool.false (@List.toArray @Nat []) [] 0 @Bool.false @Bool.false @Bool.false (@OfNat.ofNat @Int 0 (@instOfNat 0)) [(@OfNat.ofNat @Int 2000 (@instOfNat 2000)), (@OfNat.ofNat @Int 10 (@instOfNat 10)), (@OfNat.ofNat @Int 10 (@instOfNat 10))] @Bool.false 0 @Bool.true [] [] 0 @Bool.false) (Array.mk []) (@PySem.Drawn.mk 0 0 0 0) 239 os), cE, (@PySem.Pos.mk 6 0 7 8)) := by kernel_rfl
theorem pc2 (w : World) (os : OsState) : segRunT treeTable PW w 11 (some (@PySem.Value.ref 6)) 1 214 (SharedT.mk (btOf 12 (L1 w.params)) 40 (@PySem.Life.mk [] [] [] 0 [] [] @Bool.false (@List.toArray @Nat []) [] 0 @Bool.false @Bool.false @Bool.false (@OfNat.ofNat @Int 0 (@instOfNat 0)) [(@OfNat.ofNat @Int 2000 (@instOfNat 2000)), (@OfNat.ofNat @Int 10 (@instOfNat 10)), (@OfNat.ofNat @Int 10 (@instOfNat 10))] @Bool.false 0 @Bool.true [] [] 0 @Bool.false) (Array.mk []) (@PySem.Drawn.mk 0 0 0 0) 223 os) (piecesOf (stsAt PW 3 1) env cE (@PySem.Pos.mk 4 0 5 8) B) = some (Flow.next, (SharedT.mk (btOf 12 (L2 w.params)) 52 (@PySem.Life.mk [] [] [] 0 [] [] @Bool.false (@List.toArray @Nat []) [] 0 @Bool.false @Bool.false @Bool.false (@OfNat.ofNat @Int 0 (@instOfNat 0)) [(@OfNat.ofNat @Int 2000 (@instOfNat 2000)), (@OfNat.ofNat @Int 10 (@instOfNat 10)), (@OfNat.ofNat @Int 10 (@instOfNat 10))] @Bool.false 0 @Bool.true [] [] 0 @Bool.false) (Array.mk []) (@PySem.Drawn.mk 0 0 0 0) 239 os), cE, (@PySem.Pos.mk 6 0 7 8)) := by
  rw [PySem.W.Fast.te14364793385576792824, PySem.W.Fast.te10110043849684766642]
  exact pc2_f w os
theorem pc3_f (w : World) (os : OsState) : PySem.W.Fast.tw10110043849684766642 PySem.W.Fast.tw14364793385576792824 PW w 11 (some (@PySem.Value.ref 6)) 1 214 (SharedT.mk (btOf 12 (L2 w.params)) 52 (@PySem.Life.mk [] [] [] 0 [] [] @Bool.false (@List.toArray @Nat []) [] 0 @Bool.false @Bool.false @Bool.false (@OfNat.ofNat @Int 0 (@instOfNat 0)) [(@OfNat.ofNat @Int 2000 (@instOfNat 2000)), (@OfNat.ofNat @Int 10 (@instOfNat 10)), (@OfNat.ofNat @Int 10 (@instOfNat 10))] @Bool.false 0 @Bool.true [] [] 0 @Bool.false) (Array.mk []) (@PySem.Drawn.mk 0 0 0 0) 239 os) (piecesOf (stsAt PW 4 1) env cE (@PySem.Pos.mk 6 0 7 8) B) = some (Flow.next, (SharedT.mk (btOf 12 (L3 w.params)) 64 (@PySem.Life.mk [] [] [] 0 [] [] @Bool.false (@List.toArray @Nat []) [] 0 @Bool.false @Bool.false @Bool.false (@OfNat.ofNat @Int 0 (@instOfNat 0)) [(@OfNat.ofNat @Int 2000 (@instOfNat 2000)), (@OfNat.ofNat @Int 10 (@instOfNat 10)), (@OfNat.ofNat @Int 10 (@instOfNat 10))] @Bool.false 0 @Bool.true [] [] 0 @Bool.false) (Array.mk []) (@PySem.Drawn.mk 0 0 0 0) 255 os), cE, (@PySem.Pos.mk 8 0 9 8)) := by kernel_rfl
theorem pc3 (w : World) (os : OsState) : segRunT treeTable PW w 11 (some (@PySem.Value.ref 6)) 1 214 (SharedT.mk (btOf 12 (L2 w.params)) 52 (@PySem.Life.mk [] [] [] 0 [] [] @Bool.false (@List.toArray @Nat []) [] 0 @Bool.false @Bool.false @Bool.false (@OfNat.ofNat @Int 0 (@instOfNat 0)) [(@OfNat.ofNat @Int 2000 (@instOfNat 2000)), (@OfNat.ofNat @Int 10 (@instOfNat 10)), (@OfNat.ofNat @Int 10 (@instOfNat 10))] @Bool.false 0 @Bool.true [] [] 0 @Bool.false) (Array.mk []) (@PySem.Drawn.mk 0 0 0 0) 239 os) (piecesOf (stsAt PW 4 1) env cE (@PySem.Pos.mk 6 0 7 8) B) = some (Flow.next, (SharedT.mk (btOf 12 (L3 w.params)) 64 (@PySem.Life.mk [] [] [] 0 [] [] @Bool.false (@List.toArray @Nat []) [] 0 @Bool.false @Bool.false @Bool.false (@OfNat.ofNat @Int 0 (@instOfNat 0)) [(@OfNat.ofNat @Int 2000 (@instOfNat 2000)), (@OfNat.ofNat @Int 10 (@instOfNat 10)), (@OfNat.ofNat @Int 10 (@instOfNat 10))] @Bool.false 0 @Bool.true [] [] 0 @Bool.false) (Array.mk []) (@PySem.Drawn.mk 0 0 0 0) 255 os), cE, (@PySem.Pos.mk 8 0 9 8)) := by
  rw [PySem.W.Fast.te14364793385576792824, PySem.W.Fast.te10110043849684766642]
  exact pc3_f w os
theorem pc4_f (w : World) (os : OsState) : PySem.W.Fast.tw10110043849684766642 PySem.W.Fast.tw14364793385576792824 PW w 11 (some (@PySem.Value.ref 6)) 1 214 (SharedT.mk (btOf 12 (L3 w.params)) 64 (@PySem.Life.mk [] [] [] 0 [] [] @Bool.false (@List.toArray @Nat []) [] 0 @Bool.false @Bool.false @Bool.false (@OfNat.ofNat @Int 0 (@instOfNat 0)) [(@OfNat.ofNat @Int 2000 (@instOfNat 2000)), (@OfNat.ofNat @Int 10 (@instOfNat 10)), (@OfNat.ofNat @Int 10 (@instOfNat 10))] @Bool.false 0 @Bool.true [] [] 0 @Bool.false) (Array.mk []) (@PySem.Drawn.mk 0 0 0 0) 255 os) (piecesOf (stsAt PW 5 1) env cE (@PySem.Pos.mk 8 0 9 8) B) = some (Flow.next, (SharedT.mk (btOf 12 (L4 w.params)) 76 (@PySem.Life.mk [] [] [] 0 [] [] @Bool.false (@List.toArray @Nat []) [] 0 @Bool.false @Bool.false @Bool.false (@OfNat.ofNat @Int 0 (@instOfNat 0)) [(@OfNat.ofNat @Int 2000 (@instOfNat 2000)), (@OfNat.ofNat @Int 10 (@instOfNat 10)), (@OfNat.ofNat @Int 10 (@instOfNat 10))] @Bool.false 0 @Bool.true [] [] 0 @Bool.false) (Array.mk []) (@PySem.Drawn.mk 0 0 0 0) 271 os), cE, (@PySem.Pos.mk 10 0 11 8)) := by kernel_rfl
theorem pc4 (w : World) (os : OsState) : segRunT treeTable PW w 11 (some (@PySem.Value.ref 6)) 1 214 (SharedT.mk (btOf 12 (L3 w.params)) 64 (@PySem.Life.mk [] [] [] 0 [] [] @Bool.false (@List.toArray @Nat []) [] 0 @Bool.false @Bool.false @Bool.false (@OfNat.ofNat @Int 0 (@instOfNat 0)) [(@OfNat.ofNat @Int 2000 (@instOfNat 2000)), (@OfNat.ofNat @Int 10 (@instOfNat 10)), (@OfNat.ofNat @Int 10 (@instOfNat 10))] @Bool.false 0 @Bool.true [] [] 0 @Bool.false) (Array.mk []) (@PySem.Drawn.mk 0 0 0 0) 255 os) (piecesOf (stsAt PW 5 1) env cE (@PySem.Pos.mk 8 0 9 8) B) = some (Flow.next, (SharedT.mk (btOf 12 (L4 w.params)) 76 (@PySem.Life.mk [] [] [] 0 [] [] @Bool.false (@List.toArray @Nat []) [] 0 @Bool.false @Bool.false @Bool.false (@OfNat.ofNat @Int 0 (@instOfNat 0)) [(@OfNat.ofNat @Int 2000 (@instOfNat 2000)), (@OfNat.ofNat @Int 10 (@instOfNat 10)), (@OfNat.ofNat @Int 10 (@instOfNat 10))] @Bool.false 0 @Bool.true [] [] 0 @Bool.false) (Array.mk []) (@PySem.Drawn.mk 0 0 0 0) 271 os), cE, (@PySem.Pos.mk 10 0 11 8)) := by
  rw [PySem.W.Fast.te14364793385576792824, PySem.W.Fast.te10110043849684766642]
  exact pc4_f w os
theorem pc5_f (w : World) (os : OsState) : PySem.W.Fast.tw10110043849684766642 PySem.W.Fast.tw14364793385576792824 PW w 11 (some (@PySem.Value.ref 6)) 1 214 (SharedT.mk (btOf 12 (L4 w.params)) 76 (@PySem.Life.mk [] [] [] 0 [] [] @Bool.false (@List.toArray @Nat []) [] 0 @Bool.false @Bool.false @Bool.false (@OfNat.ofNat @Int 0 (@instOfNat 0)) [(@OfNat.ofNat @Int 2000 (@instOfNat 2000)), (@OfNat.ofNat @Int 10 (@instOfNat 10)), (@OfNat.ofNat @Int 10 (@instOfNat 10))] @Bool.false 0 @Bool.true [] [] 0 @Bool.false) (Array.mk []) (@PySem.Drawn.mk 0 0 0 0) 271 os) (piecesOf (stsAt PW 6 1) env cE (@PySem.Pos.mk 10 0 11 8) B) = some (Flow.next, (SharedT.mk (btOf 12 (L5 w.params)) 88 (@PySem.Life.mk [] [] [] 0 [] [] @Bool.false (@List.toArray @Nat []) [] 0 @Bool.false @Bool.false @Bool.false (@OfNat.ofNat @Int 0 (@instOfNat 0)) [(@OfNat.ofNat @Int 2000 (@instOfNat 2000)), (@OfNat.ofNat @Int 10 (@instOfNat 10)), (@OfNat.ofNat @Int 10 (@instOfNat 10))] @Bool.false 0 @Bool.true [] [] 0 @Bool.false) (Array.mk []) (@PySem.Drawn.mk 0 0 0 0) 287 os), cE, (@PySem.Pos.mk 12 0 13 8)) := by kernel_rfl
theorem pc5 (w : World) (os : OsState) : segRunT treeTable PW w 11 (some (@PySem.Value.ref 6)) 1 214 (SharedT.mk (btOf 12 (L4 w.params)) 76 (@PySem.Life.mk [] [] [] 0 [] [] @Bool.false (@List.toArray @Nat []) [] 0 @Bool.false @Bool.false @Bool.false (@OfNat.ofNat @Int 0 (@instOfNat 0)) [(@OfNat.ofNat @Int 2000 (@instOfNat 2000)), (@OfNat.ofNat @Int 10 (@instOfNat 10)), (@OfNat.ofNat @Int 10 (@instOfNat 10))] @Bool.false 0 @Bool.true [] [] 0 @Bool.false) (Array.mk []) (@PySem.Drawn.mk 0 0 0 0) 271 os) (piecesOf (stsAt PW 6 1) env cE (@PySem.Pos.mk 10 0 11 8) B) = some (Flow.next, (SharedT.mk (btOf 12 (L5 w.params)) 88 (@PySem.Life.mk [] [] [] 0 [] [] @Bool.false (@List.toArray @Nat []) [] 0 @Bool.false @Bool.false @Bool.false (@OfNat.ofNat @Int 0 (@instOfNat 0)) [(@OfNat.ofNat @Int 2000 (@instOfNat 2000)), (@OfNat.ofNat @Int 10 (@instOfNat 10)), (@OfNat.ofNat @Int 10 (@instOfNat 10))] @Bool.false 0 @Bool.true [] [] 0 @Bool.false) (Array.mk []) (@PySem.Drawn.mk 0 0 0 0) 287 os), cE, (@PySem.Pos.mk 12 0 13 8)) := by
  rw [PySem.W.Fast.te14364793385576792824, PySem.W.Fast.te10110043849684766642]
  exact pc5_f w os
theorem pc6_f (w : World) (os : OsState) : PySem.W.Fast.tw10110043849684766642 PySem.W.Fast.tw14364793385576792824 PW w 11 (some (@PySem.Value.ref 6)) 1 214 (SharedT.mk (btOf 12 (L5 w.params)) 88 (@PySem.Life.mk [] [] [] 0 [] [] @Bool.false (@List.toArray @Nat []) [] 0 @Bool.false @Bool.false @Bool.false (@OfNat.ofNat @Int 0 (@instOfNat 0)) [(@OfNat.ofNat @Int 2000 (@instOfNat 2000)), (@OfNat.ofNat @Int 10 (@instOfNat 10)), (@OfNat.ofNat @Int 10 (@instOfNat 10))] @Bool.false 0 @Bool.true [] [] 0 @Bool.false) (Array.mk []) (@PySem.Drawn.mk 0 0 0 0) 287 os) (piecesOf (stsAt PW 7 1) env cE (@PySem.Pos.mk 12 0 13 8) B) = some (Flow.next, (SharedT.mk (btOf 12 (L6 w.params)) 100 (@PySem.Life.mk [] [] [] 0 [] [] @Bool.false (@List.toArray @Nat []) [] 0 @Bool.false @Bool.false @Bool.false (@OfNat.ofNat @Int 0 (@instOfNat 0)) [(@OfNat.ofNat @Int 2000 (@instOfNat 2000)), (@OfNat.ofNat @Int 10 (@instOfNat 10)), (@OfNat.ofNat @Int 10 (@instOfNat 10))] @Bool.false 0 @Bool.true [] [] 0 @Bool.false) (Array.mk []) (@PySem.Drawn.mk 0 0 0 0) 303 os), cE, (@PySem.Pos.mk 14 0 15 8)) := by kernel_rfl
theorem pc6 (w : World) (os : OsState) : segRunT treeTable PW w 11 (some (@PySem.Value.ref 6)) 1 214 (SharedT.mk (btOf 12 (L5 w.params)) 88 (@PySem.Life.mk [] [] [] 0 [] [] @Bool.false (@List.toArray @Nat []) [] 0 @Bool.false @Bool.false @Bool.false (@OfNat.ofNat @Int 0 (@instOfNat 0)) [(@OfNat.ofNat @Int 2000 (@instOfNat 2000)), (@OfNat.ofNat @Int 10 (@instOfNat 10)), (@OfNat.ofNat @Int 10 (@instOfNat 10))] @Bool.false 0 @Bool.true [] [] 0 @Bool.false) (Array.mk []) (@PySem.Drawn.mk 0 0 0 0) 287 os) (piecesOf (stsAt PW 7 1) env cE (@PySem.Pos.mk 12 0 13 8) B) = some (Flow.next, (SharedT.mk (btOf 12 (L6 w.params)) 100 (@PySem.Life.mk [] [] [] 0 [] [] @Bool.false (@List.toArray @Nat []) [] 0 @Bool.false @Bool.false @Bool.false (@OfNat.ofNat @Int 0 (@instOfNat 0)) [(@OfNat.ofNat @Int 2000 (@instOfNat 2000)), (@OfNat.ofNat @Int 10 (@instOfNat 10)), (@OfNat.ofNat @Int 10 (@instOfNat 10))] @Bool.false 0 @Bool.true [] [] 0 @Bool.false) (Array.mk []) (@PySem.Drawn.mk 0 0 0 0) 303 os), cE, (@PySem.Pos.mk 14 0 15 8)) := by
  rw [PySem.W.Fast.te14364793385576792824, PySem.W.Fast.te10110043849684766642]
  exact pc6_f w os
theorem pc7_f (w : World) (os : OsState) : PySem.W.Fast.tw10110043849684766642 PySem.W.Fast.tw14364793385576792824 PW w 11 (some (@PySem.Value.ref 6)) 1 396 (SharedT.mk (btOf 12 (L6 w.params)) 100 (@PySem.Life.mk [] [] [] 0 [] [] @Bool.false (@List.toArray @Nat []) [] 0 @Bool.false @Bool.false @Bool.false (@OfNat.ofNat @Int 0 (@instOfNat 0)) [(@OfNat.ofNat @Int 2000 (@instOfNat 2000)), (@OfNat.ofNat @Int 10 (@instOfNat 10)), (@OfNat.ofNat @Int 10 (@instOfNat 10))] @Bool.false 0 @Bool.true [] [] 0 @Bool.false) (Array.mk []) (@PySem.Drawn.mk 0 0 0 0) 303 os) (piecesOf (stsAt PW 8 9) env cE (@PySem.Pos.mk 14 0 15 8) B) = some (Flow.next, (SharedT.mk (btOf 12 (L7 w.params)) 149 (@PySem.Life.mk [] [] [] 0 [] [] @Bool.false (@List.toArray @Nat []) [] 0 @Bool.false @Bool.false @Bool.false (@OfNat.ofNat @Int 0 (@instOfNat 0)) [(@OfNat.ofNat @Int 2000 (@instOfNat 2000)), (@OfNat.ofNat @Int 10 (@instOfNat 10)), (@OfNat.ofNat @Int 10 (@instOfNat 10))] @Bool.false 0 @Bool.true [] [] 0 @Bool.false) (Array.mk []) (@PySem.Drawn.mk 0 0 0 0) 366 os), cE, (@PySem.Pos.mk 38 0 39 74)) := by kernel_rfl
theorem pc7 (w : World) (os : OsState) : segRunT treeTable PW w 11 (some (@PySem.Value.ref 6)) 1 396 (SharedT.mk (btOf 12 (L6 w.params)) 100 (@PySem.Life.mk [] [] [] 0 [] [] @Bool.false (@List.toArray @Nat []) [] 0 @Bool.false @Bool.false @Bool.false (@OfNat.ofNat @Int 0 (@instOfNat 0)) [(@OfNat.ofNat @Int 2000 (@instOfNat 2000)), (@OfNat.ofNat @Int 10 (@instOfNat 10)), (@OfNat.ofNat @Int 10 (@instOfNat 10))] @Bool.false 0 @Bool.true [] [] 0 @Bool.false) (Array.mk []) (@PySem.Drawn.mk 0 0 0 0) 303 os) (piecesOf (stsAt PW 8 9) env cE (@PySem.Pos.mk 14 0 15 8) B) = some (Flow.next, (SharedT.mk (btOf 12 (L7 w.params)) 149 (@PySem.Life.mk [] [] [] 0 [] [] @Bool.false (@List.toArray @Nat []) [] 0 @Bool.false @Bool.false @Bool.false (@OfNat.ofNat @Int 0 (@instOfNat 0)) [(@OfNat.ofNat @Int 2000 (@instOfNat 2000)), (@OfNat.ofNat @Int 10 (@instOfNat 10)), (@OfNat.ofNat @Int 10 (@instOfNat 10))] @Bool.false 0 @Bool.true [] [] 0 @Bool.false) (Array.mk []) (@PySem.Drawn.mk 0 0 0 0) 366 os), cE, (@PySem.Pos.mk 38 0 39 74)) := by
  rw [PySem.W.Fast.te14364793385576792824, PySem.W.Fast.te10110043849684766642]
  exact pc7_f w os
theorem pc8_f (w : World) (os : OsState) : PySem.W.Fast.tw10110043849684766642 PySem.W.Fast.tw14364793385576792824 PW w 11 (some (@PySem.Value.ref 6)) 1 160 (SharedT.mk (btOf 12 (L7 w.params)) 149 (@PySem.Life.mk [] [] [] 0 [] [] @Bool.false (@List.toArray @Nat []) [] 0 @Bool.false @Bool.false @Bool.false (@OfNat.ofNat @Int 0 (@instOfNat 0)) [(@OfNat.ofNat @Int 2000 (@instOfNat 2000)), (@OfNat.ofNat @Int 10 (@instOfNat 10)), (@OfNat.ofNat @Int 10 (@instOfNat 10))] @Bool.false 0 @Bool.true [] [] 0 @Bool.false) (Array.mk []) (@PySem.Drawn.mk 0 0 0 0) 366 os) (piecesOf (stsAt PW 17 6) env cE (@PySem.Pos.mk 38 0 39 74) B) = some (Flow.next, (SharedT.mk (btOf 12 (L8 w.params)) 184 (@PySem.Life.mk [] [] [] 0 [] [] @Bool.false (@List.toArray @Nat []) [] 0 @Bool.false @Bool.false @Bool.false (@OfNat.ofNat @Int 0 (@instOfNat 0)) [(@OfNat.ofNat @Int 2000 (@instOfNat 2000)), (@OfNat.ofNat @Int 10 (@instOfNat 10)), (@OfNat.ofNat @Int 10 (@instOfNat 10))] @Bool.false 0 @Bool.true [] [] 0 @Bool.false) (Array.mk []) (@PySem.Drawn.mk 0 0 0 0) 408 os), cE, (@PySem.Pos.mk 52 0 53 45)) := by kernel_rfl
theorem pc8 (w : World) (os : OsState) : segRunT treeTable PW w 11 (some (@PySem.Value.ref 6)) 1 160 (SharedT.mk (btOf 12 (L7 w.params)) 149 (@PySem.Life.mk [] [] [] 0 [] [] @Bool.false (@List.toArray @Nat []) [] 0 @Bool.false @Bool.false @Bool.false (@OfNat.ofNat @Int 0 (@instOfNat 0)) [(@OfNat.ofNat @Int 2000 (@instOfNat 2000)), (@OfNat.ofNat @Int 10 (@instOfNat 10)), (@OfNat.ofNat @Int 10 (@instOfNat 10))] @Bool.false 0 @Bool.true [] [] 0 @Bool.false) (Array.mk []) (@PySem.Drawn.mk 0 0 0 0) 366 os) (piecesOf (stsAt PW 17 6) env cE (@PySem.Pos.mk 38 0 39 74) B) = some (Flow.next, (SharedT.mk (btOf 12 (L8 w.params)) 184 (@PySem.Life.mk [] [] [] 0 [] [] @Bool.false (@List.toArray @Nat []) [] 0 @Bool.false @Bool.false @Bool.false (@OfNat.ofNat @Int 0 (@instOfNat 0)) [(@OfNat.ofNat @Int 2000 (@instOfNat 2000)), (@OfNat.ofNat @Int 10 (@instOfNat 10)), (@OfNat.ofNat @Int 10 (@instOfNat 10))] @Bool.false 0 @Bool.true [] [] 0 @Bool.false) (Array.mk []) (@PySem.Drawn.mk 0 0 0 0) 408 os), cE, (@PySem.Pos.mk 52 0 53 45)) := by
  rw [PySem.W.Fast.te14364793385576792824, PySem.W.Fast.te10110043849684766642]
  exact pc8_f w os
theorem pc9_f (w : World) (os : OsState) : PySem.W.Fast.tw10110043849684766642 PySem.W.Fast.tw14364793385576792824 PW w 11 (some (@PySem.Value.ref 6)) 1 382 (SharedT.mk (btOf 12 (L8 w.params)) 184 (@PySem.Life.mk [] [] [] 0 [] [] @Bool.false (@List.toArray @Nat []) [] 0 @Bool.false @Bool.false @Bool.false (@OfNat.ofNat @Int 0 (@instOfNat 0)) [(@OfNat.ofNat @Int 2000 (@instOfNat 2000)), (@OfNat.ofNat @Int 10 (@instOfNat 10)), (@OfNat.ofNat @Int 10 (@instOfNat 10))] @Bool.false 0 @Bool.true [] [] 0 @Bool.false) (Array.mk []) (@PySem.Drawn.mk 0 0 0 0) 408 os) (piecesOf (stsAt PW 23 2) env cE (@PySem.Pos.mk 52 0 53 45) B) = some (Flow.next, (SharedT.mk (btOf 12 (L9 w.params)) 234 (@PySem.Life.mk [] [] [] 0 [] [] @Bool.false (@List.toArray @Nat []) [] 0 @Bool.false @Bool.false @Bool.false (@OfNat.ofNat @Int 0 (@instOfNat 0)) [(@OfNat.ofNat @Int 2000 (@instOfNat 2000)), (@OfNat.ofNat @Int 10 (@instOfNat 10)), (@OfNat.ofNat @Int 10 (@instOfNat 10))] @Bool.false 0 @Bool.true [] [] 0 @Bool.false) (Array.mk []) (@PySem.Drawn.mk 0 0 0 0) 475 os), cE, (@PySem.Pos.mk 95 0 95 8)) := by kernel_rfl
theorem pc9 (w : World) (os : OsState) : segRunT treeTable PW w 11 (some (@PySem.Value.ref 6)) 1 382 (SharedT.mk (btOf 12 (L8 w.params)) 184 (@PySem.Life.mk [] [] [] 0 [] [] @Bool.false (@List.toArray @Nat []) [] 0 @Bool.false @Bool.false @Bool.false (@OfNat.ofNat @Int 0 (@instOfNat 0)) [(@OfNat.ofNat @Int 2000 (@instOfNat 2000)), (@OfNat.ofNat @Int 10 (@instOfNat 10)), (@OfNat.ofNat @Int 10 (@instOfNat 10))] @Bool.false 0 @Bool.true [] [] 0 @Bool.false) (Array.mk []) (@PySem.Drawn.mk 0 0 0 0) 408 os) (piecesOf (stsAt PW 23 2) env cE (@PySem.Pos.mk 52 0 53 45) B) = some (Flow.next, (SharedT.mk (btOf 12 (L9 w.params)) 234 (@PySem.Life.mk [] [] [] 0 [] [] @Bool.false (@List.toArray @Nat []) [] 0 @Bool.false @Bool.false @Bool.false (@OfNat.ofNat @Int 0 (@instOfNat 0)) [(@OfNat.ofNat @Int 2000 (@instOfNat 2000)), (@OfNat.ofNat @Int 10 (@instOfNat 10)), (@OfNat.ofNat @Int 10 (@instOfNat 10))] @Bool.false 0 @Bool.true [] [] 0 @Bool.false) (Array.mk []) (@PySem.Drawn.mk 0 0 0 0) 475 os), cE, (@PySem.Pos.mk 95 0 95 8)) := by
  rw [PySem.W.Fast.te14364793385576792824, PySem.W.Fast.te10110043849684766642]
  exact pc9_f w os
theorem pc10_f (w : World) (os : OsState) : PySem.W.Fast.tw10110043849684766642 PySem.W.Fast.tw14364793385576792824 PW w 11 (some (@PySem.Value.ref 6)) 1 392 (SharedT.mk (btOf 12 (L9 w.params)) 234 (@PySem.Life.mk [] [] [] 0 [] [] @Bool.false (@List.toArray @Nat []) [] 0 @Bool.false @Bool.false @Bool.false (@OfNat.ofNat @Int 0 (@instOfNat 0)) [(@OfNat.ofNat @Int 2000 (@instOfNat 2000)), (@OfNat.ofNat @Int 10 (@instOfNat 10)), (@OfNat.ofNat @Int 10 (@instOfNat 10))] @Bool.false 0 @Bool.true [] [] 0 @Bool.false) (Array.mk []) (@PySem.Drawn.mk 0 0 0 0) 475 os) (piecesOf (stsAt PW 25 13) env cE (@PySem.Pos.mk 95 0 95 8) B) = some (Flow.next, (SharedT.mk (btOf 12 (L10 w.params)) 321 (@PySem.Life.mk [] [] [] 0 [] [] @Bool.false (@List.toArray @Nat []) [] 0 @Bool.false @Bool.false @Bool.false (@OfNat.ofNat @Int 0 (@instOfNat 0)) [(@OfNat.ofNat @Int 2000 (@instOfNat 2000)), (@OfNat.ofNat @Int 10 (@instOfNat 10)), (@OfNat.ofNat @Int 10 (@instOfNat 10))] @Bool.false 0 @Bool.true [] [] 0 @Bool.false) (Array.mk []) (@PySem.Drawn.mk 0 0 0 0) 584 os), cE, (@PySem.Pos.mk 155 0 162 21)) := by kernel_rfl
theorem pc10 (w : World) (os : OsState) : segRunT treeTable PW w 11 (some (@PySem.Value.ref 6)) 1 392 (SharedT.mk (btOf 12 (L9 w.params)) 234 (@PySem.Life.mk [] [] [] 0 [] [] @Bool.false (@List.toArray @Nat []) [] 0 @Bool.false @Bool.false @Bool.false (@OfNat.ofNat @Int 0 (@instOfNat 0)) [(@OfNat.ofNat @Int 2000 (@instOfNat 2000)), (@OfNat.ofNat @Int 10 (@instOfNat 10)), (@OfNat.ofNat @Int 10 (@instOfNat 10))] @Bool.false 0 @Bool.true [] [] 0 @Bool.false) (Array.mk []) (@PySem.Drawn.mk 0 0 0 0) 475 os) (piecesOf (stsAt PW 25 13) env cE (@PySem.Pos.mk 95 0 95 8) B) = some (Flow.next, (SharedT.mk (btOf 12 (L10 w.params)) 321 (@PySem.Life.mk [] [] [] 0 [] [] @Bool.false (@List.toArray @Nat []) [] 0 @Bool.false @Bool.false @Bool.false (@OfNat.ofNat @Int 0 (@instOfNat 0)) [(@OfNat.ofNat @Int 2000 (@instOfNat 2000)), (@OfNat.ofNat @Int 10 (@instOfNat 10)), (@OfNat.ofNat @Int 10 (@instOfNat 10))] @Bool.false 0 @Bool.true [] [] 0 @Bool.false) (Array.mk []) (@PySem.Drawn.mk 0 0 0 0) 584 os), cE, (@PySem.Pos.mk 155 0 162 21)) := by
  rw [PySem.W.Fast.te14364793385576792824, PySem.W.Fast.te10110043849684766642]
  exact pc10_f w os
theorem pc11_f (w : World) (os : OsState) : PySem.W.Fast.tw10110043849684766642 PySem.W.Fast.tw14364793385576792824 PW w 11 (some (@PySem.Value.ref 6)) 1 79 (SharedT.mk (btOf 12 (L10 w.params)) 321 (@PySem.Life.mk [] [] [] 0 [] [] @Bool.false (@List.toArray @Nat []) [] 0 @Bool.false @Bool.false @Bool.false (@OfNat.ofNat @Int 0 (@instOfNat 0)) [(@OfNat.ofNat @Int 2000 (@instOfNat 2000)), (@OfNat.ofNat @Int 10 (@instOfNat 10)), (@OfNat.ofNat @Int 10 (@instOfNat 10))] @Bool.false 0 @Bool.true [] [] 0 @Bool.false) (Array.mk []) (@PySem.Drawn.mk 0 0 0 0) 584 os) (piecesOf (stsAt PW 38 3) env cE (@PySem.Pos.mk 155 0 162 21) B) = some (Flow.next, (SharedT.mk (btOf 12 (L11 w.params)) 336 (@PySem.Life.mk [] [] [] 0 [] [] @Bool.false (@List.toArray @Nat []) [] 0 @Bool.false @Bool.false @Bool.false (@OfNat.ofNat @Int 0 (@instOfNat 0)) [(@OfNat.ofNat @Int 2000 (@instOfNat 2000)), (@OfNat.ofNat @Int 10 (@instOfNat 10)), (@OfNat.ofNat @Int 10 (@instOfNat 10))] @Bool.false 0 @Bool.true [] [] 0 @Bool.false) (Array.mk []) (@PySem.Drawn.mk 0 0 0 0) 602 os), cE, (@PySem.Pos.mk 197 0 208 89)) := by kernel_rfl
theorem pc11 (w : World) (os : OsState) : segRunT treeTable PW w 11 (some (@PySem.Value.ref 6)) 1 79 (SharedT.mk (btOf 12 (L10 w.params)) 321 (@PySem.Life.mk [] [] [] 0 [] [] @Bool.false (@List.toArray @Nat []) [] 0 @Bool.false @Bool.false @Bool.false (@OfNat.ofNat @Int 0 (@instOfNat 0)) [(@OfNat.ofNat @Int 2000 (@instOfNat 2000)), (@OfNat.ofNat @Int 10 (@instOfNat 10)), (@OfNat.ofNat @Int 10 (@instOfNat 10))] @Bool.false 0 @Bool.true [] [] 0 @Bool.false) (Array.mk []) (@PySem.Drawn.mk 0 0 0 0) 584 os) (piecesOf (stsAt PW 38 3) env cE (@PySem.Pos.mk 155 0 162 21) B) = some (Flow.next, (SharedT.mk (btOf 12 (L11 w.params)) 336 (@PySem.Life.mk [] [] [] 0 [] [] @Bool.false (@List.toArray @Nat []) [] 0 @Bool.false @Bool.false @Bool.false (@OfNat.ofNat @Int 0 (@instOfNat 0)) [(@OfNat.ofNat @Int 2000 (@instOfNat 2000)), (@OfNat.ofNat @Int 10 (@instOfNat 10)), (@OfNat.ofNat @Int 10 (@instOfNat 10))] @Bool.false 0 @Bool.true [] [] 0 @Bool.false) (Array.mk []) (@PySem.Drawn.mk 0 0 0 0) 602 os), cE, (@PySem.Pos.mk 197 0 208 89)) := by
  rw [PySem.W.Fast.te14364793385576792824, PySem.W.Fast.te10110043849684766642]
  exact pc11_f w os
theorem fin_f (w : World) (os : OsState) : PySem.W.Fast.tw14082659384304107361 PySem.W.Fast.tw14364793385576792824 PW w 11 (some (@PySem.Value.ref 6)) 2 (SharedT.abs (SharedT.mk (btOf 12 (L11 w.params)) 336 (@PySem.Life.mk [] [] [] 0 [] [] @Bool.false (@List.toArray @Nat []) [] 0 @Bool.false @Bool.false @Bool.false (@OfNat.ofNat @Int 0 (@instOfNat 0)) [(@OfNat.ofNat @Int 2000 (@instOfNat 2000)), (@OfNat.ofNat @Int 10 (@instOfNat 10)), (@OfNat.ofNat @Int 10 (@instOfNat 10))] @Bool.false 0 @Bool.true [] [] 0 @Bool.false) (Array.mk []) (@PySem.Drawn.mk 0 0 0 0) 602 os)) (Thread.mk (doneF Flow.next) cE (@PySem.Pos.mk 197 0 208 89) B) = some (Shared.mk (Heap.mk (Array.mk (LF w.params)) (@PySem.Life.mk [] [] [] 0 [] [] @Bool.false (@List.toArray @Nat []) [] 0 @Bool.false @Bool.false @Bool.false (@OfNat.ofNat @Int 0 (@instOfNat 0)) [(@OfNat.ofNat @Int 2000 (@instOfNat 2000)), (@OfNat.ofNat @Int 10 (@instOfNat 10)), (@OfNat.ofNat @Int 10 (@instOfNat 10))] @Bool.false 0 @Bool.true [] [] 0 @Bool.false)) (Array.mk []) (@PySem.Drawn.mk 0 0 0 0) 602 os) := by kernel_rfl
theorem fin (w : World) (os : OsState) : topRun treeTable PW w 11 (some (@PySem.Value.ref 6)) 2 (SharedT.abs (SharedT.mk (btOf 12 (L11 w.params)) 336 (@PySem.Life.mk [] [] [] 0 [] [] @Bool.false (@List.toArray @Nat []) [] 0 @Bool.false @Bool.false @Bool.false (@OfNat.ofNat @Int 0 (@instOfNat 0)) [(@OfNat.ofNat @Int 2000 (@instOfNat 2000)), (@OfNat.ofNat @Int 10 (@instOfNat 10)), (@OfNat.ofNat @Int 10 (@instOfNat 10))] @Bool.false 0 @Bool.true [] [] 0 @Bool.false) (Array.mk []) (@PySem.Drawn.mk 0 0 0 0) 602 os)) (Thread.mk (doneF Flow.next) cE (@PySem.Pos.mk 197 0 208 89) B) = some (Shared.mk (Heap.mk (Array.mk (LF w.params)) (@PySem.Life.mk [] [] [] 0 [] [] @Bool.false (@List.toArray @Nat []) [] 0 @Bool.false @Bool.false @Bool.false (@OfNat.ofNat @Int 0 (@instOfNat 0)) [(@OfNat.ofNat @Int 2000 (@instOfNat 2000)), (@OfNat.ofNat @Int 10 (@instOfNat 10)), (@OfNat.ofNat @Int 10 (@instOfNat 10))] @Bool.false 0 @Bool.true [] [] 0 @Bool.false)) (Array.mk []) (@PySem.Drawn.mk 0 0 0 0) 602 os) := by
  rw [PySem.W.Fast.te14364793385576792824, PySem.W.Fast.te14082659384304107361]
  exact fin_f w os
theorem body_eq : behindTheImports PW = (stsAt PW 0 2 ++ (stsAt PW 2 1 ++ (stsAt PW 3 1 ++ (stsAt PW 4 1 ++ (stsAt PW 5 1 ++ (stsAt PW 6 1 ++ (stsAt PW 7 1 ++ (stsAt PW 8 9 ++ (stsAt PW 17 6 ++ (stsAt PW 23 2 ++ (stsAt PW 25 13 ++ (stsAt PW 38 3 ++ [])))))))))))) := by kernel_rfl
theorem rest_ok (w : World) (os : OsState) : topRun treeTable PW w 11 (some (@PySem.Value.ref 6)) (196 + (214 + (214 + (214 + (214 + (214 + (214 + (396 + (160 + (382 + (392 + (79 + 2)))))))))))) (SharedT.abs (SharedT.mk (btOf 12 (LB w.params)) 15 (@PySem.Life.mk [] [] [] 0 [] [] @Bool.false (@List.toArray @Nat []) [] 0 @Bool.false @Bool.false @Bool.false (@OfNat.ofNat @Int 0 (@instOfNat 0)) [(@OfNat.ofNat @Int 2000 (@instOfNat 2000)), (@OfNat.ofNat @Int 10 (@instOfNat 10)), (@OfNat.ofNat @Int 10 (@instOfNat 10))] @Bool.false 0 @Bool.true [] [] 0 @Bool.false) (Array.mk []) (@PySem.Drawn.mk 0 0 0 0) 187 os)) (restOf (stsAt PW 0 2 ++ (stsAt PW 2 1 ++ (stsAt PW 3 1 ++ (stsAt PW 4 1 ++ (stsAt PW 5 1 ++ (stsAt PW 6 1 ++ (stsAt PW 7 1 ++ (stsAt PW 8 9 ++ (stsAt PW 17 6 ++ (stsAt PW 23 2 ++ (stsAt PW 25 13 ++ (stsAt PW 38 3 ++ [])))))))))))) env cE (@PySem.Pos.mk 0 0 0 0) B) = some (Shared.mk (Heap.mk (Array.mk (LF w.params)) (@PySem.Life.mk [] [] [] 0 [] [] @Bool.false (@List.toArray @Nat []) [] 0 @Bool.false @Bool.false @Bool.false (@OfNat.ofNat @Int 0 (@instOfNat 0)) [(@OfNat.ofNat @Int 2000 (@instOfNat 2000)), (@OfNat.ofNat @Int 10 (@instOfNat 10)), (@OfNat.ofNat @Int 10 (@instOfNat 10))] @Bool.false 0 @Bool.true [] [] 0 @Bool.false)) (Array.mk []) (@PySem.Drawn.mk 0 0 0 0) 602 os) := (piece_app (segRun_of (pc0 w os)) (piece_app (segRun_of (pc1 w os)) (piece_app (segRun_of (pc2 w os)) (piece_app (segRun_of (pc3 w os)) (piece_app (segRun_of (pc4 w os)) (piece_app (segRun_of (pc5 w os)) (piece_app (segRun_of (pc6 w os)) (piece_app (segRun_of (pc7 w os)) (piece_app (segRun_of (pc8 w os)) (piece_app (segRun_of (pc9 w os)) (piece_app (segRun_of (pc10 w os)) (piece_app (segRun_of (pc11 w os)) (piece_nil (fin w os))))))))))))))
theorem run_ok (w : World) (os : OsState) : topRun treeTable PW w 11 (some (@PySem.Value.ref 6)) (12 + (1 + (196 + (214 + (214 + (214 + (214 + (214 + (214 + (396 + (160 + (382 + (392 + (79 + 2)))))))))))))) (Shared.mk (boot_heap w.params) (Array.mk []) boot_drawn boot_toks os) (topStub PW) = some (Shared.mk (Heap.mk (Array.mk (LF w.params)) (@PySem.Life.mk [] [] [] 0 [] [] @Bool.false (@List.toArray @Nat []) [] 0 @Bool.false @Bool.false @Bool.false (@OfNat.ofNat @Int 0 (@instOfNat 0)) [(@OfNat.ofNat @Int 2000 (@instOfNat 2000)), (@OfNat.ofNat @Int 10 (@instOfNat 10)), (@OfNat.ofNat @Int 10 (@instOfNat 10))] @Bool.false 0 @Bool.true [] [] 0 @Bool.false)) (Array.mk []) (@PySem.Drawn.mk 0 0 0 0) 602 os) :=
  go_top (pre w os) (piece_block (block w os) (by rw [body_eq]; exact rest_ok w os))
noncomputable def KH (P : Params) : Frag := [(2, boot_o_2 P), (3, o3_11 P), (15, o15 P), (22, o22 P), (23, o23 P), (24, o24_7 P), (25, o25 P), (28, o28 P), (35, o35 P), (36, o36 P), (37, o37 P), (40, o40 P), (47, o47 P), (48, o48 P), (49, o49 P), (52, o52 P), (59, o59 P), (60, o60 P), (61, o61 P), (64, o64 P), (71, o71 P), (72, o72 P), (73, o73 P), (76, o76 P), (83, o83 P), (84, o84 P), (85, o85 P), (88, o88 P), (95, o95 P), (96, o96 P), (97, o97 P), (100, o100 P), (107, o107 P), (108, o108 P), (109, o109 P), (112, o112 P), (113, o113 P), (114, o114 P), (116, o116 P), (117, o117 P), (119, o119 P), (120, o120 P), (121, o121 P), (123, o123 P), (124, o124 P), (126, o126 P), (127, o127 P), (128, o128 P), (130, o130 P), (131, o131 P), (133, o133 P), (134, o134 P), (135, o135 P), (137, o137 P), (138, o138 P), (140, o140 P), (141, o141 P), (142, o142 P), (144, o144 P), (145, o145 P), (147, o147 P), (148, o148 P), (149, o149 P), (151, o151 P), (152, o152 P), (154, o154 P), (155, o155 P), (156, o156 P), (158, o158 P), (159, o159 P), (161, o161 P), (162, o162 P), (163, o163 P), (165, o165 P), (166, o166 P), (168, o168 P), (169, o169 P), (170, o170 P), (172, o172 P), (173, o173 P), (175, o175 P), (176, o176 P), (177, o177 P), (179, o179 P), (180, o180 P), (182, o182 P), (183, o183 P), (191, o191 P), (193, o193 P), (194, o194 P), (196, o196 P), (197, o197 P), (198, o198 P), (201, o201 P), (202, o202 P), (203, o203 P), (206, o206 P), (207, o207 P), (208, o208 P), (211, o211 P), (212, o212 P), (213, o213 P), (215, o215 P), (216, o216 P), (218, o218 P), (219, o219 P), (220, o220 P), (222, o222 P), (223, o223 P), (225, o225 P), (226, o226 P), (227, o227 P), (228, o228 P), (229, o229 P), (230, o230 P), (231, o231 P), (234, o234 P), (236, o236 P), (237, o237 P), (239, o239 P), (240, o240 P), (241, o241 P), (243, o243 P), (244, o244 P), (246, o246 P), (247, o247 P), (248, o248 P), (250, o250 P), (251, o251 P), (253, o253 P), (254, o254 P), (255, o255 P), (257, o257 P), (258, o258 P), (260, o260 P), (261, o261 P), (262, o262 P), (264, o264 P), (265, o265 P), (267, o267 P), (268, o268 P), (269, o269 P), (271, o271 P), (272, o272 P), (274, o274 P), (275, o275 P), (276, o276 P), (278, o278 P), (279, o279 P), (281, o281 P), (282, o282 P), (283, o283 P), (285, o285 P), (286, o286 P), (288, o288 P), (289, o289 P), (290, o290 P), (293, o293 P), (294, o294 P), (295, o295 P), (298, o298 P), (299, o299 P), (300, o300 P), (302, o302 P), (303, o303 P), (305, o305 P), (306, o306 P), (307, o307 P), (309, o309 P), (310, o310 P), (312, o312 P), (313, o313 P), (314, o314 P), (316, o316 P), (317, o317 P), (319, o319 P), (320, o320 P), (321, o321 P), (324, o324 P), (325, o325 P), (326, o326 P), (329, o329 P), (330, o330 P), (331, o331 P), (334, o334 P), (335, o335 P)]
noncomputable def as : List Addr := [2, 3, 15, 22, 23, 24, 25, 28, 35, 36, 37, 40, 47, 48, 49, 52, 59, 60, 61, 64, 71, 72, 73, 76, 83, 84, 85, 88, 95, 96, 97, 100, 107, 108, 109, 112, 113, 114, 116, 117, 119, 120, 121, 123, 124, 126, 127, 128, 130, 131, 133, 134, 135, 137, 138, 140, 141, 142, 144, 145, 147, 148, 149, 151, 152, 154, 155, 156, 158, 159, 161, 162, 163, 165, 166, 168, 169, 170, 172, 173, 175, 176, 177, 179, 180, 182, 183, 191, 193, 194, 196, 197, 198, 201, 202, 203, 206, 207, 208, 211, 212, 213, 215, 216, 218, 219, 220, 222, 223, 225, 226, 227, 228, 229, 230, 231, 234, 236, 237, 239, 240, 241, 243, 244, 246, 247, 248, 250, 251, 253, 254, 255, 257, 258, 260, 261, 262, 264, 265, 267, 268, 269, 271, 272, 274, 275, 276, 278, 279, 281, 282, 283, 285, 286, 288, 289, 290, 293, 294, 295, 298, 299, 300, 302, 303, 305, 306, 307, 309, 310, 312, 313, 314, 316, 317, 319, 320, 321, 324, 325, 326, 329, 330, 331, 334, 335]
theorem as_ok (P : Params) : as = (KH P).map (·.1) := by kernel_rfl
noncomputable def q : Program := view PW [40]
noncomputable def loose : List Str := [Str.ofString "WeighError", Str.ofString "Nought", Str.ofString "NoText", Str.ofString "NoRow", Str.ofString "NoMachine", Str.ofString "NoWord", Str.ofString "OtherSigns", Str.ofString "TooMany", Str.ofString "NOUGHT", Str.ofString "ONE", Str.ofString "is_whole", Str.ofString "common", Str.ofString "is_share", Str.ofString "share", Str.ofString "plus", Str.ofString "less", Str.ofString "times", Str.ofString "over", Str.ofString "first_other", Str.ofString "longer", Str.ofString "Span", Str.ofString "_law_cell_at", Str.ofString "_law_whole", Str.ofString "_law_common", Str.ofString "_law_share", Str.ofString "_law_is", Str.ofString "_law_word_of", Str.ofString "_law_plus", Str.ofString "_law_times", Str.ofString "_law_rank", Str.ofString "_law_tops_by", Str.ofString "_law_told", Str.ofString "_law_wrong", Str.ofString "_law_sums", Str.ofString "_law_tells_good", Str.ofString "_law_deed"]
theorem size_f (w : World) : ((boot_heap w.params).isNs mainGlobals && (Array.mk ([] : List GenState)).size == 0, (boot_heap w.params).objs.size, (boot_heap w.params).nsMap mainGlobals "__annotations__") = (true, 11, (some (@PySem.Value.ref 6))) := by kernel_rfl
theorem size (w : World) : ((boot_heap w.params).isNs mainGlobals && (Array.mk ([] : List GenState)).size == 0, (boot_heap w.params).objs.size, (boot_heap w.params).nsMap mainGlobals "__annotations__") = (true, 11, (some (@PySem.Value.ref 6))) := by
  exact size_f w
theorem lk1_f (w : World) (os : OsState) : (staticsOk (PySem.W.Fast.tw5923862056798008813 PW.main.body) (boot_heap w.params) (Heap.mk (Array.mk (LF w.params)) (@PySem.Life.mk [] [] [] 0 [] [] @Bool.false (@List.toArray @Nat []) [] 0 @Bool.false @Bool.false @Bool.false (@OfNat.ofNat @Int 0 (@instOfNat 0)) [(@OfNat.ofNat @Int 2000 (@instOfNat 2000)), (@OfNat.ofNat @Int 10 (@instOfNat 10)), (@OfNat.ofNat @Int 10 (@instOfNat 10))] @Bool.false 0 @Bool.true [] [] 0 @Bool.false)) && namesBound PW (Heap.mk (Array.mk (LF w.params)) (@PySem.Life.mk [] [] [] 0 [] [] @Bool.false (@List.toArray @Nat []) [] 0 @Bool.false @Bool.false @Bool.false (@OfNat.ofNat @Int 0 (@instOfNat 0)) [(@OfNat.ofNat @Int 2000 (@instOfNat 2000)), (@OfNat.ofNat @Int 10 (@instOfNat 10)), (@OfNat.ofNat @Int 10 (@instOfNat 10))] @Bool.false 0 @Bool.true [] [] 0 @Bool.false)) && gensDone (Shared.mk (Heap.mk (Array.mk (LF w.params)) (@PySem.Life.mk [] [] [] 0 [] [] @Bool.false (@List.toArray @Nat []) [] 0 @Bool.false @Bool.false @Bool.false (@OfNat.ofNat @Int 0 (@instOfNat 0)) [(@OfNat.ofNat @Int 2000 (@instOfNat 2000)), (@OfNat.ofNat @Int 10 (@instOfNat 10)), (@OfNat.ofNat @Int 10 (@instOfNat 10))] @Bool.false 0 @Bool.true [] [] 0 @Bool.false)) (Array.mk []) (@PySem.Drawn.mk 0 0 0 0) 602 os) && laidKept (boot_heap w.params) (Heap.mk (Array.mk (LF w.params)) (@PySem.Life.mk [] [] [] 0 [] [] @Bool.false (@List.toArray @Nat []) [] 0 @Bool.false @Bool.false @Bool.false (@OfNat.ofNat @Int 0 (@instOfNat 0)) [(@OfNat.ofNat @Int 2000 (@instOfNat 2000)), (@OfNat.ofNat @Int 10 (@instOfNat 10)), (@OfNat.ofNat @Int 10 (@instOfNat 10))] @Bool.false 0 @Bool.true [] [] 0 @Bool.false))) = true := by kernel_rfl
theorem lk1 (w : World) (os : OsState) : (staticsOk (importedModules PW.main.body) (boot_heap w.params) (Heap.mk (Array.mk (LF w.params)) (@PySem.Life.mk [] [] [] 0 [] [] @Bool.false (@List.toArray @Nat []) [] 0 @Bool.false @Bool.false @Bool.false (@OfNat.ofNat @Int 0 (@instOfNat 0)) [(@OfNat.ofNat @Int 2000 (@instOfNat 2000)), (@OfNat.ofNat @Int 10 (@instOfNat 10)), (@OfNat.ofNat @Int 10 (@instOfNat 10))] @Bool.false 0 @Bool.true [] [] 0 @Bool.false)) && namesBound PW (Heap.mk (Array.mk (LF w.params)) (@PySem.Life.mk [] [] [] 0 [] [] @Bool.false (@List.toArray @Nat []) [] 0 @Bool.false @Bool.false @Bool.false (@OfNat.ofNat @Int 0 (@instOfNat 0)) [(@OfNat.ofNat @Int 2000 (@instOfNat 2000)), (@OfNat.ofNat @Int 10 (@instOfNat 10)), (@OfNat.ofNat @Int 10 (@instOfNat 10))] @Bool.false 0 @Bool.true [] [] 0 @Bool.false)) && gensDone (Shared.mk (Heap.mk (Array.mk (LF w.params)) (@PySem.Life.mk [] [] [] 0 [] [] @Bool.false (@List.toArray @Nat []) [] 0 @Bool.false @Bool.false @Bool.false (@OfNat.ofNat @Int 0 (@instOfNat 0)) [(@OfNat.ofNat @Int 2000 (@instOfNat 2000)), (@OfNat.ofNat @Int 10 (@instOfNat 10)), (@OfNat.ofNat @Int 10 (@instOfNat 10))] @Bool.false 0 @Bool.true [] [] 0 @Bool.false)) (Array.mk []) (@PySem.Drawn.mk 0 0 0 0) 602 os) && laidKept (boot_heap w.params) (Heap.mk (Array.mk (LF w.params)) (@PySem.Life.mk [] [] [] 0 [] [] @Bool.false (@List.toArray @Nat []) [] 0 @Bool.false @Bool.false @Bool.false (@OfNat.ofNat @Int 0 (@instOfNat 0)) [(@OfNat.ofNat @Int 2000 (@instOfNat 2000)), (@OfNat.ofNat @Int 10 (@instOfNat 10)), (@OfNat.ofNat @Int 10 (@instOfNat 10))] @Bool.false 0 @Bool.true [] [] 0 @Bool.false))) = true := by
  rw [PySem.W.Fast.te5923862056798008813]
  exact lk1_f w os
theorem lk2_f (w : World) (os : OsState) : PySem.W.Fast.tw4187177175401517315 q loose (PySem.W.Fast.tw5923862056798008813 PW.main.body) (fun s => xlAt q [] s && recOk (RowW.records (OpenRow.toRowW (OpenLaw.row PySem.Challenge.rw_uf020009_04))) s) true (Shared.mk (Heap.mk (Array.mk (LF w.params)) (@PySem.Life.mk [] [] [] 0 [] [] @Bool.false (@List.toArray @Nat []) [] 0 @Bool.false @Bool.false @Bool.false (@OfNat.ofNat @Int 0 (@instOfNat 0)) [(@OfNat.ofNat @Int 2000 (@instOfNat 2000)), (@OfNat.ofNat @Int 10 (@instOfNat 10)), (@OfNat.ofNat @Int 10 (@instOfNat 10))] @Bool.false 0 @Bool.true [] [] 0 @Bool.false)) (Array.mk []) (@PySem.Drawn.mk 0 0 0 0) 602 os) = openGood q loose := by kernel_rfl
theorem lk2 (w : World) (os : OsState) : openSeen q loose (importedModules PW.main.body) (fun s => xlAt q [] s && recOk (RowW.records (OpenRow.toRowW (OpenLaw.row PySem.Challenge.rw_uf020009_04))) s) true (Shared.mk (Heap.mk (Array.mk (LF w.params)) (@PySem.Life.mk [] [] [] 0 [] [] @Bool.false (@List.toArray @Nat []) [] 0 @Bool.false @Bool.false @Bool.false (@OfNat.ofNat @Int 0 (@instOfNat 0)) [(@OfNat.ofNat @Int 2000 (@instOfNat 2000)), (@OfNat.ofNat @Int 10 (@instOfNat 10)), (@OfNat.ofNat @Int 10 (@instOfNat 10))] @Bool.false 0 @Bool.true [] [] 0 @Bool.false)) (Array.mk []) (@PySem.Drawn.mk 0 0 0 0) 602 os) = openGood q loose := by
  rw [PySem.W.Fast.te4187177175401517315, PySem.W.Fast.te5923862056798008813]
  exact lk2_f w os
theorem lk3_f (w : World) : as.map (Heap.mk (Array.mk (LF w.params)) (@PySem.Life.mk [] [] [] 0 [] [] @Bool.false (@List.toArray @Nat []) [] 0 @Bool.false @Bool.false @Bool.false (@OfNat.ofNat @Int 0 (@instOfNat 0)) [(@OfNat.ofNat @Int 2000 (@instOfNat 2000)), (@OfNat.ofNat @Int 10 (@instOfNat 10)), (@OfNat.ofNat @Int 10 (@instOfNat 10))] @Bool.false 0 @Bool.true [] [] 0 @Bool.false)).get? = (KH w.params).map fun p => some p.2 := by kernel_rfl
theorem lk3 (w : World) : as.map (Heap.mk (Array.mk (LF w.params)) (@PySem.Life.mk [] [] [] 0 [] [] @Bool.false (@List.toArray @Nat []) [] 0 @Bool.false @Bool.false @Bool.false (@OfNat.ofNat @Int 0 (@instOfNat 0)) [(@OfNat.ofNat @Int 2000 (@instOfNat 2000)), (@OfNat.ofNat @Int 10 (@instOfNat 10)), (@OfNat.ofNat @Int 10 (@instOfNat 10))] @Bool.false 0 @Bool.true [] [] 0 @Bool.false)).get? = (KH w.params).map fun p => some p.2 := by
  exact lk3_f w
theorem left : LeftO PW q loose (fun s => xlAt q [] s && recOk (RowW.records (OpenRow.toRowW (OpenLaw.row PySem.Challenge.rw_uf020009_04))) s) (Hook.obs (kHook KH as as_ok)) (Hook.val (kHook KH as as_ok)) 5880 :=
  LeftO.of_pieces (H₀ := boot_heap) (H₁ := fun P => Heap.mk (Array.mk (LF P)) (@PySem.Life.mk [] [] [] 0 [] [] @Bool.false (@List.toArray @Nat []) [] 0 @Bool.false @Bool.false @Bool.false (@OfNat.ofNat @Int 0 (@instOfNat 0)) [(@OfNat.ofNat @Int 2000 (@instOfNat 2000)), (@OfNat.ofNat @Int 10 (@instOfNat 10)), (@OfNat.ofNat @Int 10 (@instOfNat 10))] @Bool.false 0 @Bool.true [] [] 0 @Bool.false)) (gs₀ := Array.mk []) (gs₁ := (Array.mk [])) (d₀ := boot_drawn) (d₁ := (@PySem.Drawn.mk 0 0 0 0)) (k₀ := boot_toks) (k₁ := 602) (m₀ := 11) (ann := (some (@PySem.Value.ref 6))) (M := (12 + (1 + (196 + (214 + (214 + (214 + (214 + (214 + (214 + (396 + (160 + (382 + (392 + (79 + 2)))))))))))))))
    (boot_open (by kernel_rfl) (by decide) (fun s => by kernel_rfl)) size run_ok (by decide) fun w => funext fun os => by
      refine looks_pair (lk1 w os) (looks_pair (lk2 w os) (lk3 w))
noncomputable def dL : DefRec := ⟨Str.ofString "law", fnA (stAt PW 40), fnB (stAt PW 40), fnS (stAt PW 40), fnP (stAt PW 40)⟩
theorem hdef : defOf q (OpenRow.toRowW (OpenLaw.row PySem.Challenge.rw_uf020009_04)).name = some (dL, []) := by kernel_rfl
theorem hp : (OpenRow.toRowW (OpenLaw.row PySem.Challenge.rw_uf020009_04)).prog.theDef (OpenRow.toRowW (OpenLaw.row PySem.Challenge.rw_uf020009_04)).name = some (dL.params, dL.body, dL.scope) := by kernel_rfl
theorem hk : kwWritten? dL.params.kwonlyargs dL.params.kw_defaults = some [] := by kernel_rfl
theorem said_f : PySem.W.Fast.tw9446332074065402090 PySem.Challenge.rw_uf020009_04 = true := by kernel_rfl
theorem said : OpenLaw.wellSaid PySem.Challenge.rw_uf020009_04 = true := by rw [PySem.W.Fast.te9446332074065402090]; exact said_f
theorem okq : (chainsOk q && opensWell PW && (frees (OpenRow.toRowW (OpenLaw.row PySem.Challenge.rw_uf020009_04)) && (OpenRow.toRowW (OpenLaw.row PySem.Challenge.rw_uf020009_04)).within.isEmpty)) = true := by kernel_rfl
theorem bare : (OpenRow.toRowW (OpenLaw.row PySem.Challenge.rw_uf020009_04)).prog.bare := ⟨rfl, rfl, rfl, rfl, rfl, by decide +kernel⟩
theorem hd (hc : WalkO q loose (XL q []) (Hook.says (kHook KH as as_ok)) (OpenRow.toRowW (OpenLaw.row PySem.Challenge.rw_uf020009_04)) dL [] fun f vs => PySem.call f vs) : PySem.Challenge.rw_uf020009_04.Holds :=
  holds_law said fun said' => holds_open (q := q) (loose := loose) (Xt := (fun s => xlAt q [] s && recOk (RowW.records (OpenRow.toRowW (OpenLaw.row PySem.Challenge.rw_uf020009_04))) s)) (XP := XL q []) (Yf := Hook.obs (kHook KH as as_ok)) (Ya := Hook.val (kHook KH as as_ok)) (YP := Hook.says (kHook KH as as_ok)) (N := 5880)
    left (Hook.of _) (Hook.keeps _) (fun s e => xl_of s (Bool.and_eq_true_iff.mp e).1) XL.keeps hdef hp hk (fun s e => recFacts_of (Bool.and_eq_true_iff.mp e).2) rfl said' okq bare (by w_witness2) hc
end Hd
end Mine

open PySem PySem.W PyProof.Rows
namespace Mine
noncomputable abbrev KH : Params → Frag := Hd.KH
noncomputable abbrev p_WeighError : Addr := 24
noncomputable abbrev p_Nought : Addr := 37
noncomputable abbrev p_NoText : Addr := 49
noncomputable abbrev p_NoRow : Addr := 61
noncomputable abbrev p_NoMachine : Addr := 73
noncomputable abbrev p_NoWord : Addr := 85
noncomputable abbrev p_OtherSigns : Addr := 97
noncomputable abbrev p_TooMany : Addr := 109
noncomputable abbrev p_NOUGHT : Addr := 112
noncomputable abbrev p_ONE : Addr := 113
noncomputable abbrev p_is_whole : Addr := 120
noncomputable abbrev p_common : Addr := 127
noncomputable abbrev p_is_share : Addr := 134
noncomputable abbrev p_share : Addr := 141
noncomputable abbrev p_plus : Addr := 148
noncomputable abbrev p_less : Addr := 155
noncomputable abbrev p_times : Addr := 162
noncomputable abbrev p_over : Addr := 169
noncomputable abbrev p_first_other : Addr := 176
noncomputable abbrev p_longer : Addr := 183
noncomputable abbrev p_Span : Addr := 229
noncomputable abbrev l_cell_at : Addr := 240
noncomputable abbrev l_whole : Addr := 247
noncomputable abbrev l_common : Addr := 254
noncomputable abbrev l_share : Addr := 261
noncomputable abbrev l_is : Addr := 268
noncomputable abbrev l_word_of : Addr := 275
noncomputable abbrev l_plus : Addr := 282
noncomputable abbrev l_times : Addr := 289
noncomputable abbrev l_rank : Addr := 294
noncomputable abbrev l_tops_by : Addr := 299
noncomputable abbrev l_told : Addr := 306
noncomputable abbrev l_wrong : Addr := 313
noncomputable abbrev l_sums : Addr := 320
noncomputable abbrev l_tells_good : Addr := 325
noncomputable abbrev l_deed : Addr := 330
noncomputable abbrev p_law : Addr := 335
noncomputable abbrev gt : List (Str × Value) := [(Str.ofString "WeighError", .ref p_WeighError), (Str.ofString "Nought", .ref p_Nought), (Str.ofString "NoText", .ref p_NoText), (Str.ofString "NoRow", .ref p_NoRow), (Str.ofString "NoMachine", .ref p_NoMachine), (Str.ofString "NoWord", .ref p_NoWord), (Str.ofString "OtherSigns", .ref p_OtherSigns), (Str.ofString "TooMany", .ref p_TooMany), (Str.ofString "NOUGHT", .ref p_NOUGHT), (Str.ofString "ONE", .ref p_ONE), (Str.ofString "is_whole", .ref p_is_whole), (Str.ofString "common", .ref p_common), (Str.ofString "is_share", .ref p_is_share), (Str.ofString "share", .ref p_share), (Str.ofString "plus", .ref p_plus), (Str.ofString "less", .ref p_less), (Str.ofString "times", .ref p_times), (Str.ofString "over", .ref p_over), (Str.ofString "first_other", .ref p_first_other), (Str.ofString "longer", .ref p_longer), (Str.ofString "Span", .ref p_Span), (Str.ofString "_law_cell_at", .ref l_cell_at), (Str.ofString "_law_whole", .ref l_whole), (Str.ofString "_law_common", .ref l_common), (Str.ofString "_law_share", .ref l_share), (Str.ofString "_law_is", .ref l_is), (Str.ofString "_law_word_of", .ref l_word_of), (Str.ofString "_law_plus", .ref l_plus), (Str.ofString "_law_times", .ref l_times), (Str.ofString "_law_rank", .ref l_rank), (Str.ofString "_law_tops_by", .ref l_tops_by), (Str.ofString "_law_told", .ref l_told), (Str.ofString "_law_wrong", .ref l_wrong), (Str.ofString "_law_sums", .ref l_sums), (Str.ofString "_law_tells_good", .ref l_tells_good), (Str.ofString "_law_deed", .ref l_deed), (Str.ofString "law", .ref p_law)]
noncomputable abbrev bt : List (Str × Value) := [(Str.ofString "ValueError", .type "ValueError"), (Str.ofString "abs", .builtin "abs"), (Str.ofString "all", .builtin "all"), (Str.ofString "bool", .type "bool"), (Str.ofString "int", .type "int"), (Str.ofString "isinstance", .builtin "isinstance"), (Str.ofString "len", .builtin "len"), (Str.ofString "list", .type "list"), (Str.ofString "range", .type "range"), (Str.ofString "tuple", .type "tuple"), (Str.ofString "zip", .type "zip")]
theorem gt_ok (P : Params) : gtOk (KH P) gt = true := by kernel_rfl
theorem bt_ok (P : Params) : btOk (KH P) bt = true := by kernel_rfl
theorem bt_ok' : btOk' bt = true := by decide +kernel
noncomputable abbrev Wl (c : Cx) := Wd c KH gt bt
noncomputable abbrev m_Span_init : Addr := 197
noncomputable abbrev m_Span_need : Addr := 202
noncomputable abbrev m_Span_cleared : Addr := 207
noncomputable abbrev m_Span_put : Addr := 212
noncomputable abbrev m_Span_tells : Addr := 219
noncomputable abbrev m_Span_many : Addr := 226
local macro_rules | `(tactic| walk_at "m.one") => `(tactic| with_reducible (first
    | (show SE _ _ _ _ _ _ _ _ _; first | (show SE _ _ _ _ _ _ (Expr.Name _ _) _ _; first | refine A.var ?_ | refine A.nought ?_ | refine A.one ?_   | refine A.gname ?_ | refine A.bname ?_) | refine SE.int ?_ | (show SE _ _ _ _ _ _ (Expr.Call _ _ _ _) _ _; first | refine A.gcall ?_ | refine A.bcall ?_ | refine A.tcall ?_) | refine SE.slice ?_ | refine SE.sub ?_ | refine SE.bin ?_ | refine SE.cmp ?_ | refine SE.tup ?_ | refine SE.lst ?_ | refine SE.bool ?_ | refine SE.str ?_ | refine SE.boolop ?_ | refine SE.not ?_ | refine SE.un ?_ | refine SE.ifexp ?_ | refine SE.none ?_ | refine SE.dict0 ?_)
    | (show S2 _ _ _ _ _ _ _ _ _; first | refine A.itup ?_ | refine A.ilst ?_ | refine S2.addI ?_ | refine S2.subI ?_ | refine S2.eqI ?_ | refine S2.neI ?_ | refine S2.ltI ?_  | refine S2.gtI ?_ | refine S2.geI ?_    )
    | refine SL.cons ?_
    | refine SL.nil ?_
    | (show SS _ _ _ _ _ _ _ _ _ _; first | refine SS.assign ?_ | refine SS.ret ?_ | refine SS.nil ?_)
    | refine SB.bool ?_
    | refine ST.cmp ?_
    
    | refine STs.and_cons ?_
    | refine STs.or_cons ?_
    | refine SBo.one ?_
    | refine SBo.and_cons ?_
    
    | refine STs.and_nil ?_
    | refine STs.or_nil ?_
    
    | refine ST.val ?_
    | refine S1.negI ?_
    | (show SC _ _ _ _ _ _ _ _; first | refine SC.len_tup ?_ | refine SC.len_lst ?_ | refine SC.abs ?_ | refine SC.int_bool ?_ | refine SC.range1 ?_ )
    | refine A.put ?_
    | refine A.len ?_))

section
variable {c : Cx} {η : Hp} {d : Nat} {hd : Bool} {Q : V → Hp → Prop} {X : Addr → Hp → Prop} {v : V}

theorem c_common (W : Wl c) {a b : Int} (ha : 0 ≤ a) (hb : 0 ≤ b) (q : Q (.int (Int.gcd a b)) η) : SC c (d + 1) true (.ref p_common) [.int a, .int b] η Q X := by
  ((refine SC.def2 (by assumption) (by rfl) (by kernel_rfl) (by kernel_rfl) (by rfl) (by rfl) ?_; dsimp only [initσ]))
  refine SS.while ⟨b.toNat + 1, ?_⟩
  generalize hn : b.toNat = n
  replace hn : b.toNat ≤ n := by omega
  induction n generalizing a b with
  | zero =>
    have h0 : b = 0 := by omega
    subst h0
    unfold WhileN
    (repeat (first | walk_at "m.one" | with_reducible (first | refine SS.if ?_ | refine SS.while ?_ | refine ST.not ?_ | refine ST.boolop ?_ | (show ite _ _ _; first | refine iteT ?_ | refine iteF ?_ | refine iteNT ?_ | refine iteNF ?_))))
    simp only [bne_self_eq_false, Bool.false_eq_true, if_false]
    (repeat (first | walk_at "m.one" | with_reducible (first | refine SS.if ?_ | refine SS.while ?_ | refine ST.not ?_ | refine ST.boolop ?_ | (show ite _ _ _; first | refine iteT ?_ | refine iteF ?_ | refine iteNT ?_ | refine iteNF ?_))))
    simpa [Int.natAbs_of_nonneg ha] using q
  | succ n ih =>
    unfold WhileN
    (repeat (first | walk_at "m.one" | with_reducible (first | refine SS.if ?_ | refine SS.while ?_ | refine ST.not ?_ | refine ST.boolop ?_ | (show ite _ _ _; first | refine iteT ?_ | refine iteF ?_ | refine iteNT ?_ | refine iteNF ?_))))
    by_cases h0 : b = 0
    · subst h0
      simp only [bne_self_eq_false, Bool.false_eq_true, if_false]
      (repeat (first | walk_at "m.one" | with_reducible (first | refine SS.if ?_ | refine SS.while ?_ | refine ST.not ?_ | refine ST.boolop ?_ | (show ite _ _ _; first | refine iteT ?_ | refine iteF ?_ | refine iteNT ?_ | refine iteNF ?_))))
      simpa [Int.natAbs_of_nonneg ha] using q
    · simp only [bne_iff_ne, ne_eq, h0, not_false_eq_true, if_true]
      refine SS.swap (by (with_reducible (repeat (first | exact List.mem_cons_self | apply List.mem_cons_of_mem)))) (by (with_reducible (repeat (first | exact List.mem_cons_self | apply List.mem_cons_of_mem)))) (by decide +kernel) ?_
      (repeat (first | walk_at "m.one" | with_reducible (first | refine SS.if ?_ | refine SS.while ?_ | refine ST.not ?_ | refine ST.boolop ?_ | (show ite _ _ _; first | refine iteT ?_ | refine iteF ?_ | refine iteNT ?_ | refine iteNF ?_))))
      refine S2.modI h0 ?_
      refine ⟨_, _, by (with_reducible (repeat (first | exact Put.loc | exact Put.cell | apply Put.tail))), by (with_reducible (repeat (first | exact Put.loc | exact Put.cell | apply Put.tail))), ?_⟩
      (repeat (first | walk_at "m.one" | with_reducible (first | refine SS.if ?_ | refine SS.while ?_ | refine ST.not ?_ | refine ST.boolop ?_ | (show ite _ _ _; first | refine iteT ?_ | refine iteF ?_ | refine iteNT ?_ | refine iteNF ?_))))
      have hb' : 0 < b := by omega
      have e := Int.fmod_eq_emod_of_nonneg a (b := b) (by omega)
      have l1 := Int.emod_nonneg a h0
      have l2 := Int.emod_lt_of_pos a hb'
      exact ih hb (by omega) (by rw [gcd_step a b hb']; exact q) (by omega)

theorem fmod_range (a : Int) {b : Int} (hb : 0 < b) : 0 ≤ a.fmod b ∧ a.fmod b < b := by
  rw [Int.fmod_eq_emod_of_nonneg _ (by omega)]; exact ⟨Int.emod_nonneg _ (by omega), Int.emod_lt_of_pos _ hb⟩

theorem c_is_whole (W : Wl c) {a b : Bool} (h1 : isiT "int" v = some a) (h2 : isiT "bool" v = some b) (q : Q (.bool (a && !b)) η) : SC c (d + 1) hd (.ref p_is_whole) [v] η Q X := by
  ((refine SC.def2 (by assumption) (by rfl) (by kernel_rfl) (by kernel_rfl) (by rfl) (by rfl) ?_; dsimp only [initσ]))
  (repeat (first | walk_at "m.one" | with_reducible (first | refine SS.if ?_ | refine SS.while ?_ | refine ST.not ?_ | refine ST.boolop ?_ | (show ite _ _ _; first | refine iteT ?_ | refine iteF ?_ | refine iteNT ?_ | refine iteNF ?_))))
  refine SC.isi h1 ?_
  (repeat (first | walk_at "m.one" | with_reducible (first | refine SS.if ?_ | refine SS.while ?_ | refine ST.not ?_ | refine ST.boolop ?_ | (show ite _ _ _; first | refine iteT ?_ | refine iteF ?_ | refine iteNT ?_ | refine iteNF ?_))))
  cases a with
  | false => exact q
  | true =>
    simp only [if_true]
    (repeat (first | walk_at "m.one" | with_reducible (first | refine SS.if ?_ | refine SS.while ?_ | refine ST.not ?_ | refine ST.boolop ?_ | (show ite _ _ _; first | refine iteT ?_ | refine iteF ?_ | refine iteNT ?_ | refine iteNF ?_))))
    refine SC.isi h2 ?_
    (repeat (first | walk_at "m.one" | with_reducible (first | refine SS.if ?_ | refine SS.while ?_ | refine ST.not ?_ | refine ST.boolop ?_ | (show ite _ _ _; first | refine iteT ?_ | refine iteF ?_ | refine iteNT ?_ | refine iteNF ?_))))
    exact q

noncomputable def shareV : V → Bool
  | .tup [.int a, .int b] => decide (b ≥ 1) && ((Int.gcd a b : Int) == 1)
  | _ => false

noncomputable def okV (v : V) : Bool := (isiT "tuple" v).isSome && (isiT "int" v).isSome && (isiT "bool" v).isSome

noncomputable def okT : V → Bool
  | .tup vs => vs.all okV
  | v => okV v

theorem okV_whole {v : V} (h : okV v = true) : ∃ a b, isiT "int" v = some a ∧ isiT "bool" v = some b ∧ ((a && !b) = true → ∃ i, v = .int i) ∧ ((a && !b) = false → ∀ i, v ≠ .int i) := by
  cases v <;> first | (simp [okV, isiT] at h; done) | exact ⟨_, _, rfl, rfl, by simp, by simp⟩

theorem c_is_share (W : Wl c) (h : okT v = true) (q : Q (.bool (shareV v)) η) : SC c (d + 2) true (.ref p_is_share) [v] η Q X := by
  ((refine SC.def2 (by assumption) (by rfl) (by kernel_rfl) (by kernel_rfl) (by rfl) (by rfl) ?_; dsimp only [initσ]))
  by_cases ht : ∃ vs, v = .tup vs
  · obtain ⟨vs, rfl⟩ := ht
    (repeat (first | walk_at "m.one" | with_reducible (first | refine SS.if ?_ | refine SS.while ?_ | refine ST.not ?_ | refine ST.boolop ?_ | (show ite _ _ _; first | refine iteT ?_ | refine iteF ?_ | refine iteNT ?_ | refine iteNF ?_))))
    refine SC.isi (b := true) (by rfl) ?_
    (repeat (first | walk_at "m.one" | with_reducible (first | refine SS.if ?_ | refine SS.while ?_ | refine ST.not ?_ | refine ST.boolop ?_ | (show ite _ _ _; first | refine iteT ?_ | refine iteF ?_ | refine iteNT ?_ | refine iteNF ?_))))
    refine iteS (fun h2 => ?_) fun h2 => ?_
    · (repeat (first | walk_at "m.one" | with_reducible (first | refine SS.if ?_ | refine SS.while ?_ | refine ST.not ?_ | refine ST.boolop ?_ | (show ite _ _ _; first | refine iteT ?_ | refine iteF ?_ | refine iteNT ?_ | refine iteNF ?_))))
      have : shareV (.tup vs) = false := by
        unfold shareV; split
        · rename_i e; cases e; simp at h2
        · rfl
      rw [← this]; exact q
    · obtain ⟨x, y, rfl⟩ : ∃ x y, vs = [x, y] := by
        match vs, h2 with
        | [x, y], _ => exact ⟨x, y, rfl⟩
        | [], h2 => simp at h2
        | [x], h2 => simp at h2
        | _ :: _ :: _ :: _, h2 => simp at h2; omega
      have hx : okV x = true ∧ okV y = true := by simpa [okT] using h
      obtain ⟨a, b, e1, e2, e3, e4⟩ := okV_whole hx.1
      obtain ⟨a', b', f1, f2, f3, f4⟩ := okV_whole hx.2
      (repeat (first | walk_at "m.one" | with_reducible (first | refine SS.if ?_ | refine SS.while ?_ | refine ST.not ?_ | refine ST.boolop ?_ | (show ite _ _ _; first | refine iteT ?_ | refine iteF ?_ | refine iteNT ?_ | refine iteNF ?_))))
      refine c_is_whole W e1 e2 ?_
      (repeat (first | walk_at "m.one" | with_reducible (first | refine SS.if ?_ | refine SS.while ?_ | refine ST.not ?_ | refine ST.boolop ?_ | (show ite _ _ _; first | refine iteT ?_ | refine iteF ?_ | refine iteNT ?_ | refine iteNF ?_))))
      cases hw : (a && !b) with
      | false =>
        (repeat (first | walk_at "m.one" | with_reducible (first | refine SS.if ?_ | refine SS.while ?_ | refine ST.not ?_ | refine ST.boolop ?_ | (show ite _ _ _; first | refine iteT ?_ | refine iteF ?_ | refine iteNT ?_ | refine iteNF ?_))))
        have : shareV (.tup [x, y]) = false := by
          unfold shareV; split
          · rename_i e; cases e; exact absurd rfl (e4 hw _)
          · rfl
        rw [← this]; exact q
      | true =>
        obtain ⟨i, rfl⟩ := e3 hw
        (repeat (first | walk_at "m.one" | with_reducible (first | refine SS.if ?_ | refine SS.while ?_ | refine ST.not ?_ | refine ST.boolop ?_ | (show ite _ _ _; first | refine iteT ?_ | refine iteF ?_ | refine iteNT ?_ | refine iteNF ?_))))
        refine c_is_whole W f1 f2 ?_
        (repeat (first | walk_at "m.one" | with_reducible (first | refine SS.if ?_ | refine SS.while ?_ | refine ST.not ?_ | refine ST.boolop ?_ | (show ite _ _ _; first | refine iteT ?_ | refine iteF ?_ | refine iteNT ?_ | refine iteNF ?_))))
        cases hw' : (a' && !b') with
        | false =>
          (repeat (first | walk_at "m.one" | with_reducible (first | refine SS.if ?_ | refine SS.while ?_ | refine ST.not ?_ | refine ST.boolop ?_ | (show ite _ _ _; first | refine iteT ?_ | refine iteF ?_ | refine iteNT ?_ | refine iteNF ?_))))
          have : shareV (.tup [.int i, y]) = false := by
            unfold shareV; split
            · rename_i e; cases e; exact absurd rfl (f4 hw' _)
            · rfl
          rw [← this]; exact q
        | true =>
          obtain ⟨j, rfl⟩ := f3 hw'
          (repeat (first | walk_at "m.one" | with_reducible (first | refine SS.if ?_ | refine SS.while ?_ | refine ST.not ?_ | refine ST.boolop ?_ | (show ite _ _ _; first | refine iteT ?_ | refine iteF ?_ | refine iteNT ?_ | refine iteNF ?_))))
          have qq : shareV (.tup [.int i, .int j]) = (decide (j ≥ 1) && ((Int.gcd i j : Int) == 1)) := rfl
          rw [qq] at q
          refine iteS (fun h3 => ?_) fun h3 => ?_
          · (repeat (first | walk_at "m.one" | with_reducible (first | refine SS.if ?_ | refine SS.while ?_ | refine ST.not ?_ | refine ST.boolop ?_ | (show ite _ _ _; first | refine iteT ?_ | refine iteF ?_ | refine iteNT ?_ | refine iteNF ?_))))
            refine c_common W (by omega) (by simp at h3; omega) ?_
            (repeat (first | walk_at "m.one" | with_reducible (first | refine SS.if ?_ | refine SS.while ?_ | refine ST.not ?_ | refine ST.boolop ?_ | (show ite _ _ _; first | refine iteT ?_ | refine iteF ?_ | refine iteNT ?_ | refine iteNF ?_))))
            rw [h3] at q
            simpa [Int.gcd] using q
          · rw [h3] at q
            rw [h3]; simpa using q
  · have e : isiT "tuple" v = some false ∧ shareV v = false := by
      cases v <;> first | exact ⟨rfl, rfl⟩ | (exact absurd ⟨_, rfl⟩ ht) | (simp [okT, okV, isiT] at h; done)
    (repeat (first | walk_at "m.one" | with_reducible (first | refine SS.if ?_ | refine SS.while ?_ | refine ST.not ?_ | refine ST.boolop ?_ | (show ite _ _ _; first | refine iteT ?_ | refine iteF ?_ | refine iteNT ?_ | refine iteNF ?_))))
    refine SC.isi e.1 ?_
    (repeat (first | walk_at "m.one" | with_reducible (first | refine SS.if ?_ | refine SS.while ?_ | refine ST.not ?_ | refine ST.boolop ?_ | (show ite _ _ _; first | refine iteT ?_ | refine iteF ?_ | refine iteNT ?_ | refine iteNF ?_))))
    rw [← e.2]; exact q

/-- a row of shares -/
noncomputable def rowV (m : Nat) : V → Bool
  | .lst vs => decide (vs.length = m) && vs.all shareV
  | _ => false
noncomputable def okR : V → Bool
  | .lst vs => decide (vs.length ≤ 10000) && vs.all okT
  | v => isiT "list" v == some false
theorem c_shareP (W : Wl c) {t b : Int} (q0 : b = 0 → X p_Nought η) (q : b ≠ 0 → Q (shareOf t b) η) : SC c (d + 103) true (.ref p_share) [.int t, .int b] η Q X := by
  ((refine SC.def2 (by assumption) (by rfl) (by kernel_rfl) (by kernel_rfl) (by rfl) (by rfl) ?_; dsimp only [initσ]))
  (repeat (first | walk_at "m.one" | with_reducible (first | refine SS.if ?_ | refine SS.while ?_ | refine ST.not ?_ | refine ST.boolop ?_ | (show ite _ _ _; first | refine iteT ?_ | refine iteF ?_ | refine iteNT ?_ | refine iteNF ?_))))
  refine iteS (fun h => ?_) fun h => ?_
  · refine SS.raise W (by (with_reducible (repeat (first | exact List.mem_cons_self | apply List.mem_cons_of_mem)))) (by (with_reducible (repeat (first | exact List.mem_cons_self | apply List.mem_cons_of_mem)))) (by kernel_rfl) ?_
    (repeat (first | walk_at "m.one" | with_reducible (first | refine SS.if ?_ | refine SS.while ?_ | refine ST.not ?_ | refine ST.boolop ?_ | (show ite _ _ _; first | refine iteT ?_ | refine iteF ?_ | refine iteNT ?_ | refine iteNF ?_))))
    exact q0 (by simpa using h)
  · have hb : b ≠ 0 := by simpa using h
    (repeat (first | walk_at "m.one" | with_reducible (first | refine SS.if ?_ | refine SS.while ?_ | refine ST.not ?_ | refine ST.boolop ?_ | (show ite _ _ _; first | refine iteT ?_ | refine iteF ?_ | refine iteNT ?_ | refine iteNF ?_))))
    refine c_common W (by omega) (by omega) ?_
    have e : Int.gcd (t.natAbs : Int) (b.natAbs : Int) = Int.gcd t b := by simp [Int.gcd]
    rw [e]
    (repeat (first | walk_at "m.one" | with_reducible (first | refine SS.if ?_ | refine SS.while ?_ | refine ST.not ?_ | refine ST.boolop ?_ | (show ite _ _ _; first | refine iteT ?_ | refine iteF ?_ | refine iteNT ?_ | refine iteNF ?_))))
    refine iteS (fun h => ?_) fun h => ?_
    · (repeat (first | walk_at "m.one" | with_reducible (first | refine SS.if ?_ | refine SS.while ?_ | refine ST.not ?_ | refine ST.boolop ?_ | (show ite _ _ _; first | refine iteT ?_ | refine iteF ?_ | refine iteNT ?_ | refine iteNF ?_))))
      have eg : 0 - (Int.gcd t b : Int) = byOf t b := by unfold byOf; rw [if_pos (by simpa using h)]
      rw [eg]
      refine S2.divP (byOf_ne hb) (by omega) ?_
      (repeat (first | walk_at "m.one" | with_reducible (first | refine SS.if ?_ | refine SS.while ?_ | refine ST.not ?_ | refine ST.boolop ?_ | (show ite _ _ _; first | refine iteT ?_ | refine iteF ?_ | refine iteNT ?_ | refine iteNF ?_))))
      refine S2.divP (byOf_ne hb) (by omega) ?_
      (repeat (first | walk_at "m.one" | with_reducible (first | refine SS.if ?_ | refine SS.while ?_ | refine ST.not ?_ | refine ST.boolop ?_ | (show ite _ _ _; first | refine iteT ?_ | refine iteF ?_ | refine iteNT ?_ | refine iteNF ?_))))
      exact q hb
    · (repeat (first | walk_at "m.one" | with_reducible (first | refine SS.if ?_ | refine SS.while ?_ | refine ST.not ?_ | refine ST.boolop ?_ | (show ite _ _ _; first | refine iteT ?_ | refine iteF ?_ | refine iteNT ?_ | refine iteNF ?_))))
      have eg : (Int.gcd t b : Int) = byOf t b := by unfold byOf; rw [if_neg (by simpa using h)]
      rw [eg]
      refine S2.divP (byOf_ne hb) (by omega) ?_
      (repeat (first | walk_at "m.one" | with_reducible (first | refine SS.if ?_ | refine SS.while ?_ | refine ST.not ?_ | refine ST.boolop ?_ | (show ite _ _ _; first | refine iteT ?_ | refine iteF ?_ | refine iteNT ?_ | refine iteNF ?_))))
      refine S2.divP (byOf_ne hb) (by omega) ?_
      (repeat (first | walk_at "m.one" | with_reducible (first | refine SS.if ?_ | refine SS.while ?_ | refine ST.not ?_ | refine ST.boolop ?_ | (show ite _ _ _; first | refine iteT ?_ | refine iteF ?_ | refine iteNT ?_ | refine iteNF ?_))))
      exact q hb
theorem bzN {k : Nat} {x : Rat} (h : Bz k x) : x.num.natAbs ≤ 2 ^ k := h.1
theorem bzD {k : Nat} {x : Rat} (h : Bz k x) : ((x.den : Int)).natAbs ≤ 2 ^ k := by simpa using h.2
theorem c_plusR (W : Wl c) {x y : Rat} {k : Nat} (hx : Bz k x) (hy : Bz k y) (hk : k ≤ 2 ^ 25) (q : Q (rS (x + y)) η) : SC c (d + 104) true (.ref p_plus) [rS x, rS y] η Q X := by
  unfold rS
  ((refine SC.def2 (by assumption) (by rfl) (by kernel_rfl) (by kernel_rfl) (by rfl) (by rfl) ?_; dsimp only [initσ]))
  (repeat walk_at "m.one")
  refine S2.mulI (mulBig (bzN hx) (bzD hy) hk) ?_
  (repeat walk_at "m.one")
  refine S2.mulI (mulBig (bzN hy) (bzD hx) hk) ?_
  (repeat walk_at "m.one")
  refine S2.mulI (mulBig (bzD hx) (bzD hy) hk) ?_
  (repeat walk_at "m.one")
  refine c_shareP W (fun h => absurd h (Int.mul_ne_zero (den_pos' x) (den_pos' y))) fun h => ?_
  rw [shareOf_rat h, ← add_eq]; exact q
theorem c_lessR (W : Wl c) {x y : Rat} {k : Nat} (hx : Bz k x) (hy : Bz k y) (hk : k ≤ 2 ^ 25) (q : Q (rS (x - y)) η) : SC c (d + 104) true (.ref p_less) [rS x, rS y] η Q X := by
  unfold rS
  ((refine SC.def2 (by assumption) (by rfl) (by kernel_rfl) (by kernel_rfl) (by rfl) (by rfl) ?_; dsimp only [initσ]))
  (repeat walk_at "m.one")
  refine S2.mulI (mulBig (bzN hx) (bzD hy) hk) ?_
  (repeat walk_at "m.one")
  refine S2.mulI (mulBig (bzN hy) (bzD hx) hk) ?_
  (repeat walk_at "m.one")
  refine S2.mulI (mulBig (bzD hx) (bzD hy) hk) ?_
  (repeat walk_at "m.one")
  refine c_shareP W (fun h => absurd h (Int.mul_ne_zero (den_pos' x) (den_pos' y))) fun h => ?_
  rw [shareOf_rat h, ← sub_eq]; exact q
theorem c_timesR (W : Wl c) {x y : Rat} {k : Nat} (hx : Bz k x) (hy : Bz k y) (hk : k ≤ 2 ^ 25) (q : Q (rS (x * y)) η) : SC c (d + 104) true (.ref p_times) [rS x, rS y] η Q X := by
  unfold rS
  ((refine SC.def2 (by assumption) (by rfl) (by kernel_rfl) (by kernel_rfl) (by rfl) (by rfl) ?_; dsimp only [initσ]))
  (repeat walk_at "m.one")
  refine S2.mulI (mulBig (bzN hx) (bzN hy) hk) ?_
  (repeat walk_at "m.one")
  refine S2.mulI (mulBig (bzD hx) (bzD hy) hk) ?_
  (repeat walk_at "m.one")
  refine c_shareP W (fun h => absurd h (Int.mul_ne_zero (den_pos' x) (den_pos' y))) fun h => ?_
  rw [shareOf_rat h, ← mul_eq]; exact q
theorem c_overR (W : Wl c) {x y : Rat} {k : Nat} (hx : Bz k x) (hy : Bz k y) (y0 : y ≠ 0) (hk : k ≤ 2 ^ 25) (q : Q (rS (x / y)) η) : SC c (d + 104) true (.ref p_over) [rS x, rS y] η Q X := by
  unfold rS
  ((refine SC.def2 (by assumption) (by rfl) (by kernel_rfl) (by kernel_rfl) (by rfl) (by rfl) ?_; dsimp only [initσ]))
  (repeat walk_at "m.one")
  refine S2.mulI (mulBig (bzN hx) (bzD hy) hk) ?_
  (repeat walk_at "m.one")
  refine S2.mulI (mulBig (bzD hx) (bzN hy) hk) ?_
  (repeat walk_at "m.one")
  refine c_shareP W (fun h => absurd h (Int.mul_ne_zero (den_pos' x) (num_ne y0))) fun h => ?_
  rw [shareOf_rat h, ← div_eq x y0]; exact q

theorem c_l_cell_at (W : Wl c) {ns : List Int} {k : Int} (hk : 0 ≤ k) (q : Q (.int (ns.getD k.toNat 0)) η) : SC c (d + 1) hd (.ref l_cell_at) [.lst (ns.map V.int), .int k] η Q X := by
  ((refine SC.def2 (by assumption) (by rfl) (by kernel_rfl) (by kernel_rfl) (by rfl) (by rfl) ?_; dsimp only [initσ]))
  (repeat (first | walk_at "m.one" | with_reducible (first | refine SS.if ?_ | refine SS.while ?_ | refine ST.not ?_ | refine ST.boolop ?_ | (show ite _ _ _; first | refine iteT ?_ | refine iteF ?_ | refine iteNT ?_ | refine iteNF ?_))))
  refine iteS (fun h => ?_) fun h => ?_
  · have h' : k.toNat < ns.length := by simp at h; omega
    (repeat (first | walk_at "m.one" | with_reducible (first | refine SS.if ?_ | refine SS.while ?_ | refine ST.not ?_ | refine ST.boolop ?_ | (show ite _ _ _; first | refine iteT ?_ | refine iteF ?_ | refine iteNT ?_ | refine iteNF ?_))))
    refine S2.itemI_lst hk (u := .int (ns.getD k.toNat 0)) (by simp [h']) ?_
    exact q
  · (repeat (first | walk_at "m.one" | with_reducible (first | refine SS.if ?_ | refine SS.while ?_ | refine ST.not ?_ | refine ST.boolop ?_ | (show ite _ _ _; first | refine iteT ?_ | refine iteF ?_ | refine iteNT ?_ | refine iteNF ?_))))
    have h' : ns.length ≤ k.toNat := by simp at h; omega
    simpa [h'] using q

theorem c_l_whole (W : Wl c) {a b : Bool} (h1 : isiT "int" v = some a) (h2 : isiT "bool" v = some b) (q : Q (.bool (a && !b)) η) : SC c (d + 1) hd (.ref l_whole) [v] η Q X := by
  ((refine SC.def2 (by assumption) (by rfl) (by kernel_rfl) (by kernel_rfl) (by rfl) (by rfl) ?_; dsimp only [initσ]))
  (repeat (first | walk_at "m.one" | with_reducible (first | refine SS.if ?_ | refine SS.while ?_ | refine ST.not ?_ | refine ST.boolop ?_ | (show ite _ _ _; first | refine iteT ?_ | refine iteF ?_ | refine iteNT ?_ | refine iteNF ?_))))
  refine SC.isi h1 ?_
  (repeat (first | walk_at "m.one" | with_reducible (first | refine SS.if ?_ | refine SS.while ?_ | refine ST.not ?_ | refine ST.boolop ?_ | (show ite _ _ _; first | refine iteT ?_ | refine iteF ?_ | refine iteNT ?_ | refine iteNF ?_))))
  cases a with
  | false => exact q
  | true =>
    (repeat (first | walk_at "m.one" | with_reducible (first | refine SS.if ?_ | refine SS.while ?_ | refine ST.not ?_ | refine ST.boolop ?_ | (show ite _ _ _; first | refine iteT ?_ | refine iteF ?_ | refine iteNT ?_ | refine iteNF ?_))))
    refine SC.isi h2 ?_
    (repeat (first | walk_at "m.one" | with_reducible (first | refine SS.if ?_ | refine SS.while ?_ | refine ST.not ?_ | refine ST.boolop ?_ | (show ite _ _ _; first | refine iteT ?_ | refine iteF ?_ | refine iteNT ?_ | refine iteNF ?_))))
    exact q

theorem c_l_common (W : Wl c) {a b : Int} (ha : 0 ≤ a) (hb : 0 ≤ b) (q : Q (.int (Int.gcd a b)) η) : SC c (d + 1) true (.ref l_common) [.int a, .int b] η Q X := by
  ((refine SC.def2 (by assumption) (by rfl) (by kernel_rfl) (by kernel_rfl) (by rfl) (by rfl) ?_; dsimp only [initσ]))
  refine SS.while ⟨b.toNat + 1, ?_⟩
  generalize hn : b.toNat = n
  replace hn : b.toNat ≤ n := by omega
  induction n generalizing a b with
  | zero =>
    have h0 : b = 0 := by omega
    subst h0
    unfold WhileN
    (repeat (first | walk_at "m.one" | with_reducible (first | refine SS.if ?_ | refine SS.while ?_ | refine ST.not ?_ | refine ST.boolop ?_ | (show ite _ _ _; first | refine iteT ?_ | refine iteF ?_ | refine iteNT ?_ | refine iteNF ?_))))
    refine iteS (fun h => ?_) fun h => ?_
    · simp at h
    · (repeat (first | walk_at "m.one" | with_reducible (first | refine SS.if ?_ | refine SS.while ?_ | refine ST.not ?_ | refine ST.boolop ?_ | (show ite _ _ _; first | refine iteT ?_ | refine iteF ?_ | refine iteNT ?_ | refine iteNF ?_))))
      simpa [Int.natAbs_of_nonneg ha] using q
  | succ n ih =>
    unfold WhileN
    (repeat (first | walk_at "m.one" | with_reducible (first | refine SS.if ?_ | refine SS.while ?_ | refine ST.not ?_ | refine ST.boolop ?_ | (show ite _ _ _; first | refine iteT ?_ | refine iteF ?_ | refine iteNT ?_ | refine iteNF ?_))))
    refine iteS (fun h => ?_) fun h => ?_
    · have hb' : 0 < b := by simpa using h
      refine SS.swap (by (with_reducible (repeat (first | exact List.mem_cons_self | apply List.mem_cons_of_mem)))) (by (with_reducible (repeat (first | exact List.mem_cons_self | apply List.mem_cons_of_mem)))) (by decide +kernel) ?_
      (repeat (first | walk_at "m.one" | with_reducible (first | refine SS.if ?_ | refine SS.while ?_ | refine ST.not ?_ | refine ST.boolop ?_ | (show ite _ _ _; first | refine iteT ?_ | refine iteF ?_ | refine iteNT ?_ | refine iteNF ?_))))
      refine S2.modI (by omega) ?_
      refine ⟨_, _, by (with_reducible (repeat (first | exact Put.loc | exact Put.cell | apply Put.tail))), by (with_reducible (repeat (first | exact Put.loc | exact Put.cell | apply Put.tail))), ?_⟩
      (repeat (first | walk_at "m.one" | with_reducible (first | refine SS.if ?_ | refine SS.while ?_ | refine ST.not ?_ | refine ST.boolop ?_ | (show ite _ _ _; first | refine iteT ?_ | refine iteF ?_ | refine iteNT ?_ | refine iteNF ?_))))
      have e := Int.fmod_eq_emod_of_nonneg a (b := b) (by omega)
      have l1 := Int.emod_nonneg a (b := b) (by omega)
      have l2 := Int.emod_lt_of_pos a hb'
      exact ih hb (by omega) (by rw [gcd_step a b hb']; exact q) (by omega)
    · have h0 : b = 0 := by simp at h; omega
      subst h0
      (repeat (first | walk_at "m.one" | with_reducible (first | refine SS.if ?_ | refine SS.while ?_ | refine ST.not ?_ | refine ST.boolop ?_ | (show ite _ _ _; first | refine iteT ?_ | refine iteF ?_ | refine iteNT ?_ | refine iteNF ?_))))
      simpa [Int.natAbs_of_nonneg ha] using q

theorem shareOf_pos {t b : Int} (h : 0 < b) : byOf t b = Int.gcd t b := by unfold byOf; rw [if_neg (by omega)]
theorem c_l_shareP (W : Wl c) {t b : Int} (hb : 0 < b) (q : Q (rS ((t : Rat) / (b : Rat))) η) : SC c (d + 103) true (.ref l_share) [.int t, .int b] η Q X := by
  have b0 : b ≠ 0 := by omega
  rw [← shareOf_rat b0] at q
  ((refine SC.def2 (by assumption) (by rfl) (by kernel_rfl) (by kernel_rfl) (by rfl) (by rfl) ?_; dsimp only [initσ]))
  (repeat (first | walk_at "m.one" | with_reducible (first | refine SS.if ?_ | refine SS.while ?_ | refine ST.not ?_ | refine ST.boolop ?_ | (show ite _ _ _; first | refine iteT ?_ | refine iteF ?_ | refine iteNT ?_ | refine iteNF ?_))))
  refine c_l_common W (by omega) (by omega) ?_
  have e : Int.gcd (t.natAbs : Int) b = Int.gcd t b := by simp [Int.gcd]
  rw [e, ← shareOf_pos hb]
  (repeat (first | walk_at "m.one" | with_reducible (first | refine SS.if ?_ | refine SS.while ?_ | refine ST.not ?_ | refine ST.boolop ?_ | (show ite _ _ _; first | refine iteT ?_ | refine iteF ?_ | refine iteNT ?_ | refine iteNF ?_))))
  refine S2.divP (byOf_ne b0) (by omega) ?_
  (repeat (first | walk_at "m.one" | with_reducible (first | refine SS.if ?_ | refine SS.while ?_ | refine ST.not ?_ | refine ST.boolop ?_ | (show ite _ _ _; first | refine iteT ?_ | refine iteF ?_ | refine iteNT ?_ | refine iteNF ?_))))
  refine S2.divP (byOf_ne b0) (by omega) ?_
  (repeat (first | walk_at "m.one" | with_reducible (first | refine SS.if ?_ | refine SS.while ?_ | refine ST.not ?_ | refine ST.boolop ?_ | (show ite _ _ _; first | refine iteT ?_ | refine iteF ?_ | refine iteNT ?_ | refine iteNF ?_))))
  exact q
theorem c_l_plusR (W : Wl c) {x y : Rat} {k : Nat} (hx : Bz k x) (hy : Bz k y) (hk : k ≤ 2 ^ 25) (q : Q (rS (x + y)) η) : SC c (d + 104) true (.ref l_plus) [rS x, rS y] η Q X := by
  have h1 := den_pos' x
  have h2 := den_pos' y
  rw [add_eq] at q
  unfold rS
  ((refine SC.def2 (by assumption) (by rfl) (by kernel_rfl) (by kernel_rfl) (by rfl) (by rfl) ?_; dsimp only [initσ]))
  (repeat walk_at "m.one")
  refine S2.mulI (mulBig (bzN hx) (bzD hy) hk) ?_
  (repeat walk_at "m.one")
  refine S2.mulI (mulBig (bzN hy) (bzD hx) hk) ?_
  (repeat walk_at "m.one")
  refine S2.mulI (mulBig (bzD hx) (bzD hy) hk) ?_
  (repeat walk_at "m.one")
  exact c_l_shareP W (Int.mul_pos (by omega) (by omega)) q
theorem c_l_timesR (W : Wl c) {x y : Rat} {k : Nat} (hx : Bz k x) (hy : Bz k y) (hk : k ≤ 2 ^ 25) (q : Q (rS (x * y)) η) : SC c (d + 104) true (.ref l_times) [rS x, rS y] η Q X := by
  have h1 := den_pos' x
  have h2 := den_pos' y
  rw [mul_eq] at q
  unfold rS
  ((refine SC.def2 (by assumption) (by rfl) (by kernel_rfl) (by kernel_rfl) (by rfl) (by rfl) ?_; dsimp only [initσ]))
  (repeat walk_at "m.one")
  refine S2.mulI (mulBig (bzN hx) (bzN hy) hk) ?_
  (repeat walk_at "m.one")
  refine S2.mulI (mulBig (bzD hx) (bzD hy) hk) ?_
  (repeat walk_at "m.one")
  exact c_l_shareP W (Int.mul_pos (by omega) (by omega)) q
theorem eqv_self2 (p r : Int) : PyData.eqv (.tuple [.int p, .int r]) (.tuple [.int p, .int r]) = true := by simp [PyData.eqv, PyData.eqvAll]
theorem shaped2 (p r : Int) : PySem.SeqAt.shaped (.tuple [.int p, .int r]) = true := by simp [PySem.SeqAt.shaped, PyData.canLay0, PyData.canLayAll0, PyData.depth, PyData.depthAll]
theorem c_l_is (W : Wl c) {p r : Int} (q : Q (.bool true) η) : SC c (d + 2) true (.ref l_is) [.tup [.int p, .int r], .tup [.int p, .int r]] η Q X := by
  ((refine SC.def2 (by assumption) (by rfl) (by kernel_rfl) (by kernel_rfl) (by rfl) (by rfl) ?_; dsimp only [initσ]))
  (repeat (first | walk_at "m.one" | with_reducible (first | refine SS.if ?_ | refine SS.while ?_ | refine ST.not ?_ | refine ST.boolop ?_ | (show ite _ _ _; first | refine iteT ?_ | refine iteF ?_ | refine iteNT ?_ | refine iteNF ?_))))
  refine SC.isi (b := true) (by rfl) ?_
  (repeat (first | walk_at "m.one" | with_reducible (first | refine SS.if ?_ | refine SS.while ?_ | refine ST.not ?_ | refine ST.boolop ?_ | (show ite _ _ _; first | refine iteT ?_ | refine iteF ?_ | refine iteNT ?_ | refine iteNF ?_))))
  refine iteS (fun h => by simp at h) fun _ => ?_
  (repeat (first | walk_at "m.one" | with_reducible (first | refine SS.if ?_ | refine SS.while ?_ | refine ST.not ?_ | refine ST.boolop ?_ | (show ite _ _ _; first | refine iteT ?_ | refine iteF ?_ | refine iteNT ?_ | refine iteNF ?_))))
  refine c_l_whole W (a := true) (b := false) (by rfl) (by rfl) ?_
  (repeat (first | walk_at "m.one" | with_reducible (first | refine SS.if ?_ | refine SS.while ?_ | refine ST.not ?_ | refine ST.boolop ?_ | (show ite _ _ _; first | refine iteT ?_ | refine iteF ?_ | refine iteNT ?_ | refine iteNF ?_))))
  refine iteS (fun h => by simp at h) fun _ => ?_
  (repeat (first | walk_at "m.one" | with_reducible (first | refine SS.if ?_ | refine SS.while ?_ | refine ST.not ?_ | refine ST.boolop ?_ | (show ite _ _ _; first | refine iteT ?_ | refine iteF ?_ | refine iteNT ?_ | refine iteNF ?_))))
  refine c_l_whole W (a := true) (b := false) (by rfl) (by rfl) ?_
  (repeat (first | walk_at "m.one" | with_reducible (first | refine SS.if ?_ | refine SS.while ?_ | refine ST.not ?_ | refine ST.boolop ?_ | (show ite _ _ _; first | refine iteT ?_ | refine iteF ?_ | refine iteNT ?_ | refine iteNF ?_))))
  refine iteS (fun h => by simp at h) fun _ => ?_
  (repeat (first | walk_at "m.one" | with_reducible (first | refine SS.if ?_ | refine SS.while ?_ | refine ST.not ?_ | refine ST.boolop ?_ | (show ite _ _ _; first | refine iteT ?_ | refine iteF ?_ | refine iteNT ?_ | refine iteNF ?_))))
  refine S2.eqD (a := .tuple [.int p, .int r]) (b := .tuple [.int p, .int r]) (.tup (.cons .int (.cons .int .nil))) (.tup (.cons .int (.cons .int .nil))) (shaped2 p r) (shaped2 p r) ?_
  rw [eqv_self2]
  exact q

theorem c_l_word_of_NoRow (W : Wl c) (q : Q (.tup [.str "refused", .str "row"]) η) : SC c (d + 1) hd (.ref l_word_of) [.exc p_NoRow] η Q X := by
  ((refine SC.def2 (by assumption) (by rfl) (by kernel_rfl) (by kernel_rfl) (by rfl) (by rfl) ?_; dsimp only [initσ]))
  (repeat (first | walk_at "m.one" | with_reducible (first | refine SS.if ?_ | refine SS.while ?_ | refine ST.not ?_ | refine ST.boolop ?_ | (show ite _ _ _; first | refine iteT ?_ | refine iteF ?_ | refine iteNT ?_ | refine iteNF ?_))))
  refine SC.isi_exc W (b := false) (by kernel_rfl) (by kernel_rfl) ?_; (repeat (first | walk_at "m.one" | with_reducible (first | refine SS.if ?_ | refine SS.while ?_ | refine ST.not ?_ | refine ST.boolop ?_ | (show ite _ _ _; first | refine iteT ?_ | refine iteF ?_ | refine iteNT ?_ | refine iteNF ?_)))); refine S2.mulB len_ok ?_; (repeat (first | walk_at "m.one" | with_reducible (first | refine SS.if ?_ | refine SS.while ?_ | refine ST.not ?_ | refine ST.boolop ?_ | (show ite _ _ _; first | refine iteT ?_ | refine iteF ?_ | refine iteNT ?_ | refine iteNF ?_))))
  refine SC.isi_exc W (b := false) (by kernel_rfl) (by kernel_rfl) ?_; (repeat (first | walk_at "m.one" | with_reducible (first | refine SS.if ?_ | refine SS.while ?_ | refine ST.not ?_ | refine ST.boolop ?_ | (show ite _ _ _; first | refine iteT ?_ | refine iteF ?_ | refine iteNT ?_ | refine iteNF ?_)))); refine S2.mulB len_ok ?_; (repeat (first | walk_at "m.one" | with_reducible (first | refine SS.if ?_ | refine SS.while ?_ | refine ST.not ?_ | refine ST.boolop ?_ | (show ite _ _ _; first | refine iteT ?_ | refine iteF ?_ | refine iteNT ?_ | refine iteNF ?_))))
  refine S2.addL len_ok ?_; (repeat (first | walk_at "m.one" | with_reducible (first | refine SS.if ?_ | refine SS.while ?_ | refine ST.not ?_ | refine ST.boolop ?_ | (show ite _ _ _; first | refine iteT ?_ | refine iteF ?_ | refine iteNT ?_ | refine iteNF ?_))))
  refine SC.isi_exc W (b := true) (by kernel_rfl) (by kernel_rfl) ?_; (repeat (first | walk_at "m.one" | with_reducible (first | refine SS.if ?_ | refine SS.while ?_ | refine ST.not ?_ | refine ST.boolop ?_ | (show ite _ _ _; first | refine iteT ?_ | refine iteF ?_ | refine iteNT ?_ | refine iteNF ?_)))); refine S2.mulB len_ok ?_; (repeat (first | walk_at "m.one" | with_reducible (first | refine SS.if ?_ | refine SS.while ?_ | refine ST.not ?_ | refine ST.boolop ?_ | (show ite _ _ _; first | refine iteT ?_ | refine iteF ?_ | refine iteNT ?_ | refine iteNF ?_))))
  refine S2.addL len_ok ?_; (repeat (first | walk_at "m.one" | with_reducible (first | refine SS.if ?_ | refine SS.while ?_ | refine ST.not ?_ | refine ST.boolop ?_ | (show ite _ _ _; first | refine iteT ?_ | refine iteF ?_ | refine iteNT ?_ | refine iteNF ?_))))
  refine SC.isi_exc W (b := false) (by kernel_rfl) (by kernel_rfl) ?_; (repeat (first | walk_at "m.one" | with_reducible (first | refine SS.if ?_ | refine SS.while ?_ | refine ST.not ?_ | refine ST.boolop ?_ | (show ite _ _ _; first | refine iteT ?_ | refine iteF ?_ | refine iteNT ?_ | refine iteNF ?_)))); refine S2.mulB len_ok ?_; (repeat (first | walk_at "m.one" | with_reducible (first | refine SS.if ?_ | refine SS.while ?_ | refine ST.not ?_ | refine ST.boolop ?_ | (show ite _ _ _; first | refine iteT ?_ | refine iteF ?_ | refine iteNT ?_ | refine iteNF ?_))))
  refine S2.addL len_ok ?_; (repeat (first | walk_at "m.one" | with_reducible (first | refine SS.if ?_ | refine SS.while ?_ | refine ST.not ?_ | refine ST.boolop ?_ | (show ite _ _ _; first | refine iteT ?_ | refine iteF ?_ | refine iteNT ?_ | refine iteNF ?_))))
  refine SC.isi_exc W (b := false) (by kernel_rfl) (by kernel_rfl) ?_; (repeat (first | walk_at "m.one" | with_reducible (first | refine SS.if ?_ | refine SS.while ?_ | refine ST.not ?_ | refine ST.boolop ?_ | (show ite _ _ _; first | refine iteT ?_ | refine iteF ?_ | refine iteNT ?_ | refine iteNF ?_)))); refine S2.mulB len_ok ?_; (repeat (first | walk_at "m.one" | with_reducible (first | refine SS.if ?_ | refine SS.while ?_ | refine ST.not ?_ | refine ST.boolop ?_ | (show ite _ _ _; first | refine iteT ?_ | refine iteF ?_ | refine iteNT ?_ | refine iteNF ?_))))
  refine S2.addL len_ok ?_; (repeat (first | walk_at "m.one" | with_reducible (first | refine SS.if ?_ | refine SS.while ?_ | refine ST.not ?_ | refine ST.boolop ?_ | (show ite _ _ _; first | refine iteT ?_ | refine iteF ?_ | refine iteNT ?_ | refine iteNF ?_))))
  refine SC.isi_exc W (b := false) (by kernel_rfl) (by kernel_rfl) ?_; (repeat (first | walk_at "m.one" | with_reducible (first | refine SS.if ?_ | refine SS.while ?_ | refine ST.not ?_ | refine ST.boolop ?_ | (show ite _ _ _; first | refine iteT ?_ | refine iteF ?_ | refine iteNT ?_ | refine iteNF ?_)))); refine S2.mulB len_ok ?_; (repeat (first | walk_at "m.one" | with_reducible (first | refine SS.if ?_ | refine SS.while ?_ | refine ST.not ?_ | refine ST.boolop ?_ | (show ite _ _ _; first | refine iteT ?_ | refine iteF ?_ | refine iteNT ?_ | refine iteNF ?_))))
  refine S2.addL len_ok ?_; (repeat (first | walk_at "m.one" | with_reducible (first | refine SS.if ?_ | refine SS.while ?_ | refine ST.not ?_ | refine ST.boolop ?_ | (show ite _ _ _; first | refine iteT ?_ | refine iteF ?_ | refine iteNT ?_ | refine iteNF ?_))))
  refine SC.isi_exc W (b := false) (by kernel_rfl) (by kernel_rfl) ?_; (repeat (first | walk_at "m.one" | with_reducible (first | refine SS.if ?_ | refine SS.while ?_ | refine ST.not ?_ | refine ST.boolop ?_ | (show ite _ _ _; first | refine iteT ?_ | refine iteF ?_ | refine iteNT ?_ | refine iteNF ?_)))); refine S2.mulB len_ok ?_; (repeat (first | walk_at "m.one" | with_reducible (first | refine SS.if ?_ | refine SS.while ?_ | refine ST.not ?_ | refine ST.boolop ?_ | (show ite _ _ _; first | refine iteT ?_ | refine iteF ?_ | refine iteNT ?_ | refine iteNF ?_))))
  refine S2.addL len_ok ?_; (repeat (first | walk_at "m.one" | with_reducible (first | refine SS.if ?_ | refine SS.while ?_ | refine ST.not ?_ | refine ST.boolop ?_ | (show ite _ _ _; first | refine iteT ?_ | refine iteF ?_ | refine iteNT ?_ | refine iteNF ?_))))
  refine SC.isi_exc W (b := true) (by kernel_rfl) (by kernel_rfl) ?_; (repeat (first | walk_at "m.one" | with_reducible (first | refine SS.if ?_ | refine SS.while ?_ | refine ST.not ?_ | refine ST.boolop ?_ | (show ite _ _ _; first | refine iteT ?_ | refine iteF ?_ | refine iteNT ?_ | refine iteNF ?_)))); refine S2.mulB len_ok ?_; (repeat (first | walk_at "m.one" | with_reducible (first | refine SS.if ?_ | refine SS.while ?_ | refine ST.not ?_ | refine ST.boolop ?_ | (show ite _ _ _; first | refine iteT ?_ | refine iteF ?_ | refine iteNT ?_ | refine iteNF ?_))))
  refine S2.addL len_ok ?_; (repeat (first | walk_at "m.one" | with_reducible (first | refine SS.if ?_ | refine SS.while ?_ | refine ST.not ?_ | refine ST.boolop ?_ | (show ite _ _ _; first | refine iteT ?_ | refine iteF ?_ | refine iteNT ?_ | refine iteNF ?_))))
  with_reducible refine SE.meth (SE.str ⟨_, Meth.join, Callee.bi, ?_⟩)
  (repeat (first | walk_at "m.one" | with_reducible (first | refine SS.if ?_ | refine SS.while ?_ | refine ST.not ?_ | refine ST.boolop ?_ | (show ite _ _ _; first | refine iteT ?_ | refine iteF ?_ | refine iteNT ?_ | refine iteNF ?_))))
  refine SC.join_of (ys := ["row"]) (by rfl) (by decide +kernel) ?_
  (repeat (first | walk_at "m.one" | with_reducible (first | refine SS.if ?_ | refine SS.while ?_ | refine ST.not ?_ | refine ST.boolop ?_ | (show ite _ _ _; first | refine iteT ?_ | refine iteF ?_ | refine iteNT ?_ | refine iteNF ?_))))
  exact q

theorem c_first_other (W : Wl c) {n : Nat} {f : Nat → Rat} (hn : n ≤ 100) (q0 : (∀ k, k < n → f k = 0) → Q .none η) (q1 : ∀ p, p < n → f p ≠ 0 → Q (.int (p : Nat)) η) : SC c (d + 1) true (.ref p_first_other) [.lst (rowR n f)] η Q X := by
  ((refine SC.def2 (by assumption) (by rfl) (by kernel_rfl) (by kernel_rfl) (by rfl) (by rfl) ?_; dsimp only [initσ]))
  refine SS.for ["place"] ?_
  (repeat walk_at "m.one")
  simp only [List.length_map, List.length_range]
  refine ⟨_, rng_ok (by omega), ?_⟩
  rw [rngL0]
  refine ForL.check (fun v => match v with | .int k => decide (f k.toNat = 0) | _ => true) [some (.lst (rowR n f)), none, none, none, none] (fun v hv => ?_) (fun h σ' l => SS.forget l ?_) (by simp [Less])
  · obtain ⟨k, hk, rfl⟩ := List.mem_map.mp hv
    have hk' := List.mem_range.mp hk
    refine SA.name (by (with_reducible (repeat (first | exact Put.loc | exact Put.cell | apply Put.tail)))) ?_
    refine SS.ifX (!decide (f k = 0)) ?_ (fun h => ?_) fun h => ?_
    · (repeat walk_at "m.one")
      refine S2.item_lst (k := k) (range_get _ hk') ?_
      (repeat walk_at "m.one")
      refine S2.neZ ?_
      (repeat walk_at "m.one")
      exact ⟨rfl, rfl⟩
    · (repeat walk_at "m.one")
      exact q1 k hk' (by simpa using h)
    · (repeat walk_at "m.one")
      exact ⟨by simpa using h, by simp [Less], rfl⟩
  · (repeat walk_at "m.one")
    exact q0 fun k hk => by
      have := h (.int (k : Nat)) (List.mem_map.mpr ⟨k, List.mem_range.mpr hk, rfl⟩)
      simpa using this
theorem c_longer (W : Wl c) {a m : Nat} {f : Nat → Rat} (hm : m ≤ 100) (ha : a ≤ m) (z : ∀ k, a ≤ k → f k = 0) (q : Q (.lst (rowR m f)) η) : SC c (d + 1) true (.ref p_longer) [.lst (rowR a f), .int (m : Nat)] η Q X := by
  have sl : sizeLine = 16777216 := by decide
  ((refine SC.def2 (by assumption) (by rfl) (by kernel_rfl) (by kernel_rfl) (by rfl) (by rfl) ?_; dsimp only [initσ]))
  (repeat walk_at "m.one")
  simp only [List.length_map, List.length_range]
  rw [show ((m : Nat) : Int) - ((a : Nat) : Int) = ((m - a : Nat) : Int) by omega]
  refine S2.mulL (by omega) (by omega) (by simp; omega) ?_
  refine S2.addL (by simp; omega) ?_
  rw [show (List.replicate (((m - a : Nat) : Int)).toNat [V.tup [.int 0, .int 1]]).flatten = List.replicate (m - a) (rS 0) by simp [rS_zero], row_pad ha z]
  exact q
noncomputable abbrev spanKs : List Str := [Str.ofString "size", Str.ofString "steps"]
noncomputable abbrev stepsV (n : Nat) (s : Sp) : List V := (List.range s.m).map fun i => V.tup [.int (s.P i : Nat), .lst (rowR n (s.S i)), .lst (rowR (i + 1) (s.H i))]
/-- a span in the heap -/
structure SpanAt (η : Hp) (a dd l : Addr) (n : Nat) (s : Sp) : Prop where
  ea : η a = some (.inst p_Span dd)
  ed : η dd = some (.idict spanKs [.int (n : Nat), .loc l])
  el : η l = some (.lst (stepsV n s))
theorem c_Span_init (W : Wl c) {a dd : Addr} {n : Nat} (ea : η a = some (.inst p_Span dd)) (ed : η dd = some (.idict [] []))
    (q : ∀ l, η l = none → Q .none (((η.set dd (.idict [Str.ofString "size"] [.int (n : Nat)])).set l (.lst [])).set dd (.idict spanKs [.int (n : Nat), .loc l]))) : SCc c (d + 1) true (.ref m_Span_init) [.loc a, .int (n : Nat)] η Q X := by
  have ne : a ≠ dd := fun e => by rw [e, ed] at ea; cases ea
  refine SCc.def2 W (by rfl) (by kernel_rfl) (by kernel_rfl) (by rfl) (by rfl) ?_
  dsimp only [initσ]
  refine SS.setattr W ?_
  (repeat walk_at "m.one")
  refine ⟨a, _, dd, _, _, rfl, ea, ed, by simp, by kernel_rfl, by simp, ?_⟩
  refine SS.setattr W ?_
  refine SE.lstM (SL.nil ⟨by decide, fun l nl => ?_⟩)
  (repeat walk_at "m.one")
  have hl : l ≠ dd := by rintro rfl; rw [Hp.set_self] at nl; cases nl
  have hla : a ≠ l := by rintro rfl; rw [Hp.set_ne _ _ ne, ea] at nl; cases nl
  refine ⟨a, _, dd, _, _, rfl, (Hp.set_ne _ _ hla).trans ((Hp.set_ne _ _ ne).trans ea), (Hp.set_ne _ _ (Ne.symm hl)).trans (Hp.set_self ..), by decide +kernel, by kernel_rfl, by simp, ?_⟩
  (repeat walk_at "m.one")
  exact q l (by rw [Hp.set_ne _ _ hl] at nl; exact nl)
theorem c_Span (W : Wl c) {n : Nat} (q : ∀ a dd l η', η a = none → η dd = none → η l = none → a ≠ dd → a ≠ l → dd ≠ l → SpanAt η' a dd l n .nil → Ext η η' → Q (.loc a) η') : SC c (d + 2) true (.ref p_Span) [.int (n : Nat)] η Q X := by
  refine SC.make W (fI := m_Span_init) (by kernel_rfl) (by kernel_rfl) (by kernel_rfl) fun a dd na nd ne => ?_
  have e1 : ((η.set dd (.idict [] [])).set a (.inst p_Span dd)) dd = some (.idict [] []) := (Hp.set_ne _ _ (Ne.symm ne)).trans (Hp.set_self ..)
  refine c_Span_init W (dd := dd) (Hp.set_self ..) e1 fun l nl => ⟨rfl, ?_⟩
  have la : l ≠ a := by rintro rfl; rw [Hp.set_self] at nl; cases nl
  have ld : l ≠ dd := by rintro rfl; rw [Hp.set_ne _ _ la, Hp.set_self] at nl; cases nl
  have nl' : η l = none := by rw [Hp.set_ne _ _ la, Hp.set_ne _ _ ld] at nl; exact nl
  refine q a dd l _ na nd nl' ne (Ne.symm la) (Ne.symm ld) ⟨?_, Hp.set_self .., ?_⟩ fun b o e => ?_
  · rw [Hp.set_ne _ _ ne, Hp.set_ne _ _ (Ne.symm la), Hp.set_ne _ _ ne, Hp.set_self]
  · rw [Hp.set_ne _ _ ld, Hp.set_self]; rfl
  · have b1 : b ≠ dd := by rintro rfl; rw [nd] at e; cases e
    have b2 : b ≠ a := by rintro rfl; rw [na] at e; cases e
    have b3 : b ≠ l := by rintro rfl; rw [nl'] at e; cases e
    rw [Hp.set_ne _ _ b1, Hp.set_ne _ _ b3, Hp.set_ne _ _ b1, Hp.set_ne _ _ b2, Hp.set_ne _ _ b1]; exact e
section
variable {a dd l : Addr} {n : Nat} {s : Sp}
theorem span_size (W : Wl c) (S : SpanAt η a dd l n s) (q : Q (.int (n : Nat)) η) : S1 c d hd (fun y => getAttr y (Str.ofString "size") true) (.loc a) η Q X :=
  S1.attr_loc W 0 S.ea S.ed (by kernel_rfl) (by rfl) (by decide +kernel) (by rfl) (fun g h => by cases h) q
theorem span_steps (W : Wl c) (S : SpanAt η a dd l n s) (q : Q (.loc l) η) : S1 c d hd (fun y => getAttr y (Str.ofString "steps") true) (.loc a) η Q X :=
  S1.attr_loc W 1 S.ea S.ed (by kernel_rfl) (by rfl) (by decide +kernel) (by rfl) (fun g h => by cases h) q
theorem rS_share (x : Rat) : shareV (rS x) = true := by
  have h1 := x.den_nz
  have h2 := x.reduced
  unfold rS shareV
  simp only [Bool.and_eq_true, decide_eq_true_eq, beq_iff_eq]
  refine ⟨by omega, ?_⟩
  have : Int.gcd x.num (x.den : Int) = 1 := by simpa [Int.gcd, Nat.Coprime] using h2
  omega
theorem c_need (W : Wl c) (S : SpanAt η a dd l n s) {f : Nat → Rat} (hn : n ≤ 100) (h : LV η v (rowR n f)) (q : Q .none η) : SC c (d + 3) true (.ref m_Span_need) [.loc a, v] η Q X := by
  have sl : sizeLine = 16777216 := by decide
  ((refine SC.def2 (by assumption) (by rfl) (by kernel_rfl) (by kernel_rfl) (by rfl) (by rfl) ?_; dsimp only [initσ]))
  refine SS.ifX (!true || !true || !true) (TP.or3 (TP.not ?_) (fun _ => ?_) fun _ _ => TP.not ?_) (fun h => by simp at h) fun _ => ?_
  · (repeat walk_at "m.one")
    refine SC.isi_any h ?_
    (repeat walk_at "m.one")
    exact ⟨rfl, rfl⟩
  · (repeat walk_at "m.one")
    refine SC.len_any h ?_
    (repeat walk_at "m.one")
    refine SE.attr (A.var (span_size W S ?_))
    (repeat walk_at "m.one")
    exact ⟨by simp, rfl⟩
  · (repeat walk_at "m.one")
    refine SE.compJ ["part"] none (by (with_reducible (repeat (first | exact CapR.nil | apply CapR.own (by decide) | apply CapR.cap (by repeat (first | exact At.head | apply At.tail)) | apply CapR.capF (by repeat (first | exact At.head | apply At.tail)))))) (SJ.any (v := v) ?_ h (fun G hG => ⟨range_len (by omega), CompLG.mapV (g := fun _ => .bool true) hG (fun u hu => ⟨_, by (with_reducible (repeat (first | exact Put.loc | exact Put.cell | apply Put.tail))), by simp [Less], ?_⟩) ?_⟩) SI.lst)
    · (repeat walk_at "m.one")
      exact ⟨rfl, rfl⟩
    · obtain ⟨k, _, rfl⟩ := List.mem_map.mp hu
      (repeat walk_at "m.one")
      exact c_is_share W (by rfl) ⟨by rw [rS_share], rfl⟩
    · (repeat walk_at "m.one")
      rw [List.nil_append, show ((rowR n f).map fun _ => V.bool true) = ((rowR n f).map fun _ => true).map V.bool by simp]
      refine SC.all ?_
      (repeat walk_at "m.one")
      exact ⟨by simp, rfl⟩
  (repeat walk_at "m.one")
  exact q
/-- what is no row of this length -/
noncomputable def badR (n : Nat) (v : V) : Prop := okR v = true ∧ rowV n v = false
theorem c_need_bad (W : Wl c) (S : SpanAt η a dd l n s) (hn : n ≤ 100) (h : badR n v) (q : X p_NoRow η) : SC c (d + 3) true (.ref m_Span_need) [.loc a, v] η Q X := by
  have sl : sizeLine = 16777216 := by decide
  ((refine SC.def2 (by assumption) (by rfl) (by kernel_rfl) (by kernel_rfl) (by rfl) (by rfl) ?_; dsimp only [initσ]))
  by_cases ht : ∃ vs, v = .lst vs
  · obtain ⟨vs, rfl⟩ := ht
    have h1 : vs.length ≤ 10000 ∧ ∀ x ∈ vs, okT x = true := by simpa [okR] using h.1
    have h2 : vs.length = n → vs.all shareV = false := fun e => by
      have := h.2
      unfold rowV at this
      dsimp only at this
      rw [decide_eq_true e, Bool.true_and] at this
      exact this
    refine SS.ifX (!true || ((vs.length : Int) != (n : Int)) || !vs.all shareV) (TP.or3 (TP.not ?_) (fun _ => ?_) fun _ _ => TP.not ?_) (fun _ => ?_) fun h => ?_
    · (repeat walk_at "m.one")
      refine SC.isi (b := true) (by rfl) ?_
      (repeat walk_at "m.one")
      exact ⟨rfl, rfl⟩
    · (repeat walk_at "m.one")
      refine SE.attr (A.var (span_size W S ?_))
      (repeat walk_at "m.one")
      exact ⟨rfl, rfl⟩
    · (repeat walk_at "m.one")
      refine SE.comp ["part"] none (by (with_reducible (repeat (first | exact CapR.nil | apply CapR.own (by decide) | apply CapR.cap (by repeat (first | exact At.head | apply At.tail)) | apply CapR.capF (by repeat (first | exact At.head | apply At.tail)))))) ?_
      (repeat walk_at "m.one")
      refine ⟨_, SI.lst, by omega, CompL.mapV (g := fun v => .bool (shareV v)) (fun u hu => ⟨_, by (with_reducible (repeat (first | exact Put.loc | exact Put.cell | apply Put.tail))), by simp [Less], ?_⟩) ?_⟩
      · (repeat walk_at "m.one")
        exact c_is_share W (h1.2 u hu) ⟨rfl, rfl⟩
      · (repeat walk_at "m.one")
        rw [List.nil_append, show (vs.map fun v => V.bool (shareV v)) = (vs.map shareV).map V.bool by simp]
        refine SC.all ?_
        (repeat walk_at "m.one")
        exact ⟨by simp, rfl⟩
    · refine SS.raise W (by (with_reducible (repeat (first | exact List.mem_cons_self | apply List.mem_cons_of_mem)))) (by (with_reducible (repeat (first | exact List.mem_cons_self | apply List.mem_cons_of_mem)))) (by kernel_rfl) ?_
      (repeat walk_at "m.one")
      exact q
    · simp only [Bool.not_true, Bool.false_or, Bool.or_eq_false_iff, bne_eq_false_iff_eq, Bool.not_eq_false'] at h
      have := h2 (by omega)
      rw [h.2] at this; cases this
  · have e : isiT "list" v = some false := by
      have := h.1
      cases v <;> first | rfl | (exact absurd ⟨_, rfl⟩ ht) | (simp [okR, isiT] at this; done)
    refine SS.if (ST.boolop (STs.or_cons (ST.not ?_)))
    (repeat walk_at "m.one")
    refine SC.isi e ?_
    (repeat walk_at "m.one")
    refine iteNF (iteT ?_)
    refine SS.raise W (by (with_reducible (repeat (first | exact List.mem_cons_self | apply List.mem_cons_of_mem)))) (by (with_reducible (repeat (first | exact List.mem_cons_self | apply List.mem_cons_of_mem)))) (by kernel_rfl) ?_
    (repeat walk_at "m.one")
    exact q
theorem c_cleared (W : Wl c) (S : SpanAt η a dd l n s) {b : Nat} {r : Nat → Rat} (hn : n ≤ 100) (hm : s.m ≤ 8) (hb : b ≤ 40) (z : s.Sz n b) (hp : ∀ i, i < s.m → s.P i < n) (hz : ∀ i j, i < s.m → i < j → s.H i j = 0) (hr : ∀ k, k < n → Bz b (r k)) (h : LV η v (rowR n r)) (q : Q (.tup [.lst (rowR n (s.left r)), .lst (rowR s.m (s.by r))]) η) :
    SC c (d + 105) true (.ref m_Span_cleared) [.loc a, v] η Q X := by
  have sl : sizeLine = 16777216 := by decide
  have cz := fun i hi => z.cl hp hr i hi
  have nb : ∀ i, i ≤ 8 → 4 * nB b i + 4 ≤ 2 ^ 25 := fun i hi => by
    have h1 := nB_mono b hi
    have h2 : nB b 8 = 65536 * b + 87380 := by simp only [nB]; omega
    omega
  ((refine SC.def2 (by assumption) (by rfl) (by kernel_rfl) (by kernel_rfl) (by rfl) (by rfl) ?_; dsimp only [initσ]))
  (repeat walk_at "m.one")
  refine SC.listAny h ?_
  (repeat walk_at "m.one")
  refine SE.attr (A.var (span_steps W S ?_))
  (repeat walk_at "m.one")
  refine SC.len_loc S.el ?_
  (repeat walk_at "m.one")
  simp only [List.length_map, List.length_range]
  refine S2.mulL (by omega) (by omega) (by simp; omega) ?_
  rw [show (List.replicate ((s.m : Int)).toNat [V.tup [.int 0, .int 1]]).flatten = rowR s.m (s.cl r 0).2 by
    rw [← row_pad (f := (s.cl r 0).2) (a := 0) (Nat.zero_le _) fun k _ => rfl]; simp [rS_zero]]
  (repeat walk_at "m.one")
  refine SS.forJ ["place", "step", "how"] (SJ.loc (SE.attr (A.var (span_steps W S ⟨l, _, rfl, S.el, ?_⟩))))
  refine ForLG.mapT S.el (fun i => [some (.loc a), some (v), some (.lst (rowR n (s.cl r i).1)), some (.lst (rowR s.m (s.cl r i).2)), none, none, none, none, none, none, none, none, none, none]) (fun i hi => ?_) (fun σ' l => SS.forget l ?_) (by simp [Less]; exact fun _ _ => rfl)
  · refine SA.tup3 (by (with_reducible (repeat (first | exact Put.loc | exact Put.cell | apply Put.tail)))) (by (with_reducible (repeat (first | exact Put.loc | exact Put.cell | apply Put.tail)))) (by (with_reducible (repeat (first | exact Put.loc | exact Put.cell | apply Put.tail)))) ?_
    obtain ⟨c1, c2⟩ := cz i (by omega)
    have hpi := c1 (s.P i) (hp i hi)
    have nbi := nb i (by omega)
    (repeat walk_at "m.one")
    refine S2.item_lst (k := s.P i) (range_get _ (hp i hi)) ?_
    (repeat walk_at "m.one")
    refine SS.if ?_
    (repeat walk_at "m.one")
    refine S2.neZ ?_
    (repeat walk_at "m.one")
    refine iteS (fun hq => ?_) fun hq => ?_
    · refine SS.assignComp ["k"] none (by (with_reducible (repeat (first | exact CapR.nil | apply CapR.own (by decide) | apply CapR.cap (by repeat (first | exact At.head | apply At.tail)) | apply CapR.capF (by repeat (first | exact At.head | apply At.tail)))))) (.inr (by (with_reducible (repeat (first | exact List.mem_cons_self | apply List.mem_cons_of_mem))))) ?_
      (repeat walk_at "m.one")
      refine SE.attr (A.var (span_size W S ?_))
      (repeat walk_at "m.one")
      refine ⟨_, rng_ok (by omega), rng_len (by omega), CompL.rngN (g := fun k => rS ((s.cl r (i + 1)).1 k)) (fun k hk => ⟨_, by (with_reducible (repeat (first | exact Put.loc | exact Put.cell | apply Put.tail))), by simp [Less], ?_⟩) ?_⟩
      · (repeat walk_at "m.one")
        refine S2.item_lst (k := k) (range_get _ hk) ?_
        (repeat walk_at "m.one")
        refine S2.item_lst (k := k) (range_get _ hk) ?_
        (repeat walk_at "m.one")
        refine c_timesR W (k := 2 * nB b i) (hpi.mono (by omega)) (z.st i k hi hk) (by omega) ?_
        (repeat walk_at "m.one")
        exact c_lessR W (k := 3 * nB b i) ((c1 k hk).mono (by omega)) ((hpi.mul (z.st i k hi hk)).mono (by omega)) (by omega) ⟨rfl, rfl⟩
      rw [List.nil_append]
      refine A.put ?_
      (repeat walk_at "m.one")
      simp only [List.length_map, List.length_range]
      refine c_longer W (by omega) (by omega) (fun k hk => hz i k hi (by omega)) ?_
      (repeat walk_at "m.one")
      refine SS.assignComp ["k"] none (by (with_reducible (repeat (first | exact CapR.nil | apply CapR.own (by decide) | apply CapR.cap (by repeat (first | exact At.head | apply At.tail)) | apply CapR.capF (by repeat (first | exact At.head | apply At.tail)))))) (.inr (by (with_reducible (repeat (first | exact List.mem_cons_self | apply List.mem_cons_of_mem))))) ?_
      (repeat walk_at "m.one")
      simp only [List.length_map, List.length_range]
      refine ⟨_, rng_ok (by omega), rng_len (by omega), CompL.rngN (g := fun k => rS ((s.cl r (i + 1)).2 k)) (fun k hk => ⟨_, by (with_reducible (repeat (first | exact Put.loc | exact Put.cell | apply Put.tail))), by simp [Less], ?_⟩) ?_⟩
      · (repeat walk_at "m.one")
        refine S2.item_lst (k := k) (range_get _ hk) ?_
        (repeat walk_at "m.one")
        refine S2.item_lst (k := k) (range_get _ hk) ?_
        (repeat walk_at "m.one")
        refine c_timesR W (k := 2 * nB b i + 2) (hpi.mono (by omega)) (z.ho i k hi) (by omega) ?_
        (repeat walk_at "m.one")
        exact c_plusR W (k := 3 * nB b i + 2) ((c2 k).mono (by omega)) ((hpi.mul (z.ho i k hi)).mono (by omega)) (by omega) ⟨rfl, rfl⟩
      rw [List.nil_append]
      refine A.put ?_
      (repeat walk_at "m.one")
      exact ⟨by simp [Less], rfl⟩
    · (repeat walk_at "m.one")
      have h0 : (s.cl r i).1 (s.P i) = 0 := by simpa using hq
      have e1 : (s.cl r (i + 1)).1 = (s.cl r i).1 := by
        funext k; show (s.cl r i).1 k - (s.cl r i).1 (s.P i) * s.S i k = _; rw [h0]; grind
      have e2 : (s.cl r (i + 1)).2 = (s.cl r i).2 := by
        funext k; show (s.cl r i).2 k + (s.cl r i).1 (s.P i) * s.H i k = _; rw [h0]; grind
      exact ⟨by rw [e1, e2]; simp [Less], rfl⟩
  · (repeat walk_at "m.one")
    exact q
end

section
variable {a dd l : Addr} {n : Nat} {s : Sp}
/-- what is known of a span -/
structure SpOk (s : Sp) (n b : Nat) (K : Nat → Nat → Rat) : Prop where
  good : s.Good n K
  sz : s.Sz n b
theorem SpOk.add {K : Nat → Nat → Rat} {b : Nat} {r : Nat → Rat} {p : Nat} (g : SpOk s n b K) (hr : ∀ k, k < n → Bz b (r k)) (hp : p < n) (h0 : s.left r p ≠ 0) : SpOk (s.add p r) n b (addK s.m K r) :=
  ⟨g.good.add hp h0, g.sz.add g.good.pl hr hp h0⟩
theorem steps_add {p : Nat} {r : Nat → Rat} : stepsV n (s.add p r) = stepsV n s ++ [V.tup [.int (p : Nat), .lst (rowR n fun k => s.left r k / s.left r p), .lst (rowR s.m (fun j => (0 - s.by r j) / s.left r p) ++ [rS (1 / s.left r p)])]] := by
  have em : (s.add p r).m = s.m + 1 := rfl
  unfold stepsV
  rw [em, List.range_succ, List.map_append]
  congr 1
  · refine List.map_congr_left fun i hi => ?_
    have hi' := List.mem_range.mp hi
    have e1 : (s.add p r).P i = s.P i := if_neg (by omega)
    have e2 : (s.add p r).S i = s.S i := if_neg (by omega)
    have e3 : (s.add p r).H i = s.H i := if_neg (by omega)
    rw [e1, e2, e3]
  · have e1 : (s.add p r).P s.m = p := if_pos rfl
    have e2 : (s.add p r).S s.m = fun k => s.left r k / s.left r p := if_pos rfl
    have e3 : (s.add p r).H s.m = fun j => if j < s.m then (0 - s.by r j) / s.left r p else if j = s.m then 1 / s.left r p else 0 := if_pos rfl
    rw [List.map_singleton, e1, e2, e3, row_snoc, row_congr (g := fun j => (0 - s.by r j) / s.left r p) (fun k hk => if_pos hk), if_neg (Nat.lt_irrefl _), if_pos rfl]
theorem nb_lid {b : Nat} (hb : b ≤ 40) : ∀ i, i ≤ 8 → 4 * nB b i + 4 ≤ 2 ^ 25 := fun i hi => by
  have h1 := nB_mono b hi
  have h2 : nB b 8 = 65536 * b + 87380 := by simp only [nB]; omega
  omega
theorem c_put (W : Wl c) (S : SpanAt η a dd l n s) {b : Nat} {K : Nat → Nat → Rat} {r : Nat → Rat} (hn : n ≤ 100) (hm : s.m ≤ 8) (hb : b ≤ 40) (g : SpOk s n b K) (hr : ∀ k, k < n → Bz b (r k)) (h : LV η v (rowR n r))
    (q0 : (∀ k, k < n → s.left r k = 0) → Q (.bool false) η) (q1 : ∀ p, p < n → s.left r p ≠ 0 → Q (.bool true) (η.set l (.lst (stepsV n (s.add p r))))) :
    SC c (d + 106) true (.ref m_Span_put) [.loc a, v] η Q X := by
  have sl : sizeLine = 16777216 := by decide
  obtain ⟨c1, c2⟩ := g.sz.cl g.good.pl hr s.m (Nat.le_refl _)
  have nbm := nb_lid hb s.m hm
  ((refine SC.def2 (by assumption) (by rfl) (by kernel_rfl) (by kernel_rfl) (by rfl) (by rfl) ?_; dsimp only [initσ]))
  refine SS.expr ?_
  with_reducible refine SE.meth (A.var ⟨_, Meth.own W S.ea S.ed (f := m_Span_need) (by kernel_rfl) (by decide +kernel), Callee.fn W (by kernel_rfl), ?_⟩)
  (repeat walk_at "m.one")
  refine c_need W S hn h ?_
  refine SS.assign2T ?_
  with_reducible refine SE.meth (A.var ⟨_, Meth.own W S.ea S.ed (f := m_Span_cleared) (by kernel_rfl) (by decide +kernel), Callee.fn W (by kernel_rfl), ?_⟩)
  (repeat walk_at "m.one")
  refine c_cleared W S hn hm hb g.sz g.good.pl g.good.hz hr h ?_
  refine ⟨_, _, rfl, _, _, by (with_reducible (repeat (first | exact Put.loc | exact Put.cell | apply Put.tail))), by (with_reducible (repeat (first | exact Put.loc | exact Put.cell | apply Put.tail))), ?_⟩
  (repeat walk_at "m.one")
  refine c_first_other W hn (fun h0 => ?_) fun p hp h0 => ?_
  · (repeat walk_at "m.one")
    refine SS.ifX true ?_ (fun _ => ?_) fun h => by cases h
    · (repeat walk_at "m.one")
      refine S2.isNone (b := true) rfl ?_
      (repeat walk_at "m.one")
      exact ⟨rfl, rfl⟩
    · (repeat walk_at "m.one")
      exact q0 h0
  (repeat walk_at "m.one")
  refine SS.ifX false ?_ (fun h => by cases h) fun _ => ?_
  · (repeat walk_at "m.one")
    refine S2.isNone (b := false) rfl ?_
    (repeat walk_at "m.one")
    exact ⟨rfl, rfl⟩
  (repeat walk_at "m.one")
  refine S2.item_lst (k := p) (range_get _ hp) ?_
  (repeat walk_at "m.one")
  refine SE.comp ["part"] none (by (with_reducible (repeat (first | exact CapR.nil | apply CapR.own (by decide) | apply CapR.cap (by repeat (first | exact At.head | apply At.tail)) | apply CapR.capF (by repeat (first | exact At.head | apply At.tail)))))) ?_
  (repeat walk_at "m.one")
  refine ⟨_, SI.lst, range_len (by omega), CompL.mapN (g := fun j => rS ((0 - s.by r j) / s.left r p)) (fun j hj => ⟨_, by (with_reducible (repeat (first | exact Put.loc | exact Put.cell | apply Put.tail))), by simp [Less], ?_⟩) ?_⟩
  · (repeat walk_at "m.one")
    refine c_lessR W (x := 0) (k := nB b s.m) (Bz.zero _) (c2 j) (by omega) ?_
    (repeat walk_at "m.one")
    exact c_overR W (k := 2 * nB b s.m + 1) (((Bz.zero 0).sub (c2 j)).mono (by omega)) ((c1 p hp).mono (by omega)) h0 (by omega) ⟨rfl, rfl⟩
  rw [List.nil_append]
  (repeat walk_at "m.one")
  refine c_overR W (x := 1) (k := nB b s.m) (Bz.one _) (c1 p hp) h0 (by omega) ?_
  (repeat walk_at "m.one")
  refine S2.addL (by simp; omega) ?_
  (repeat walk_at "m.one")
  refine SS.expr ?_
  with_reducible refine SE.meth (SE.attr (A.var (span_steps W S ⟨_, Meth.append S.el, Callee.bi, ?_⟩)))
  (repeat walk_at "m.one")
  refine SE.comp ["part"] none (by (with_reducible (repeat (first | exact CapR.nil | apply CapR.own (by decide) | apply CapR.cap (by repeat (first | exact At.head | apply At.tail)) | apply CapR.capF (by repeat (first | exact At.head | apply At.tail)))))) ?_
  (repeat walk_at "m.one")
  refine ⟨_, SI.lst, range_len (by omega), CompL.mapN (g := fun k => rS (s.left r k / s.left r p)) (fun k hk => ⟨_, by (with_reducible (repeat (first | exact Put.loc | exact Put.cell | apply Put.tail))), by simp [Less], ?_⟩) ?_⟩
  · (repeat walk_at "m.one")
    exact c_overR W (k := nB b s.m) (c1 k hk) (c1 p hp) h0 (by omega) ⟨rfl, rfl⟩
  rw [List.nil_append]
  (repeat walk_at "m.one")
  refine SC.append S.el (by simp; omega) ?_
  rw [← steps_add]
  (repeat walk_at "m.one")
  exact q1 p hp h0
theorem c_tells (W : Wl c) (S : SpanAt η a dd l n s) {b : Nat} {K : Nat → Nat → Rat} {r : Nat → Rat} (hn : n ≤ 100) (hm : s.m ≤ 8) (hb : b ≤ 40) (g : SpOk s n b K) (hr : ∀ k, k < n → Bz b (r k)) (h : LV η v (rowR n r))
    (q0 : (∀ k, k < n → s.left r k = 0) → Q (.lst (rowR s.m (s.by r))) η) (q1 : (¬ ∀ k, k < n → s.left r k = 0) → Q .none η) :
    SC c (d + 106) true (.ref m_Span_tells) [.loc a, v] η Q X := by
  ((refine SC.def2 (by assumption) (by rfl) (by kernel_rfl) (by kernel_rfl) (by rfl) (by rfl) ?_; dsimp only [initσ]))
  refine SS.expr ?_
  with_reducible refine SE.meth (A.var ⟨_, Meth.own W S.ea S.ed (f := m_Span_need) (by kernel_rfl) (by decide +kernel), Callee.fn W (by kernel_rfl), ?_⟩)
  (repeat walk_at "m.one")
  refine c_need W S hn h ?_
  refine SS.assign2T ?_
  with_reducible refine SE.meth (A.var ⟨_, Meth.own W S.ea S.ed (f := m_Span_cleared) (by kernel_rfl) (by decide +kernel), Callee.fn W (by kernel_rfl), ?_⟩)
  (repeat walk_at "m.one")
  refine c_cleared W S hn hm hb g.sz g.good.pl g.good.hz hr h ?_
  refine ⟨_, _, rfl, _, _, by (with_reducible (repeat (first | exact Put.loc | exact Put.cell | apply Put.tail))), by (with_reducible (repeat (first | exact Put.loc | exact Put.cell | apply Put.tail))), ?_⟩
  refine SS.if ?_
  (repeat walk_at "m.one")
  refine c_first_other W hn (fun h0 => ?_) fun p hp h0 => ?_
  · (repeat walk_at "m.one")
    refine S2.isNotNone (b := false) rfl ?_
    (repeat walk_at "m.one")
    refine iteF ?_
    (repeat walk_at "m.one")
    exact q0 h0
  · (repeat walk_at "m.one")
    refine S2.isNotNone (b := true) rfl ?_
    (repeat walk_at "m.one")
    refine iteT ?_
    (repeat walk_at "m.one")
    exact q1 fun h => h0 (h p hp)
theorem c_put_bad (W : Wl c) (S : SpanAt η a dd l n s) (hn : n ≤ 100) (h : badR n v) (q : X p_NoRow η) : SC c (d + 4) true (.ref m_Span_put) [.loc a, v] η Q X := by
  ((refine SC.def2 (by assumption) (by rfl) (by kernel_rfl) (by kernel_rfl) (by rfl) (by rfl) ?_; dsimp only [initσ]))
  refine SS.expr ?_
  with_reducible refine SE.meth (A.var ⟨_, Meth.own W S.ea S.ed (f := m_Span_need) (by kernel_rfl) (by decide +kernel), Callee.fn W (by kernel_rfl), ?_⟩)
  (repeat walk_at "m.one")
  exact c_need_bad W S hn h q
theorem c_tells_bad (W : Wl c) (S : SpanAt η a dd l n s) (hn : n ≤ 100) (h : badR n v) (q : X p_NoRow η) : SC c (d + 4) true (.ref m_Span_tells) [.loc a, v] η Q X := by
  ((refine SC.def2 (by assumption) (by rfl) (by kernel_rfl) (by kernel_rfl) (by rfl) (by rfl) ?_; dsimp only [initσ]))
  refine SS.expr ?_
  with_reducible refine SE.meth (A.var ⟨_, Meth.own W S.ea S.ed (f := m_Span_need) (by kernel_rfl) (by decide +kernel), Callee.fn W (by kernel_rfl), ?_⟩)
  (repeat walk_at "m.one")
  exact c_need_bad W S hn h q
theorem c_many (W : Wl c) (S : SpanAt η a dd l n s) (q : Q (.int (s.m : Nat)) η) : SC c (d + 1) true (.ref m_Span_many) [.loc a] η Q X := by
  ((refine SC.def2 (by assumption) (by rfl) (by kernel_rfl) (by kernel_rfl) (by rfl) (by rfl) ?_; dsimp only [initσ]))
  (repeat walk_at "m.one")
  refine SE.attr (A.var (span_steps W S ?_))
  (repeat walk_at "m.one")
  refine SC.len_loc S.el ?_
  simp only [List.length_map, List.length_range]
  exact q
end

noncomputable abbrev topsL (n : Nat) (L : List IRow) : List V := L.map fun t => V.lst (rowI n t)
theorem Lb.sub {a : Nat} {x y : Int} (h : Lb a x) (h' : Lb a y) : Lb (a + 1) (x - y) := by
  unfold Lb at *
  exact Nat.le_trans (Int.natAbs_sub_le x y) (two_le h h')
theorem rk_lb {n b : Nat} {L : List IRow} (hb : ∀ r ∈ L, ∀ k, k < n → Lb b (r k)) : ∀ p, p ≤ n → ∀ r ∈ rkL L p, ∀ k, k < n → Lb ((b + 1) * 2 ^ rkF L p - 1) (r k)
  | 0, _ => fun r hr k hk => by
    have := hb r hr k hk
    show Lb ((b + 1) * 2 ^ 0 - 1) _
    simpa using this
  | p + 1, hp => fun r hr k hk => by
    have ih := rk_lb hb p (by omega)
    replace hr : r ∈ rkNew p (rkL L p) := hr
    show Lb ((b + 1) * 2 ^ (rkF L p + if (headsAt p (rkL L p)).isEmpty then 0 else 1) - 1) _
    unfold rkNew at hr
    cases h : headsAt p (rkL L p) with
    | nil =>
      rw [h] at hr
      have := ih r (List.mem_filter.mp hr).1 k hk
      simpa using this
    | cons f hs =>
      rw [h] at hr
      have e : (b + 1) * 2 ^ (rkF L p + 1) = (b + 1) * 2 ^ rkF L p + (b + 1) * 2 ^ rkF L p := by rw [Nat.pow_succ, ← Nat.mul_assoc]; omega
      have pos : 0 < (b + 1) * 2 ^ rkF L p := Nat.mul_pos (by omega) (Nat.two_pow_pos _)
      simp only [List.isEmpty_cons, Bool.false_eq_true, if_false]
      rw [e]
      rcases List.mem_append.mp hr with hr | hr
      · exact (ih r (List.mem_filter.mp hr).1 k hk).mono (by omega)
      · obtain ⟨x, hx, rfl⟩ := List.mem_map.mp hr
        have m1 : f ∈ rkL L p := (List.mem_filter.mp (show f ∈ headsAt p (rkL L p) by rw [h]; exact .head _)).1
        have m2 : x ∈ rkL L p := (List.mem_filter.mp (show x ∈ headsAt p (rkL L p) by rw [h]; exact .tail _ hx)).1
        have := ((ih f m1 p (by omega)).mul (ih x m2 k hk)).sub ((ih x m2 p (by omega)).mul (ih f m1 k hk))
        exact this.mono (by omega)
theorem tops_lin {n : Nat} {L : List IRow} : Lins η (topsL n L) := lins_of fun v hv => by
  obtain ⟨t, _, rfl⟩ := List.mem_map.mp hv
  exact int_lin
noncomputable abbrev topsD (n : Nat) (L : List IRow) : PyData := .list (L.map fun t => .list ((List.range n).map fun k => .int (t k)))
theorem tops_pyrs {n : Nat} : ∀ {L : List IRow}, PyRs η (topsL n L) (L.map fun t => .list ((List.range n).map fun k => .int (t k)))
  | [] => .nil
  | t :: L => .cons (.lst (by rw [show rowI n t = ((List.range n).map t).map V.int by simp, show ((List.range n).map fun k => PyData.int (t k)) = ((List.range n).map t).map PyData.int by simp]; exact ints_pyrs)) tops_pyrs
theorem tops_lay {n : Nat} {L : List IRow} : Lay 2 (topsD n L) := Lay.list fun d hd => by
  obtain ⟨t, _, rfl⟩ := List.mem_map.mp hd
  exact Lay.list fun d hd => by
    obtain ⟨k, _, rfl⟩ := List.mem_map.mp hd
    exact Lay.int
theorem S2.neTops {n : Nat} {L : List IRow} (q : Q (.bool (!L.isEmpty)) η) : S2 c d hd (compareOp .NotEq) (.lst (topsL n L)) (.lst []) η Q X := by
  refine S2.neD (a := topsD n L) (b := .list []) (.lst tops_pyrs) (.lst .nil) (tops_lay.shaped (by decide)) (by decide +kernel) ?_
  have : PyData.eqv (topsD n L) (.list []) = L.isEmpty := by
    cases L with
    | nil => rfl
    | cons t L => simp [PyData.eqv, PyData.eqvAll]
  rw [this]; exact q
theorem c_l_rank (W : Wl c) {n b : Nat} {L : List IRow} (h0 : L ≠ []) (hn : n ≤ 100) (hl : L.length ≤ 20) (hb : ∀ r ∈ L, ∀ k, k < n → Lb b (r k)) (hbb : (b + 1) * 2 ^ L.length ≤ 2 ^ 19) (q : Q (.int (rkF L n : Nat)) η) :
    SC c (d + 1) true (.ref l_rank) [.lst (topsL n L)] η Q X := by
  have sl : sizeLine = 16777216 := by decide
  obtain ⟨t0, L', rfl⟩ : ∃ t0 L', L = t0 :: L' := by cases L with | nil => exact absurd rfl h0 | cons t L' => exact ⟨t, L', rfl⟩
  generalize hLL : t0 :: L' = L at *
  ((refine SC.def2 (by assumption) (by rfl) (by kernel_rfl) (by kernel_rfl) (by rfl) (by rfl) ?_; dsimp only [initσ]))
  refine SS.assignComp ["_law_row"] none (by (with_reducible (repeat (first | exact CapR.nil | apply CapR.own (by decide) | apply CapR.cap (by repeat (first | exact At.head | apply At.tail)) | apply CapR.capF (by repeat (first | exact At.head | apply At.tail)))))) (.inl (by (with_reducible (repeat (first | exact List.mem_cons_self | apply List.mem_cons_of_mem))))) ?_
  (repeat walk_at "m.one")
  refine ⟨_, SI.lst, by rw [List.length_map]; omega, CompL.mapL (u := fun t => V.lst (rowI n t)) (g := fun t => V.lst (rowI n t)) (l := L) (fun t ht => ⟨_, by (with_reducible (repeat (first | exact Put.loc | exact Put.cell | apply Put.tail))), by simp [Less], ?_⟩) ?_⟩
  · (repeat walk_at "m.one")
    exact SC.listOf ⟨rfl, rfl⟩
  rw [List.nil_append]
  refine A.put ?_
  (repeat walk_at "m.one")
  refine SS.for ["_law_place"] ?_
  (repeat walk_at "m.one")
  refine S2.addL (by rw [List.length_map]; simp; omega) ?_
  (repeat walk_at "m.one")
  refine S2.itemI_lst (by decide) (u := .lst (rowI n t0)) (by rw [← hLL]; rfl) ?_
  (repeat walk_at "m.one")
  simp only [List.length_map, List.length_range]
  refine ⟨_, rng_ok (by omega), ForL.rngN (fun p => [some (.lst (topsL n L)), none, some (.lst (topsL n (rkL L p))), some (.int (rkF L p : Nat)), none, none, none, none, none, none]) (fun p hp => ⟨_, by (with_reducible (repeat (first | exact Put.loc | exact Put.cell | apply Put.tail))), ?_⟩) (fun σ' l => SS.forget l ?_) (by simp [Less]; exact ⟨rfl, rfl⟩)⟩
  · have len := rk_len L p
    have lbp := rk_lb hb p (by omega)
    have hbp : (b + 1) * 2 ^ rkF L p ≤ 2 ^ 19 := Nat.le_trans (Nat.mul_le_mul_left _ (Nat.pow_le_pow_right (by decide) (by omega))) hbb
    have eF : rkF L (p + 1) = rkF L p + if (headsAt p (rkL L p)).isEmpty then 0 else 1 := rfl
    have eL : rkL L (p + 1) = rkNew p (rkL L p) := rfl
    generalize rkL L p = l at *
    generalize rkF L p = fd at *
    refine SS.frz ?_
    refine SS.assignComp ["_law_row"] (some _) (by (with_reducible (repeat (first | exact CapR.nil | apply CapR.own (by decide) | apply CapR.cap (by repeat (first | exact At.head | apply At.tail)) | apply CapR.capF (by repeat (first | exact At.head | apply At.tail)))))) (.inl (by (with_reducible (repeat (first | exact List.mem_cons_self | apply List.mem_cons_of_mem))))) ?_
    (repeat walk_at "m.one")
    refine ⟨_, SI.lst, by rw [List.length_map]; omega, ?_⟩
    refine CompL.filterL (u := fun t => V.lst (rowI n t)) (g := fun t => V.lst (rowI n t)) (p := fun r => r p != 0) (fun r hr => ⟨_, by (with_reducible (repeat (first | exact Put.loc | exact Put.cell | apply Put.tail))), by simp [Less], ?_, fun _ => ?_⟩) ?_
    · (repeat walk_at "m.one")
      refine S2.item_lst (k := p) (range_get _ hp) ?_
      (repeat walk_at "m.one")
      exact ⟨rfl, rfl⟩
    · (repeat walk_at "m.one")
      exact ⟨rfl, rfl⟩
    rw [List.nil_append]
    refine A.put ?_
    refine SS.assignCompM ["_law_row"] (some _) (by (with_reducible (repeat (first | exact CapR.nil | apply CapR.own (by decide) | apply CapR.cap (by repeat (first | exact At.head | apply At.tail)) | apply CapR.capF (by repeat (first | exact At.head | apply At.tail)))))) (by (with_reducible (repeat (first | exact List.mem_cons_self | apply List.mem_cons_of_mem)))) (SJ.of ?_)
    (repeat walk_at "m.one")
    refine ⟨_, SI.lst, by rw [List.length_map]; omega, CompL.toG ?_⟩
    refine CompL.filterL (u := fun t => V.lst (rowI n t)) (g := fun t => V.lst (rowI n t)) (p := fun r => r p == 0) (fun r hr => ⟨_, by (with_reducible (repeat (first | exact Put.loc | exact Put.cell | apply Put.tail))), by simp [Less], ?_, fun _ => ?_⟩) fun a na => ⟨_, by (with_reducible (repeat (first | exact Put.loc | exact Put.cell | apply Put.tail))), ?_⟩
    · (repeat walk_at "m.one")
      refine S2.item_lst (k := p) (range_get _ hp) ?_
      (repeat walk_at "m.one")
      exact ⟨rfl, rfl⟩
    · (repeat walk_at "m.one")
      exact ⟨rfl, rfl⟩
    rw [List.nil_append]
    have h2 := two_len p l
    refine SS.if ?_
    (repeat walk_at "m.one")
    refine S2.neTops ?_
    (repeat walk_at "m.one")
    generalize hh' : List.filter (fun r : IRow => r p != 0) l = H
    have hh : headsAt p l = H := hh'
    cases H with
    | nil =>
      refine iteNT ?_
      (repeat walk_at "m.one")
      refine ⟨Ext.set na, [some (.lst (topsL n L)), none, some (.lst (topsL n (rkL L (p + 1)))), some (.int (rkF L (p + 1) : Nat)), none, none, none, none, none, none], ?_, by simp [Less], rfl⟩
      have e1 : rkNew p l = restAt p l := by unfold rkNew; rw [hh]
      rw [eF, eL, e1, hh]
      exact .some (.keep tops_lin) (.none (.some (.lst (Hp.set_self ..) na (Frzs.keep tops_lin)) (.some (.keep trivial) (.none (.none (.none (.none (.none (.none .nil)))))))))
    | cons f hs =>
      rw [hh] at h2
      rw [List.length_cons] at h2
      refine iteNF ?_
      (repeat walk_at "m.one")
      refine SS.for ["_law_row"] ?_
      (repeat walk_at "m.one")
      refine SliceGoal.of (SE.sliceFromE ?_)
      (repeat walk_at "m.one")
      refine ⟨_, 1, rfl, rfl, ?_⟩
      have mf : f ∈ l := (List.mem_filter.mp (show f ∈ headsAt p l by rw [hh]; exact .head _)).1
      rw [show (MObj.lst (List.map (fun t => V.lst (rowI n t)) (List.filter (fun r : IRow => r p == 0) l))) = MObj.lst (topsL n (restAt p l ++ ([] : List IRow).map (crossR p f))) by simp]
      refine ⟨_, SI.lst, ForL.foldH (α := List IRow) (fun _ => [some (.lst (topsL n L)), none, some (.loc a), some (.int (fd + 1 : Nat)), some (.int (p : Nat)), some (.lst (topsL n (f :: hs))), some (.lst (rowI n f)), none, none, none]) (fun done => η.set a (.lst (topsL n (restAt p l ++ done.map (crossR p f))))) (fun done vs => ∃ todo, hs = done ++ todo ∧ vs = topsL n todo) []
        ⟨hs, rfl, rfl⟩ (fun done v vs hP => ?_) (fun done σ' hP l' => SS.forget l' ?_) (by simp [Less])⟩
      · obtain ⟨todo, e1, e2⟩ := hP
        cases todo with
        | nil => cases e2
        | cons r todo =>
          rw [topsL, List.map_cons, List.cons.injEq] at e2
          obtain ⟨rfl, rfl⟩ := e2
          have mr : r ∈ l := (List.mem_filter.mp (show r ∈ headsAt p l by rw [hh, e1]; exact .tail _ (List.mem_append_right _ (.head _)))).1
          have hz : done.length + 1 ≤ hs.length := by rw [e1]; simp
          refine SA.name (by (with_reducible (repeat (first | exact Put.loc | exact Put.cell | apply Put.tail)))) ?_
          refine SS.expr ?_
          with_reducible refine SE.meth (A.var ⟨_, Meth.append (Hp.set_self ..), Callee.bi, ?_⟩)
          refine SL.cons ?_
          refine SE.compJ ["_law_one", "_law_two"] none (by (with_reducible (repeat (first | exact CapR.nil | apply CapR.own (by decide) | apply CapR.cap (by repeat (first | exact At.head | apply At.tail)) | apply CapR.capF (by repeat (first | exact At.head | apply At.tail)))))) ?_
          refine SJ.zip (by (with_reducible (repeat (first | exact List.mem_cons_self | apply List.mem_cons_of_mem)))) (W.b (by (with_reducible (repeat (first | exact List.mem_cons_self | apply List.mem_cons_of_mem))))) ?_
          (repeat walk_at "m.one")
          refine ⟨_, _, rfl, ?_, CompL.zipN (g := fun k => .int (crossR p f r k)) (fun k hk => ⟨_, _, by (with_reducible (repeat (first | exact Put.loc | exact Put.cell | apply Put.tail))), by (with_reducible (repeat (first | exact Put.loc | exact Put.cell | apply Put.tail))), by simp [Less], ?_⟩) ?_⟩
          · rw [zipV_range]; exact range_len (by omega)
          · have mu : ∀ x y : Int, Lb ((b + 1) * 2 ^ fd - 1) x → Lb ((b + 1) * 2 ^ fd - 1) y → IntMulOk x y := fun x y h1 h2 => mulBig h1 h2 (by omega)
            (repeat walk_at "m.one")
            refine S2.item_lst (k := p) (range_get _ hp) ?_
            (repeat walk_at "m.one")
            refine S2.mulI (mu _ _ (lbp f mf p hp) (lbp r mr k hk)) ?_
            (repeat walk_at "m.one")
            refine S2.item_lst (k := p) (range_get _ hp) ?_
            (repeat walk_at "m.one")
            refine S2.mulI (mu _ _ (lbp r mr p hp) (lbp f mf k hk)) ?_
            (repeat walk_at "m.one")
            exact ⟨rfl, rfl⟩
          rw [List.nil_append]
          (repeat walk_at "m.one")
          refine SC.append (Hp.set_self ..) (by rw [List.length_map, List.length_append, List.length_map]; omega) ?_
          (repeat walk_at "m.one")
          refine ⟨done ++ [r], ⟨todo, by rw [e1]; simp, rfl⟩, by simp [Less], ?_⟩
          rw [Hp.set_set]
          simp
      · obtain ⟨todo, e1, e2⟩ := hP
        have : todo = [] := by simpa using e2.symm
        subst this
        rw [List.append_nil] at e1
        subst e1
        (repeat walk_at "m.one")
        refine ⟨Ext.set na, [some (.lst (topsL n L)), none, some (.lst (topsL n (rkL L (p + 1)))), some (.int (rkF L (p + 1) : Nat)), none, none, none, none, none, none], ?_, by simp [Less], rfl⟩
        have e1 : rkNew p l = restAt p l ++ hs.map (crossR p f) := by unfold rkNew; rw [hh]
        rw [eF, eL, e1, hh]
        exact .some (.keep tops_lin) (.none (.some (.lst (Hp.set_self ..) na (Frzs.keep tops_lin)) (.some (.keep trivial) (.none (.none (.none (.none (.none (.none .nil)))))))))
  · (repeat walk_at "m.one")
    exact q

theorem int_nat {i : Int} (h : 0 ≤ i) : ∃ k : Nat, i = k := ⟨i.toNat, by omega⟩
theorem S2.neTopsA {n : Nat} {L : List IRow} {l : Addr} (el : η l = some (.lst (topsL n L))) (q : Q (.bool (!L.isEmpty)) η) : S2 c d hd (compareOp .NotEq) (.loc l) (.lst []) η Q X := by
  refine S2.neD (a := topsD n L) (b := .list []) (.loc el tops_pyrs) (.lst .nil) (tops_lay.shaped (by decide)) (by decide +kernel) ?_
  have : PyData.eqv (topsD n L) (.list []) = L.isEmpty := by
    cases L with
    | nil => rfl
    | cons t L => simp [PyData.eqv, PyData.eqvAll]
  rw [this]; exact q
noncomputable def seedT (s : Int) : Int := [0, (s.fdiv 4).fmod 11 - 5, (s.fdiv 4).fmod 3, s - 500000].getD (s.fmod 4).toNat 0
theorem seedT_lb {s : Int} (h0 : 0 ≤ s) (h1 : s < 1000003) : Lb 20 (seedT s) := by
  unfold seedT Lb
  have h2 := fmod_range (s.fdiv 4) (b := 11) (by decide)
  have h3 := fmod_range (s.fdiv 4) (b := 3) (by decide)
  have h4 := fmod_range s (b := 4) (by decide)
  obtain ⟨k, hk⟩ := int_nat h4.1
  rw [hk, Int.toNat_natCast]
  rw [hk] at h4
  have : k < 4 := by omega
  match k, this with
  | 0, _ => exact Nat.zero_le _
  | 1, _ => show ((s.fdiv 4).fmod 11 - 5).natAbs ≤ 2 ^ 20; omega
  | 2, _ => show ((s.fdiv 4).fmod 3).natAbs ≤ 2 ^ 20; omega
  | 3, _ => show (s - 500000).natAbs ≤ 2 ^ 20; omega
theorem Lb.add {a : Nat} {x y : Int} (h : Lb a x) (h' : Lb a y) : Lb (a + 1) (x + y) := by
  unfold Lb at *
  exact Nat.le_trans (Int.natAbs_add_le x y) (two_le h h')
theorem tops_get {n : Nat} {L : List IRow} {j : Nat} (h : j < L.length) : (topsL n L)[j]? = some (.lst (rowI n L[j])) := by
  unfold topsL; rw [List.getElem?_map, List.getElem?_eq_getElem h]; rfl
theorem c_l_tops_by (W : Wl c) {n b : Nat} {L : List IRow} {l : Addr} {a : Int} (el : η l = some (.lst (topsL n L))) (hn : n ≤ 100) (hl : L.length ≤ 20) (hb : ∀ r ∈ L, ∀ k, k < n → Lb b (r k)) (b20 : 20 ≤ b) (b40 : b ≤ 60) (q : ∀ t : IRow, (∀ k, k < n → Lb (b + 2) (t k)) → Q (.lst (rowI n t)) η) :
    SC c (d + 1) true (.ref l_tops_by) [.int a, .int (n : Nat), .loc l] η Q X := by
  have sl : sizeLine = 16777216 := by decide
  have np : ∀ a b : Int, b.natAbs < 2 ^ 9000 → Builtin.divisionGoesByPylong a b = false := fun a b h => noPylong_pow h
  have hlen : (topsL n L).length = L.length := by simp
  ((refine SC.def2 (by assumption) (by rfl) (by kernel_rfl) (by kernel_rfl) (by rfl) (by rfl) ?_; dsimp only [initσ]))
  (repeat walk_at "m.one")
  refine S2.divI (by decide) (np _ _ (by decide +kernel)) ?_
  (repeat walk_at "m.one")
  refine S2.modI (by decide) ?_
  generalize (a.fdiv 3).fmod 6 = z
  (repeat walk_at "m.one")
  refine SS.ifX (z == 0) ?_ (fun _ => ?_) fun _ => ?_
  · (repeat walk_at "m.one")
    exact ⟨rfl, rfl⟩
  · (repeat walk_at "m.one")
    refine S2.mulL (by omega) (by omega) (by simp; omega) ?_
    rw [show (List.replicate ((n : Int)).toNat [V.int 0]).flatten = rowI n (fun _ => 0) by simp [rowI, List.map_const']]
    exact q _ fun k _ => Lb.zero _
  refine SS.ifX (z == 1 && !L.isEmpty) (TP.and ?_ fun _ => ?_) (fun h => ?_) fun _ => ?_
  · (repeat walk_at "m.one")
    exact ⟨rfl, rfl⟩
  · (repeat walk_at "m.one")
    refine S2.neTopsA el ?_
    (repeat walk_at "m.one")
    exact ⟨rfl, rfl⟩
  · have h0 : 0 < L.length := by
      rw [Bool.and_eq_true] at h
      cases L with
      | nil => simp at h
      | cons => simp
    (repeat walk_at "m.one")
    refine SE.comp ["_law_one"] none (by (with_reducible (repeat (first | exact CapR.nil | apply CapR.own (by decide) | apply CapR.cap (by repeat (first | exact At.head | apply At.tail)) | apply CapR.capF (by repeat (first | exact At.head | apply At.tail)))))) ?_
    (repeat walk_at "m.one")
    refine S2.divI (by decide) (np _ _ (by decide +kernel)) ?_
    (repeat walk_at "m.one")
    refine SC.len_loc el ?_
    rw [hlen]
    refine S2.modI (by omega) ?_
    have r1 := fmod_range (a.fdiv 126) (b := (L.length : Int)) (by omega)
    obtain ⟨j, hj⟩ := int_nat r1.1
    rw [hj] at r1 ⊢
    have hj' : j < L.length := by omega
    refine S2.item_loc el (tops_get hj') ?_
    refine ⟨_, SI.lst, range_len (by omega), CompL.mapN (g := fun k => .int (L[j] k * ((a.fdiv 18).fmod 7 - 3))) (fun k hk => ⟨_, by (with_reducible (repeat (first | exact Put.loc | exact Put.cell | apply Put.tail))), by simp [Less], ?_⟩) ?_⟩
    · (repeat walk_at "m.one")
      refine S2.divI (by decide) (np _ _ (by decide +kernel)) ?_
      (repeat walk_at "m.one")
      refine S2.modI (by decide) ?_
      (repeat walk_at "m.one")
      have r2 := fmod_range (a.fdiv 18) (b := 7) (by decide)
      exact S2.mulI (mulR (by omega)) ⟨rfl, rfl⟩
    · rw [List.nil_append]
      refine q _ fun k hk => ?_
      have r2 := fmod_range (a.fdiv 18) (b := 7) (by decide)
      exact (hb _ (List.getElem_mem hj') k hk).mul (b := 2) (by unfold Lb; omega)
  refine SS.ifX (z == 2 && decide ((L.length : Int) > 1)) (TP.and ?_ fun _ => ?_) (fun h => ?_) fun _ => ?_
  · (repeat walk_at "m.one")
    exact ⟨rfl, rfl⟩
  · (repeat walk_at "m.one")
    refine SC.len_loc el ?_
    rw [hlen]
    (repeat walk_at "m.one")
    exact ⟨rfl, rfl⟩
  · have h0 : 1 < L.length := by
      rw [Bool.and_eq_true] at h
      have := h.2
      simp at this; omega
    (repeat walk_at "m.one")
    refine SE.compJ ["_law_one", "_law_two"] none (by (with_reducible (repeat (first | exact CapR.nil | apply CapR.own (by decide) | apply CapR.cap (by repeat (first | exact At.head | apply At.tail)) | apply CapR.capF (by repeat (first | exact At.head | apply At.tail)))))) ?_
    refine SJ.zip (by (with_reducible (repeat (first | exact List.mem_cons_self | apply List.mem_cons_of_mem)))) (W.b (by (with_reducible (repeat (first | exact List.mem_cons_self | apply List.mem_cons_of_mem))))) ?_
    (repeat walk_at "m.one")
    refine S2.item_loc (k := 0) el (tops_get (by omega)) ?_
    (repeat walk_at "m.one")
    refine S2.divI (by decide) (np _ _ (by decide +kernel)) ?_
    (repeat walk_at "m.one")
    refine SC.len_loc el ?_
    rw [hlen]
    refine S2.modI (by omega) ?_
    have r1 := fmod_range (a.fdiv 18) (b := (L.length : Int)) (by omega)
    obtain ⟨j, hj⟩ := int_nat r1.1
    rw [hj] at r1 ⊢
    have hj' : j < L.length := by omega
    refine S2.item_loc el (tops_get hj') ?_
    (repeat walk_at "m.one")
    refine ⟨_, _, rfl, ?_, CompL.zipN (g := fun k => .int (L[0] k + L[j] k)) (fun k hk => ⟨_, _, by (with_reducible (repeat (first | exact Put.loc | exact Put.cell | apply Put.tail))), by (with_reducible (repeat (first | exact Put.loc | exact Put.cell | apply Put.tail))), by simp [Less], ?_⟩) ?_⟩
    · rw [zipV_range]; exact range_len (by omega)
    · (repeat walk_at "m.one")
      exact ⟨rfl, rfl⟩
    · rw [List.nil_append]
      exact q _ fun k hk => ((hb _ (List.getElem_mem (by omega)) k hk).add (hb _ (List.getElem_mem hj') k hk)).mono (by omega)
  refine SS.assignComp ["_law_k"] none (by (with_reducible (repeat (first | exact CapR.nil | apply CapR.own (by decide) | apply CapR.cap (by repeat (first | exact At.head | apply At.tail)) | apply CapR.capF (by repeat (first | exact At.head | apply At.tail)))))) (.inl (by (with_reducible (repeat (first | exact List.mem_cons_self | apply List.mem_cons_of_mem))))) ?_
  (repeat walk_at "m.one")
  refine ⟨_, rng_ok (by omega), rng_len (by omega), CompL.rngN (g := fun k => .int (((a.fdiv 18 + 7919 * (k : Int)) * 48271).fmod 1000003)) (fun k hk => ⟨_, by (with_reducible (repeat (first | exact Put.loc | exact Put.cell | apply Put.tail))), by simp [Less], ?_⟩) ?_⟩
  · (repeat walk_at "m.one")
    refine S2.divI (by decide) (np _ _ (by decide +kernel)) ?_
    (repeat walk_at "m.one")
    refine S2.mulI (mulL (by decide)) ?_
    (repeat walk_at "m.one")
    refine S2.mulI (mulR (by decide)) ?_
    (repeat walk_at "m.one")
    exact S2.modI (by decide) ⟨rfl, rfl⟩
  rw [List.nil_append]
  refine A.put ?_
  (repeat walk_at "m.one")
  refine SE.comp ["_law_seed"] none (by (with_reducible (repeat (first | exact CapR.nil | apply CapR.own (by decide) | apply CapR.cap (by repeat (first | exact At.head | apply At.tail)) | apply CapR.capF (by repeat (first | exact At.head | apply At.tail)))))) ?_
  (repeat walk_at "m.one")
  refine ⟨_, SI.lst, range_len (by omega), CompL.mapN (g := fun k => .int (seedT (((a.fdiv 18 + 7919 * (k : Int)) * 48271).fmod 1000003))) (fun k hk => ⟨_, by (with_reducible (repeat (first | exact Put.loc | exact Put.cell | apply Put.tail))), by simp [Less], ?_⟩) ?_⟩
  · generalize ((a.fdiv 18 + 7919 * (k : Int)) * 48271).fmod 1000003 = sd
    have r4 := fmod_range sd (b := 4) (by decide)
    (repeat walk_at "m.one")
    refine S2.divI (by decide) (np _ _ (by decide +kernel)) ?_
    (repeat walk_at "m.one")
    refine S2.modI (by decide) ?_
    (repeat walk_at "m.one")
    refine S2.divI (by decide) (np _ _ (by decide +kernel)) ?_
    (repeat walk_at "m.one")
    refine S2.modI (by decide) ?_
    (repeat walk_at "m.one")
    refine S2.modI (by decide) ?_
    refine S2.itemI_lst (u := .int (seedT sd)) r4.1 ?_ ⟨rfl, rfl⟩
    unfold seedT
    obtain ⟨k, hk⟩ := int_nat r4.1
    rw [hk] at r4 ⊢
    rw [Int.toNat_natCast]
    have : k < 4 := by omega
    match k, this with
    | 0, _ => rfl
    | 1, _ => rfl
    | 2, _ => rfl
    | 3, _ => rfl
  · rw [List.nil_append]
    refine q _ fun k hk => ?_
    have r5 := fmod_range ((a.fdiv 18 + 7919 * (k : Int)) * 48271) (b := 1000003) (by decide)
    exact (seedT_lb r5.1 r5.2).mono (by omega)
section
variable {a dd l : Addr} {n : Nat} {s : Sp}
theorem c_l_told_bad (W : Wl c) (S : SpanAt η a dd l n s) {w : Int} (hn : n ≤ 100) (h : badR n v) (q : Q (.tup [.str "refused", .str "row"]) η) : SC c (d + 6) true (.ref l_told) [.loc a, .int w, v] η Q X := by
  ((refine SC.def2 (by assumption) (by rfl) (by kernel_rfl) (by kernel_rfl) (by rfl) (by rfl) ?_; dsimp only [initσ]))
  refine SS.tryRet W (by (with_reducible (repeat (first | exact List.mem_cons_self | apply List.mem_cons_of_mem)))) (by (with_reducible (repeat (first | exact List.mem_cons_self | apply List.mem_cons_of_mem)))) (by (with_reducible (repeat (first | exact List.mem_cons_self | apply List.mem_cons_of_mem)))) ?_
  refine SE.ifexp ?_
  (repeat walk_at "m.one")
  refine iteS (fun _ => ?_) fun _ => ?_
  · with_reducible refine SE.meth (A.var ⟨_, Meth.own W S.ea S.ed (f := m_Span_put) (by kernel_rfl) (by decide +kernel), Callee.fn W (by kernel_rfl), ?_⟩)
    (repeat walk_at "m.one")
    refine c_put_bad W S hn h ⟨by kernel_rfl, _, by (with_reducible (repeat (first | exact Put.loc | exact Put.cell | apply Put.tail))), ?_⟩
    (repeat walk_at "m.one")
    exact c_l_word_of_NoRow W q
  · with_reducible refine SE.meth (A.var ⟨_, Meth.own W S.ea S.ed (f := m_Span_tells) (by kernel_rfl) (by decide +kernel), Callee.fn W (by kernel_rfl), ?_⟩)
    (repeat walk_at "m.one")
    refine c_tells_bad W S hn h ⟨by kernel_rfl, _, by (with_reducible (repeat (first | exact Put.loc | exact Put.cell | apply Put.tail))), ?_⟩
    (repeat walk_at "m.one")
    exact c_l_word_of_NoRow W q
theorem c_l_told (W : Wl c) (S : SpanAt η a dd l n s) {b : Nat} {K : Nat → Nat → Rat} {r : Nat → Rat} (hn : n ≤ 100) (hm : s.m ≤ 8) (hb : b ≤ 40) (g : SpOk s n b K) (hr : ∀ k, k < n → Bz b (r k)) (h : LV η v (rowR n r))
    (q0 : (∀ k, k < n → s.left r k = 0) → Q (.lst (rowR s.m (s.by r))) η) (q1 : (¬ ∀ k, k < n → s.left r k = 0) → Q .none η) : SC c (d + 107) true (.ref l_told) [.loc a, .int 1, v] η Q X := by
  ((refine SC.def2 (by assumption) (by rfl) (by kernel_rfl) (by kernel_rfl) (by rfl) (by rfl) ?_; dsimp only [initσ]))
  refine SS.tryRet W (by (with_reducible (repeat (first | exact List.mem_cons_self | apply List.mem_cons_of_mem)))) (by (with_reducible (repeat (first | exact List.mem_cons_self | apply List.mem_cons_of_mem)))) (by (with_reducible (repeat (first | exact List.mem_cons_self | apply List.mem_cons_of_mem)))) ?_
  refine SE.ifexp ?_
  (repeat walk_at "m.one")
  refine iteF ?_
  with_reducible refine SE.meth (A.var ⟨_, Meth.own W S.ea S.ed (f := m_Span_tells) (by kernel_rfl) (by decide +kernel), Callee.fn W (by kernel_rfl), ?_⟩)
  (repeat walk_at "m.one")
  exact c_tells W S hn hm hb g hr h q0 q1
end

theorem Hp.set_same {η : Hp} {a : Addr} {o : MObj} (h : η a = some o) : η.set a o = η := by
  funext b
  unfold Hp.set
  split
  · rename_i e; rw [e, h]
  · rfl
theorem S2.neRowNil {n : Nat} {r : Nat → Rat} (q : Q (.bool (!decide (n = 0))) η) : S2 c d hd (compareOp .NotEq) (.lst (rowR n r)) (.lst []) η Q X := by
  have h := row_shs n r
  refine S2.neD (a := .list ((rowR n r).map shD)) (b := .list []) (.lst h.pyrs) (.lst .nil) h.shaped (by decide +kernel) ?_
  have : PyData.eqv (.list ((rowR n r).map shD)) (.list []) = decide (n = 0) := by
    cases n with
    | zero => rfl
    | succ n => rw [row_snoc, List.map_append]; cases (rowR n r).map shD <;> simp [PyData.eqv, PyData.eqvAll]
  rw [this]; exact q
section
variable {n : Nat} {r : Nat → Rat}
theorem row_okT : ∀ v ∈ rowR n r, okT v = true := fun v hv => by
  obtain ⟨k, _, rfl⟩ := List.mem_map.mp hv
  rfl
theorem bad_len {vs : List V} (hl : vs.length ≤ 10000) (h : ∀ v ∈ vs, okT v = true) (hn : vs.length ≠ n) : badR n (.lst vs) := by
  refine ⟨?_, ?_⟩
  · unfold okR; dsimp only; rw [decide_eq_true hl, Bool.true_and, List.all_eq_true]; exact h
  · unfold rowV; dsimp only; rw [decide_eq_false hn]; rfl
theorem bad_last {vs : List V} {x : V} (hl : vs.length + 1 ≤ 10000) (h : ∀ v ∈ vs, okT v = true) (hx : okT x = true) (hs : shareV x = false) : badR n (.lst (vs ++ [x])) := by
  refine ⟨?_, ?_⟩
  · unfold okR; dsimp only; rw [decide_eq_true (by simpa using hl), Bool.true_and, List.all_eq_true]
    intro v hv
    rcases List.mem_append.mp hv with hv | hv
    · exact h v hv
    · have : v = x := by simpa using hv
      rw [this]; exact hx
  · unfold rowV; dsimp only; rw [List.all_append]; simp [hs]
theorem c_l_wrong (W : Wl c) {a : Int} (hn : n ≤ 100) (q : ∀ v, badR n v → Q v η) : SC c (d + 1) true (.ref l_wrong) [.int a, .lst (rowR n r)] η Q X := by
  have sl : sizeLine = 16777216 := by decide
  have hlen : (rowR n r).length = n := by simp
  have hR := row_okT (n := n) (r := r)
  have hI : ∀ v ∈ (rowR n r).take ((rowR n r).length - 1), okT v = true := fun v hv => hR v (List.mem_of_mem_take hv)
  have lI : ((rowR n r).take ((rowR n r).length - 1)).length = n - 1 := by rw [List.length_take, hlen]; omega
  generalize hI' : (rowR n r).take ((rowR n r).length - 1) = I at hI lI
  ((refine SC.def2 (by assumption) (by rfl) (by kernel_rfl) (by kernel_rfl) (by rfl) (by rfl) ?_; dsimp only [initσ]))
  (repeat walk_at "m.one")
  refine SC.tupleOf ?_
  (repeat walk_at "m.one")
  refine S2.addL (by rw [hlen]; simp; omega) ?_
  (repeat walk_at "m.one")
  refine SliceGoal.of (SE.sliceInit ?_)
  (repeat walk_at "m.one")
  refine ⟨_, rfl, rfl, ?_⟩
  rw [hI']
  (repeat walk_at "m.one")
  refine S2.addL (by rw [lI]; simp; omega) ?_
  (repeat walk_at "m.one")
  refine SliceGoal.of (SE.sliceInit ?_)
  (repeat walk_at "m.one")
  refine ⟨_, rfl, rfl, ?_⟩
  rw [hI']
  (repeat walk_at "m.one")
  refine S2.addL (by rw [lI]; simp; omega) ?_
  (repeat walk_at "m.one")
  refine SliceGoal.of (SE.sliceInit ?_)
  (repeat walk_at "m.one")
  refine ⟨_, rfl, rfl, ?_⟩
  rw [hI']
  (repeat walk_at "m.one")
  refine S2.addL (by rw [lI]; simp; omega) ?_
  (repeat walk_at "m.one")
  refine SliceGoal.of (SE.sliceInit ?_)
  (repeat walk_at "m.one")
  refine ⟨_, rfl, rfl, ?_⟩
  rw [hI']
  (repeat walk_at "m.one")
  refine S2.neRowNil ?_
  (repeat walk_at "m.one")
  refine S2.mulB len_ok ?_
  (repeat walk_at "m.one")
  refine S2.addL (by split <;> simp <;> omega) ?_
  (repeat walk_at "m.one")
  refine SliceGoal.of (SE.sliceInit ?_)
  (repeat walk_at "m.one")
  refine ⟨_, rfl, rfl, ?_⟩
  rw [hI']
  (repeat walk_at "m.one")
  refine S2.addL (by rw [lI]; simp; omega) ?_
  (repeat walk_at "m.one")
  refine SliceGoal.of (SE.sliceInit ?_)
  (repeat walk_at "m.one")
  refine ⟨_, rfl, rfl, ?_⟩
  rw [hI']
  (repeat walk_at "m.one")
  refine S2.addL (by rw [lI]; simp; omega) ?_
  (repeat walk_at "m.one")
  refine S2.mulL (by decide) (by decide) (by decide) ?_
  (repeat walk_at "m.one")
  refine S2.addL (by rw [hlen]; simp; omega) ?_
  (repeat walk_at "m.one")
  refine S2.addL (by split <;> simp <;> omega) ?_
  (repeat walk_at "m.one")
  refine SliceGoal.of (SE.sliceInit ?_)
  (repeat walk_at "m.one")
  refine ⟨_, rfl, rfl, ?_⟩
  rw [hI']
  (repeat walk_at "m.one")
  refine S2.addL (by rw [lI]; simp; omega) ?_
  (repeat walk_at "m.one")
  refine SliceGoal.of (SE.sliceInit ?_)
  (repeat walk_at "m.one")
  refine ⟨_, rfl, rfl, ?_⟩
  rw [hI']
  (repeat walk_at "m.one")
  refine S2.addL (by rw [lI]; simp; omega) ?_
  (repeat walk_at "m.one")
  refine S2.addL (by split <;> simp <;> omega) ?_
  (repeat walk_at "m.one")
  have key : ∀ v ∈ (((if (!decide (n = 0)) = true then [V.lst I] else []) ++ [V.none, V.tup (rowR n r), V.lst (rowR n r ++ [V.tup [V.int 0, V.int 1]]), V.lst (I ++ [V.int 1]), V.lst (I ++ [V.tup [V.int 2, V.int 4]]), V.lst (I ++ [V.tup [V.int 1, V.int 0]]), V.str (Str.ofString "row"), V.dct [] []]) ++
      [V.lst (I ++ [V.tup [V.bool true, V.int 1]]), V.lst (I ++ [V.lst [V.int 1, V.int 1]]), V.lst (rowR n r ++ (List.replicate (Int.toNat 9) [V.tup [V.int 1, V.int 1]]).flatten)]) ++ [V.lst (I ++ [V.tup [V.dct [] [], V.int 1]]), V.lst (I ++ [V.tup [V.int 1, V.lst [V.int 1]]])], badR n v := by
    have hl1 : I.length + 1 ≤ 10000 := by omega
    intro v hv
    rcases List.mem_append.mp hv with hv | hv
    · rcases List.mem_append.mp hv with hv | hv
      · rcases List.mem_append.mp hv with hv | hv
        · split at hv
          · rename_i h0
            have : v = .lst I := by simpa using hv
            subst this
            exact bad_len (by omega) hI (by simp at h0; omega)
          · cases hv
        · simp only [List.mem_cons, List.not_mem_nil, or_false] at hv
          rcases hv with rfl | rfl | rfl | rfl | rfl | rfl | rfl | rfl
          · exact ⟨rfl, rfl⟩
          · exact ⟨rfl, rfl⟩
          · refine bad_len (by simp; omega) (fun v hv => ?_) (by simp)
            rcases List.mem_append.mp hv with hv | hv
            · exact hR v hv
            · have : v = .tup [.int 0, .int 1] := by simpa using hv
              rw [this]; rfl
          · exact bad_last hl1 hI rfl rfl
          · exact bad_last hl1 hI rfl (by decide)
          · exact bad_last hl1 hI rfl (by decide)
          · exact ⟨rfl, rfl⟩
          · exact ⟨rfl, rfl⟩
      · simp only [List.mem_cons, List.not_mem_nil, or_false] at hv
        rcases hv with rfl | rfl | rfl
        · exact bad_last hl1 hI rfl rfl
        · exact bad_last hl1 hI rfl rfl
        · refine bad_len (by simp; omega) (fun v hv => ?_) (by simp)
          rcases List.mem_append.mp hv with hv | hv
          · exact hR v hv
          · have : v = .tup [.int 1, .int 1] := by simpa using hv
            rw [this]; rfl
    · simp only [List.mem_cons, List.not_mem_nil, or_false] at hv
      rcases hv with rfl | rfl
      · exact bad_last hl1 hI rfl rfl
      · exact bad_last hl1 hI rfl rfl
  revert key
  generalize hLL : (((if (!decide (n = 0)) = true then [V.lst I] else []) ++ [V.none, V.tup (rowR n r), V.lst (rowR n r ++ [V.tup [V.int 0, V.int 1]]), V.lst (I ++ [V.int 1]), V.lst (I ++ [V.tup [V.int 2, V.int 4]]), V.lst (I ++ [V.tup [V.int 1, V.int 0]]), V.str (Str.ofString "row"), V.dct [] []]) ++
      [V.lst (I ++ [V.tup [V.bool true, V.int 1]]), V.lst (I ++ [V.lst [V.int 1, V.int 1]]), V.lst (rowR n r ++ (List.replicate (Int.toNat 9) [V.tup [V.int 1, V.int 1]]).flatten)]) ++ [V.lst (I ++ [V.tup [V.dct [] [], V.int 1]]), V.lst (I ++ [V.tup [V.int 1, V.lst [V.int 1]]])] = LL
  intro key
  have h0 : 0 < LL.length := by rw [← hLL]; simp
  refine S2.modI (by omega) ?_
  have r1 := fmod_range a (b := (LL.length : Int)) (by omega)
  obtain ⟨j, hj⟩ := int_nat r1.1
  rw [hj] at r1 ⊢
  have hj' : j < LL.length := by omega
  exact S2.item_lst (k := j) (List.getElem?_eq_getElem hj') (q _ (key _ (List.getElem_mem hj')))
end
theorem c_l_sums (W : Wl c) {n m kx kk : Nat} {x : Nat → Rat} {K : Nat → Nat → Rat} {lr : Addr} (hn : n ≤ 100) (hm : m ≤ 100) (er : η lr = some (.lst ((List.range m).map fun i => V.lst (rowR n (K i))))) (bx : ∀ i, i < m → Bz kx (x i)) (bk : ∀ i k, i < m → k < n → Bz kk (K i k)) (hz : (m + 1) * (kx + kk + 1) ≤ 2 ^ 25)
    (q : Q (.lst (rowR n fun k => sumR m fun i => x i * K i k)) η) : SC c (d + 105) true (.ref l_sums) [.lst (rowR m x), .loc lr, .int (n : Nat)] η Q X := by
  have sl : sizeLine = 16777216 := by decide
  refine SC.frz ?_
  ((refine SC.def2 (by assumption) (by rfl) (by kernel_rfl) (by kernel_rfl) (by rfl) (by rfl) ?_; dsimp only [initσ]))
  refine SS.assign (SE.lstM (SL.nil ⟨by decide, fun a na => A.put ?_⟩))
  have ne : lr ≠ a := by rintro rfl; rw [na] at er; cases er
  refine SS.for ["_law_place"] ?_
  (repeat walk_at "m.one")
  refine ⟨_, rng_ok (by omega), ForL.rngH (fun k => [some (.lst (rowR m x)), some (.loc lr), some (.int (n : Nat)), some (.loc a), none, none, none, none, none, none, none, none]) (fun k => η.set a (.lst (rowR k fun k => sumR m fun i => x i * K i k))) (fun k hk => ⟨_, by (with_reducible (repeat (first | exact Put.loc | exact Put.cell | apply Put.tail))), ?_⟩) (fun σ' l => SS.forget l ?_) (by simp [Less])⟩
  · (repeat walk_at "m.one")
    have er' : (η.set a (.lst (rowR k fun k => sumR m fun i => x i * K i k))) lr = some (.lst ((List.range m).map fun i => V.lst (rowR n (K i)))) := (Hp.set_ne _ _ ne).trans er
    refine SS.forJ ["_law_part", "_law_row"] (SJ.zipR (by (with_reducible (repeat (first | exact List.mem_cons_self | apply List.mem_cons_of_mem)))) (W.b (by (with_reducible (repeat (first | exact List.mem_cons_self | apply List.mem_cons_of_mem))))) ?_)
    (repeat walk_at "m.one")
    refine ⟨_, _, lr, rfl, er', ?_⟩
    rw [zipV_range]
    refine ForLG.mapT er' (fun i => [some (.lst (rowR m x)), some (.loc lr), some (.int (n : Nat)), some (.loc a), some (.int (k : Nat)), some (rS (sumR i fun i => x i * K i k)), none, none, none, none, none, none]) (fun i hi => ?_) (fun σ' l => SS.forget l ?_) (by simp [Less]; rfl)
    · refine SA.tup2 (by (with_reducible (repeat (first | exact Put.loc | exact Put.cell | apply Put.tail)))) (by (with_reducible (repeat (first | exact Put.loc | exact Put.cell | apply Put.tail)))) ?_
      have b1 := (bx i hi).mul (bk i k hi hk)
      have b2 := sumBz (m := m) (k := kx + kk) (f := fun i => x i * K i k) (fun i hi => (bx i hi).mul (bk i k hi hk)) i (by omega)
      have z1 : i * (kx + kk + 1) ≤ (m + 1) * (kx + kk + 1) := Nat.mul_le_mul_right _ (by omega)
      have z2 : kx + kk + 1 ≤ (m + 1) * (kx + kk + 1) := Nat.le_mul_of_pos_left _ (by omega)
      (repeat walk_at "m.one")
      refine S2.item_lst (k := k) (range_get _ hk) ?_
      (repeat walk_at "m.one")
      refine c_l_timesR W (k := kx + kk) ((bx i hi).mono (by omega)) ((bk i k hi hk).mono (by omega)) (by omega) ?_
      (repeat walk_at "m.one")
      refine c_l_plusR W (k := (m + 1) * (kx + kk + 1)) (b2.mono z1) (b1.mono (by omega)) hz ?_
      (repeat walk_at "m.one")
      exact ⟨by simp [Less]; rfl, rfl⟩
    · refine SS.expr ?_
      with_reducible refine SE.meth (A.var ⟨_, Meth.append (Hp.set_self ..), Callee.bi, ?_⟩)
      (repeat walk_at "m.one")
      refine SC.append (Hp.set_self ..) (by simp; omega) ?_
      rw [Hp.set_set]
      (repeat walk_at "m.one")
      exact ⟨by simp [Less], by rw [row_snoc]⟩
  · (repeat walk_at "m.one")
    exact ⟨Ext.set na, _, .lst (Hp.set_self ..) na (Frzs.keep (row_linR _ _)), q⟩

noncomputable abbrev ownKs : List Str := [Str.ofString "size", Str.ofString "span", Str.ofString "tops", Str.ofString "rows", Str.ofString "copies"]
noncomputable abbrev ownV (n : Nat) (a lt lr lc : Addr) : V := .dct ownKs [.int (n : Nat), .loc a, .loc lt, .loc lr, .loc lc]
noncomputable abbrev pairsL (ps : List (Nat × (Nat → Rat))) : List V := ps.map fun p => V.tup [.lst (rowR p.1 p.2), .lst (rowR p.1 p.2)]
noncomputable abbrev keptL (n m : Nat) (K : Nat → Nat → Rat) : List V := (List.range m).map fun i => V.lst (rowR n (K i))
/-- one of the two worlds, in the heap -/
structure OwnH (η : Hp) (n : Nat) (a dd l lt lr lc : Addr) (s : Sp) (T : Nat → IRow) (K : Nat → Nat → Rat) (ps : List (Nat × (Nat → Rat))) : Prop where
  span : SpanAt η a dd l n s
  et : η lt = some (.lst (topsL n ((List.range s.m).map T)))
  er : η lr = some (.lst (keptL n s.m K))
  ec : η lc = some (.lst (pairsL ps))
  d1 : l ≠ lt
  d2 : l ≠ lr
  d3 : l ≠ lc
  d4 : lt ≠ lr
  d5 : lt ≠ lc
  d6 : lr ≠ lc
/-- what it means -/
structure OwnM (n : Nat) (s : Sp) (T : Nat → IRow) (D : Nat → Int) (K : Nat → Nat → Rat) : Prop where
  ok : SpOk s n 40 K
  kept : Kept n s.m T D K
  ind : Ind n ((List.range s.m).map T)
  few : s.m ≤ 8
  tb : ∀ i k, i < s.m → k < n → Lb (20 + 2 * s.m) (T i k)
  kb : ∀ i k, i < s.m → k < n → Bz 40 (K i k)
theorem own_item (W : Wl c) {n : Nat} {a lt lr lc : Addr} {e i : Expr} {x : Str} (j : Nat) {u : V} (hk : ownKs[j]? = some x) (hv : ([V.int (n : Nat), .loc a, .loc lt, .loc lr, .loc lc] : List V)[j]? = some u) (q : Q u η) (hs : notSlice i = true := by with_unfolding_all rfl) (hg : ∀ o r, letTemporaryGo e o r = pure () := by intro _ _; with_unfolding_all rfl) :
    S2 c d hd (subscriptTail e i) (ownV n a lt lr lc) (.str x) η Q X := S2.item_dct (j := j) (by decide +kernel) hk hv q hs hg
section
variable {n : Nat} {a dd l lt lr lc : Addr} {s : Sp} {T : Nat → IRow} {D : Nat → Int} {K : Nat → Nat → Rat} {ps : List (Nat × (Nat → Rat))} {t : IRow} {D₀ : Int}
theorem OwnM.due (M : OwnM n s T D K) (hD : 0 < D₀) : (rkF ((List.range s.m).map T ++ [t]) n > s.m) ↔ ¬ ∀ k, k < n → s.left (fun k => (t k : Rat) / (D₀ : Rat)) k = 0 := by
  have h1 := ind_full (n := n) ((List.range s.m).map T ++ [t])
  have h2 := rk_le ((List.range s.m).map T ++ [t]) n
  have h3 := due_iff (r := fun k => (t k : Rat) / (D₀ : Rat)) M.ok.good M.kept hD (fun j _ => rfl) M.ind (t := t)
  have h4 : ((List.range s.m).map T ++ [t]).length = s.m + 1 := by simp
  rw [← h3, ← h1, h4]
  rw [h4] at h2
  omega
theorem OwnM.lb (M : OwnM n s T D K) (ht : ∀ k, k < n → Lb (22 + 2 * s.m) (t k)) : ∀ r ∈ (List.range s.m).map T ++ [t], ∀ k, k < n → Lb 38 (r k) := fun r hr k hk => by
  have := M.few
  rcases List.mem_append.mp hr with hr | hr
  · obtain ⟨i, hi, rfl⟩ := List.mem_map.mp hr
    exact (M.tb i k (List.mem_range.mp hi) hk).mono (by omega)
  · have e : r = t := by simpa using hr
    rw [e]; exact (ht k hk).mono (by omega)
theorem c_l_rankO (W : Wl c) (M : OwnM n s T D K) (hn : n ≤ 100) (ht : ∀ k, k < n → Lb (22 + 2 * s.m) (t k)) (q : Q (.int (rkF ((List.range s.m).map T ++ [t]) n : Nat)) η) :
    SC c (d + 1) true (.ref l_rank) [.lst (topsL n ((List.range s.m).map T) ++ [.lst (rowI n t)])] η Q X := by
  have few := M.few
  have e : topsL n ((List.range s.m).map T) ++ [.lst (rowI n t)] = topsL n ((List.range s.m).map T ++ [t]) := by unfold topsL; rw [List.map_append]; rfl
  rw [e]
  refine c_l_rank W (b := 38) (by simp) hn (by simp; omega) (M.lb ht) ?_ q
  have : 2 ^ ((List.range s.m).map T ++ [t]).length ≤ 2 ^ 9 := Nat.pow_le_pow_right (by decide) (by simp; omega)
  omega
theorem c_l_tells_good (W : Wl c) (H : OwnH η n a dd l lt lr lc s T K ps) (M : OwnM n s T D K) (hn : n ≤ 100) (hD : 0 < D₀) (ht : ∀ k, k < n → Lb (22 + 2 * s.m) (t k)) (hps : ps.length ≤ 1000) (hr : ∀ k, k < n → Bz 40 ((fun k => (t k : Rat) / (D₀ : Rat)) k))
    (hv : (v = .none ∧ ¬ ∀ k, k < n → s.left (fun k => (t k : Rat) / (D₀ : Rat)) k = 0) ∨ (v = .lst (rowR s.m (s.by fun k => (t k : Rat) / (D₀ : Rat))) ∧ ∀ k, k < n → s.left (fun k => (t k : Rat) / (D₀ : Rat)) k = 0))
    (q : ∀ ps', ps'.length ≤ ps.length + 1 → Q (.bool true) (η.set lc (.lst (pairsL ps')))) :
    SC c (d + 106) true (.ref l_tells_good) [v, .lst (rowI n t), .lst (rowR n fun k => (t k : Rat) / (D₀ : Rat)), ownV n a lt lr lc] η Q X := by
  have sl : sizeLine = 16777216 := by decide
  have few := M.few
  have due := M.due (t := t) hD
  generalize hR : (fun k => (t k : Rat) / (D₀ : Rat)) = r at *
  ((refine SC.def2 (by assumption) (by rfl) (by kernel_rfl) (by kernel_rfl) (by rfl) (by rfl) ?_; dsimp only [initσ]))
  refine SS.ifX (decide ((rkF ((List.range s.m).map T ++ [t]) n : Int) > (s.m : Int))) ?_ (fun h => ?_) fun h => ?_
  · (repeat walk_at "m.one")
    refine own_item W 2 (by rfl) (by rfl) ?_
    (repeat walk_at "m.one")
    refine S2.addA (.loc H.et) .lst (by simp; omega) ?_
    (repeat walk_at "m.one")
    refine c_l_rankO W M hn ht ?_
    (repeat walk_at "m.one")
    refine own_item W 2 (by rfl) (by rfl) ?_
    (repeat walk_at "m.one")
    refine SC.len_loc H.et ?_
    (repeat walk_at "m.one")
    simp only [List.length_map, List.length_range]
    exact ⟨by trivial, by trivial⟩
  · have h' : rkF ((List.range s.m).map T ++ [t]) n > s.m := by simp at h; omega
    rcases hv with ⟨rfl, _⟩ | ⟨rfl, h0⟩
    · (repeat walk_at "m.one")
      refine S2.isNone (b := true) rfl ?_
      have := q ps (by omega)
      rw [Hp.set_same H.ec] at this
      exact this
    · exact absurd h0 (due.mp h')
  · have h' : ¬ rkF ((List.range s.m).map T ++ [t]) n > s.m := by simp at h; omega
    rcases hv with ⟨rfl, h0⟩ | ⟨rfl, h0⟩
    · exact absurd (due.mpr h0) h'
    have cz := M.ok.sz.cl M.ok.good.pl hr s.m (Nat.le_refl _)
    have nb8 := nb_lid (b := 40) (by decide) 8 (by decide)
    have nb8' : nB 40 8 = 2708820 := by decide
    have nbm := nB_mono 40 few
    have esum : (rowR n fun k => sumR s.m fun i => s.by r i * K i k) = rowR n r := row_congr fun k hk => by
      have := M.ok.good.sum (r := r) s.m (Nat.le_refl _) k hk
      rw [show (s.cl r s.m).1 k = 0 from h0 k hk] at this
      show sumR s.m (fun i => (s.cl r s.m).2 i * K i k) = r k
      grind
    refine SS.ifX (!true || ((s.m : Int) != (s.m : Int))) (TP.or (TP.not ?_) fun _ => ?_) (fun h => by simp at h) fun _ => ?_
    · (repeat walk_at "m.one")
      refine SC.isi (b := true) (by rfl) ?_
      (repeat walk_at "m.one")
      exact ⟨rfl, rfl⟩
    · (repeat walk_at "m.one")
      refine own_item W 3 (by rfl) (by rfl) ?_
      (repeat walk_at "m.one")
      refine SC.len_loc H.er ?_
      (repeat walk_at "m.one")
      simp only [List.length_map, List.length_range]
      exact ⟨by trivial, by trivial⟩
    refine SS.ifX (false || false) (TP.or ?_ fun _ => ?_) (fun h => by simp at h) fun _ => ?_
    · (repeat walk_at "m.one")
      refine SE.comp ["_law_part"] (some _) (by (with_reducible (repeat (first | exact CapR.nil | apply CapR.own (by decide) | apply CapR.cap (by repeat (first | exact At.head | apply At.tail)) | apply CapR.capF (by repeat (first | exact At.head | apply At.tail)))))) ?_
      (repeat walk_at "m.one")
      refine ⟨_, SI.lst, range_len (by omega), ?_⟩
      refine CompL.filterL (u := fun k => rS (s.by r k)) (g := fun k => rS (s.by r k)) (p := fun _ => !true) (fun k hk => ⟨_, by (with_reducible (repeat (first | exact Put.loc | exact Put.cell | apply Put.tail))), by simp [Less], TP.not ?_, fun h => by cases h⟩) ?_
      · (repeat walk_at "m.one")
        refine c_l_is W ?_
        (repeat walk_at "m.one")
        exact ⟨rfl, rfl⟩
      rw [List.nil_append, show (List.filter (fun _ : Nat => !true) (List.range s.m)) = [] by simp, List.map_nil]
      (repeat walk_at "m.one")
      refine S2.neNil ?_
      (repeat walk_at "m.one")
      exact ⟨rfl, rfl⟩
    · (repeat walk_at "m.one")
      refine own_item W 3 (by rfl) (by rfl) ?_
      (repeat walk_at "m.one")
      rw [show ((rowR n r).length : Int) = (n : Int) by simp]
      refine c_l_sums W (kx := 2708820) (kk := 40) hn (by omega) H.er (fun i hi => (cz.2 i).mono (by omega)) M.kb ?_ ?_
      · have : (s.m + 1) * (2708820 + 40 + 1) ≤ 9 * (2708820 + 40 + 1) := Nat.mul_le_mul_right _ (by omega)
        omega
      rw [esum]
      (repeat walk_at "m.one")
      have hs := row_shs n r
      refine S2.neSelf (dt := .list ((rowR n r).map shD)) (.lst hs.pyrs) (.lst hs.pyrs) hs.shaped ?_
      (repeat walk_at "m.one")
      exact ⟨rfl, rfl⟩
    refine SS.expr ?_
    have k4 : ownKs[4]? = some (Str.ofString "copies") := rfl
    have v4 : ([V.int (n : Nat), .loc a, .loc lt, .loc lr, .loc lc] : List V)[4]? = some (.loc lc) := rfl
    with_reducible refine SE.meth (SE.sub (A.var (SE.str (own_item W 4 k4 v4 ⟨_, Meth.append H.ec, Callee.bi, ?_⟩))))
    (repeat walk_at "m.one")
    refine SC.listOf ?_
    (repeat walk_at "m.one")
    refine SC.append H.ec (by simp; omega) ?_
    rw [show pairsL ps ++ [V.tup [V.lst (rowR s.m (s.by r)), V.lst (rowR s.m (s.by r))]] = pairsL (ps ++ [(s.m, s.by r)]) by unfold pairsL; rw [List.map_append]; rfl]
    (repeat walk_at "m.one")
    exact q _ (by simp)
end

theorem SS.ifN {nm : List (Str × NameKind)} {σ : List (Option V)} {t : Expr} {b1 b2 rest : List Stmt} {pos : Pos} {N : List (Option V) → Hp → Prop} {R : V → Hp → Prop} (N' : List (Option V) → Hp → Prop) (p : ST c d hd nm σ η t (fun u η₁ => if u then SS c d hd nm σ η₁ b1 N' R X else SS c d hd nm σ η₁ b2 N' R X) X)
    (k : ∀ σ' η', N' σ' η' → SS c d hd nm σ' η' rest N R X) : SS c d hd nm σ η (.If t b1 b2 pos :: rest) N R X := by
  refine SS.if (p.mono (fun u η₁ h => ?_) fun _ _ e => e)
  cases u with
  | true => exact SS.mono h k (fun _ _ q => q) fun _ _ q => q
  | false => exact SS.mono h k (fun _ _ q => q) fun _ _ q => q
noncomputable def addT {α : Type} (m : Nat) (T : Nat → α) (t : α) : Nat → α := fun i => if i = m then t else T i
theorem addT_eq {α : Type} (m : Nat) (T : Nat → α) (t : α) : (List.range (m + 1)).map (addT m T t) = (List.range m).map T ++ [t] := by
  rw [List.range_succ, List.map_append]
  congr 1
  · refine List.map_congr_left fun i hi => ?_
    have := List.mem_range.mp hi
    exact if_neg (by omega)
  · rw [List.map_singleton]; exact congrArg (fun x => [x]) (if_pos rfl)
section
variable {n : Nat} {a dd l lt lr lc : Addr} {s : Sp} {T : Nat → IRow} {D : Nat → Int} {K : Nat → Nat → Rat} {ps : List (Nat × (Nat → Rat))} {t : IRow} {D₀ : Int}
theorem OwnH.ext {η' : Hp} (H : OwnH η n a dd l lt lr lc s T K ps) (x : Ext η η') : OwnH η' n a dd l lt lr lc s T K ps :=
  ⟨⟨x _ _ H.span.ea, x _ _ H.span.ed, x _ _ H.span.el⟩, x _ _ H.et, x _ _ H.er, x _ _ H.ec, H.d1, H.d2, H.d3, H.d4, H.d5, H.d6⟩
theorem OwnH.other {b : Addr} {o : MObj} (H : OwnH η n a dd l lt lr lc s T K ps) (h1 : a ≠ b) (h2 : dd ≠ b) (h3 : l ≠ b) (h4 : lt ≠ b) (h5 : lr ≠ b) (h6 : lc ≠ b) : OwnH (η.set b o) n a dd l lt lr lc s T K ps :=
  ⟨⟨(Hp.set_ne _ _ h1).trans H.span.ea, (Hp.set_ne _ _ h2).trans H.span.ed, (Hp.set_ne _ _ h3).trans H.span.el⟩, (Hp.set_ne _ _ h4).trans H.et, (Hp.set_ne _ _ h5).trans H.er, (Hp.set_ne _ _ h6).trans H.ec, H.d1, H.d2, H.d3, H.d4, H.d5, H.d6⟩
theorem some_ne {b b' : Addr} {o : MObj} (h : η b = some o) (h' : η b' = none) : b ≠ b' := fun e => by rw [e, h'] at h; cases h
theorem kind_ne {b b' : Addr} {vs : List V} {o : MObj} (h : η b = some (.lst vs)) (h' : η b' = some o) (ho : ∀ vs, o ≠ .lst vs) : b' ≠ b := fun e => by rw [e, h] at h'; cases h'; exact ho _ rfl
theorem OwnH.a_ne (H : OwnH η n a dd l lt lr lc s T K ps) {b : Addr} {vs : List V} (h : η b = some (.lst vs)) : a ≠ b := kind_ne h H.span.ea fun _ e => by cases e
theorem OwnH.dd_ne (H : OwnH η n a dd l lt lr lc s T K ps) {b : Addr} {vs : List V} (h : η b = some (.lst vs)) : dd ≠ b := kind_ne h H.span.ed fun _ e => by cases e
theorem OwnH.copies {ps' : List (Nat × (Nat → Rat))} (H : OwnH η n a dd l lt lr lc s T K ps) : OwnH (η.set lc (.lst (pairsL ps'))) n a dd l lt lr lc s T K ps' :=
  ⟨⟨(Hp.set_ne _ _ (H.a_ne H.ec)).trans H.span.ea, (Hp.set_ne _ _ (H.dd_ne H.ec)).trans H.span.ed, (Hp.set_ne _ _ H.d3).trans H.span.el⟩, (Hp.set_ne _ _ H.d5).trans H.et, (Hp.set_ne _ _ H.d6).trans H.er, Hp.set_self .., H.d1, H.d2, H.d3, H.d4, H.d5, H.d6⟩
theorem OwnH.added {p : Nat} {r : Nat → Rat} (H : OwnH η n a dd l lt lr lc s T K ps) : OwnH (((η.set l (.lst (stepsV n (s.add p r)))).set lt (.lst (topsL n ((List.range s.m).map T) ++ [.lst (rowI n t)]))).set lr (.lst (keptL n s.m K ++ [.lst (rowR n r)]))) n a dd l lt lr lc (s.add p r) (addT s.m T t) (addK s.m K r) ps := by
  have e1 : (List.range (s.m + 1)).map (addT s.m T t) = (List.range s.m).map T ++ [t] := addT_eq _ _ _
  have e2 : keptL n (s.m + 1) (addK s.m K r) = keptL n s.m K ++ [.lst (rowR n r)] := by
    unfold keptL
    rw [List.range_succ, List.map_append]
    congr 1
    · refine List.map_congr_left fun i hi => ?_
      have := List.mem_range.mp hi
      rw [show addK s.m K r i = K i from if_neg (by omega)]
    · rw [List.map_singleton, show addK s.m K r s.m = r from if_pos rfl]
  refine ⟨⟨?_, ?_, ?_⟩, ?_, ?_, ?_, H.d1, H.d2, H.d3, H.d4, H.d5, H.d6⟩
  · rw [Hp.set_ne _ _ (H.a_ne H.er), Hp.set_ne _ _ (H.a_ne H.et), Hp.set_ne _ _ (H.a_ne H.span.el)]; exact H.span.ea
  · rw [Hp.set_ne _ _ (H.dd_ne H.er), Hp.set_ne _ _ (H.dd_ne H.et), Hp.set_ne _ _ (H.dd_ne H.span.el)]; exact H.span.ed
  · rw [Hp.set_ne _ _ H.d2, Hp.set_ne _ _ H.d1, Hp.set_self]
  · rw [Hp.set_ne _ _ H.d4, Hp.set_self, show (s.add p r).m = s.m + 1 from rfl, e1]; unfold topsL; rw [List.map_append]; rfl
  · rw [Hp.set_self, show (s.add p r).m = s.m + 1 from rfl, e2]
  · rw [Hp.set_ne _ _ (Ne.symm H.d6), Hp.set_ne _ _ (Ne.symm H.d5), Hp.set_ne _ _ (Ne.symm H.d3)]; exact H.ec
theorem OwnM.added {p : Nat} (M : OwnM n s T D K) (cap : n ≤ 8 ∨ s.m + 1 ≤ 8) (hD : 0 < D₀) (ht : ∀ k, k < n → Lb (22 + 2 * s.m) (t k)) (hr : ∀ k, k < n → Bz 40 ((fun k => (t k : Rat) / (D₀ : Rat)) k)) (hp : p < n) (h0 : s.left (fun k => (t k : Rat) / (D₀ : Rat)) p ≠ 0) :
    OwnM n (s.add p fun k => (t k : Rat) / (D₀ : Rat)) (addT s.m T t) (addT s.m D D₀) (addK s.m K fun k => (t k : Rat) / (D₀ : Rat)) := by
  have ok := M.ok.add hr hp h0
  have em : (s.add p fun k => (t k : Rat) / (D₀ : Rat)).m = s.m + 1 := rfl
  have nT : addT s.m T t s.m = t := if_pos rfl
  have nD : addT s.m D D₀ s.m = D₀ := if_pos rfl
  have nK : addK s.m K (fun k => (t k : Rat) / (D₀ : Rat)) s.m = fun k => (t k : Rat) / (D₀ : Rat) := if_pos rfl
  have oT : ∀ i, i < s.m → addT s.m T t i = T i := fun i h => if_neg (by omega)
  have oD : ∀ i, i < s.m → addT s.m D D₀ i = D i := fun i h => if_neg (by omega)
  have oK : ∀ i, i < s.m → addK s.m K (fun k => (t k : Rat) / (D₀ : Rat)) i = K i := fun i h => if_neg (by omega)
  refine ⟨ok, ⟨fun i hi => ?_, fun i k hi hk => ?_⟩, ?_, ?_, fun i k hi hk => ?_, fun i k hi hk => ?_⟩
  · by_cases e : i = s.m
    · rw [e, nD]; exact hD
    · rw [oD i (by omega)]; exact M.kept.pos i (by omega)
  · by_cases e : i = s.m
    · rw [e, nD, nT, nK]
    · rw [oD i (by omega), oT i (by omega), oK i (by omega)]; exact M.kept.eq i k (by omega) hk
  · rw [em, addT_eq]
    exact (due_iff M.ok.good M.kept hD (fun j _ => rfl) M.ind).mpr fun h => h0 (h p hp)
  · rcases cap with h | h
    · have := ok.good.few; omega
    · rw [em]; exact h
  · rw [em] at hi ⊢
    by_cases e : i = s.m
    · rw [e, nT]; exact (ht k hk).mono (by omega)
    · rw [oT i (by omega)]; exact (M.tb i k (by omega) hk).mono (by omega)
  · by_cases e : i = s.m
    · rw [e, nK]; exact hr k hk
    · rw [oK i (by omega)]; exact M.kb i k (by omega) hk
theorem c_l_deed (W : Wl c) {z : Int} (H : OwnH η n a dd l lt lr lc s T K ps) (M : OwnM n s T D K) (hn : n ≤ 100) (cap : n ≤ 8 ∨ s.m + 1 ≤ 8) (hps : ps.length ≤ 900)
    (q : ∀ η' s' T' D' K' ps', OwnH η' n a dd l lt lr lc s' T' K' ps' → OwnM n s' T' D' K' → s'.m ≤ s.m + 1 → ps'.length ≤ ps.length + 2 → (∀ b o, η b = some o → b ≠ l → b ≠ lt → b ≠ lr → b ≠ lc → η' b = some o) → Q (.bool true) η') :
    SC c (d + 109) true (.ref l_deed) [ownV n a lt lr lc, .int z] η Q X := by
  have sl : sizeLine = 16777216 := by decide
  have np : ∀ a b : Int, b.natAbs < 2 ^ 9000 → Builtin.divisionGoesByPylong a b = false := fun a b h => noPylong_pow h
  have few := M.few
  ((refine SC.def2 (by assumption) (by rfl) (by kernel_rfl) (by kernel_rfl) (by rfl) (by rfl) ?_; dsimp only [initσ]))
  (repeat walk_at "m.one")
  refine own_item W 0 (by rfl) (by rfl) ?_
  (repeat walk_at "m.one")
  refine S2.divI (by decide) (np _ _ (by decide +kernel)) ?_
  (repeat walk_at "m.one")
  refine own_item W 2 (by rfl) (by rfl) ?_
  (repeat walk_at "m.one")
  refine c_l_tops_by W (b := 20 + 2 * s.m) H.et hn (by simp; omega) (fun r hr k hk => ?_) (by omega) (by omega) fun t ht0 => ?_
  · obtain ⟨i, hi, rfl⟩ := List.mem_map.mp hr
    exact M.tb i k (List.mem_range.mp hi) hk
  have ht : ∀ k, k < n → Lb (22 + 2 * s.m) (t k) := fun k hk => (ht0 k hk).mono (by omega)
  clear ht0
  (repeat walk_at "m.one")
  refine S2.divI (by decide) (np _ _ (by decide +kernel)) ?_
  (repeat walk_at "m.one")
  refine S2.modI (by decide) ?_
  (repeat walk_at "m.one")
  have r1 := fmod_range (z.fdiv 9) (b := 13) (by decide)
  generalize hD0 : 1 + (z.fdiv 9).fmod 13 = D₀
  have hD : 0 < D₀ := by omega
  have hr : ∀ k, k < n → Bz 40 ((fun k => (t k : Rat) / (D₀ : Rat)) k) := fun k hk => Bz.div_int (by omega) (((ht k hk).mono (by omega) : Lb 40 (t k))) (by
    have : D₀.natAbs ≤ 13 := by omega
    exact Nat.le_trans this (by decide))
  refine SS.assignComp ["_law_top"] none (by (with_reducible (repeat (first | exact CapR.nil | apply CapR.own (by decide) | apply CapR.cap (by repeat (first | exact At.head | apply At.tail)) | apply CapR.capF (by repeat (first | exact At.head | apply At.tail)))))) (.inl (by (with_reducible (repeat (first | exact List.mem_cons_self | apply List.mem_cons_of_mem))))) ?_
  (repeat walk_at "m.one")
  refine ⟨_, SI.lst, range_len (by omega), CompL.mapN (g := fun k => rS ((t k : Rat) / (D₀ : Rat))) (fun k hk => ⟨_, by (with_reducible (repeat (first | exact Put.loc | exact Put.cell | apply Put.tail))), by simp [Less], ?_⟩) ?_⟩
  · (repeat walk_at "m.one")
    exact c_l_shareP W hD ⟨rfl, rfl⟩
  rw [List.nil_append]
  refine A.put ?_
  (repeat walk_at "m.one")
  refine own_item W 1 (by rfl) (by rfl) ?_
  (repeat walk_at "m.one")
  refine SS.ifX (z.fmod 9 == 8 && false) (TP.and ?_ fun _ => ?_) (fun h => by simp at h) fun _ => ?_
  · (repeat walk_at "m.one")
    refine S2.modI (by decide) ?_
    (repeat walk_at "m.one")
    exact ⟨rfl, rfl⟩
  · (repeat walk_at "m.one")
    refine S2.divI (by decide) (np _ _ (by decide +kernel)) ?_
    (repeat walk_at "m.one")
    refine S2.modI (by decide) ?_
    (repeat walk_at "m.one")
    refine S2.divI (by decide) (np _ _ (by decide +kernel)) ?_
    (repeat walk_at "m.one")
    refine c_l_wrong W hn fun v hv => ?_
    (repeat walk_at "m.one")
    refine c_l_told_bad W H.span hn hv ?_
    (repeat walk_at "m.one")
    refine S2.neSelf (dt := .tuple [.str (Str.ofString "refused"), .str (Str.ofString "row")]) (.tup (.cons .str (.cons .str .nil))) (.tup (.cons .str (.cons .str .nil))) (by decide +kernel) ?_
    (repeat walk_at "m.one")
    exact ⟨rfl, rfl⟩
  (repeat walk_at "m.one")
  refine SC.listM fun ha na => ?_
  (repeat walk_at "m.one")
  have H1 : OwnH (η.set ha (.lst (rowR n fun k => (t k : Rat) / (D₀ : Rat)))) n a dd l lt lr lc s T K ps := H.ext (Ext.set na)
  have eha : (η.set ha (.lst (rowR n fun k => (t k : Rat) / (D₀ : Rat)))) ha = some (.lst (rowR n fun k => (t k : Rat) / (D₀ : Rat))) := Hp.set_self ..
  have fr1 : ∀ b o, η b = some o → b ≠ l → b ≠ lt → b ≠ lr → b ≠ lc → (η.set ha (.lst (rowR n fun k => (t k : Rat) / (D₀ : Rat)))) b = some o := fun b o e _ _ _ _ => Ext.set na b o e
  have n1 : l ≠ ha := some_ne H.span.el na
  have n2 : lt ≠ ha := some_ne H.et na
  have n3 : lr ≠ ha := some_ne H.er na
  have n4 : lc ≠ ha := some_ne H.ec na
  have n5 : a ≠ ha := some_ne H.span.ea na
  have n6 : dd ≠ ha := some_ne H.span.ed na
  have due := M.due (t := t) hD
  have due2 : Ind n ((List.range s.m).map T ++ [t]) ↔ _ := due_iff (r := fun k => (t k : Rat) / (D₀ : Rat)) M.ok.good M.kept hD (fun j _ => rfl) M.ind (t := t)
  generalize η.set ha (.lst (rowR n fun k => (t k : Rat) / (D₀ : Rat))) = η₁ at *
  refine SS.ifN (fun σ' η' => Less [some (ownV n a lt lr lc), some (.int z), some (.int (n : Nat)), some (.lst (rowI n t)), some (.int D₀), some (.lst (rowR n fun k => (t k : Rat) / (D₀ : Rat))), some (.loc a), some (.loc ha), none, none, none, none, none, none, none, none, none, none, none, none, none] σ' ∧ ∃ s' T' D' K' ps', OwnH η' n a dd l lt lr lc s' T' K' ps' ∧ OwnM n s' T' D' K' ∧ s.m ≤ s'.m ∧ s'.m ≤ s.m + 1 ∧ ps'.length ≤ ps.length + 1 ∧ η' ha = some (.lst (rowR n fun k => (t k : Rat) / (D₀ : Rat))) ∧ ∀ b o, η b = some o → b ≠ l → b ≠ lt → b ≠ lr → b ≠ lc → η' b = some o) ?_ ?_
  · (repeat walk_at "m.one")
    refine S2.modI (by decide) ?_
    (repeat walk_at "m.one")
    refine iteS (fun _ => ?_) fun _ => ?_
    · have fin : ∀ ps' : List (Nat × (Nat → Rat)), ps'.length ≤ ps.length + 1 → Less [some (ownV n a lt lr lc), some (.int z), some (.int (n : Nat)), some (.lst (rowI n t)), some (.int D₀), some (.lst (rowR n fun k => (t k : Rat) / (D₀ : Rat))), some (.loc a), some (.loc ha), none, none, none, none, none, none, none, none, none, none, none, none, none] [some (ownV n a lt lr lc), some (.int z), some (.int (n : Nat)), some (.lst (rowI n t)), some (.int D₀), some (.lst (rowR n fun k => (t k : Rat) / (D₀ : Rat))), some (.loc a), some (.loc ha), none, none, none, none, none, none, none, none, none, none, none, none, none] ∧ ∃ s' T' D' K' ps'', OwnH (η₁.set lc (.lst (pairsL ps'))) n a dd l lt lr lc s' T' K' ps'' ∧ OwnM n s' T' D' K' ∧ s.m ≤ s'.m ∧ s'.m ≤ s.m + 1 ∧ ps''.length ≤ ps.length + 1 ∧ (η₁.set lc (.lst (pairsL ps'))) ha = some (.lst (rowR n fun k => (t k : Rat) / (D₀ : Rat))) ∧ ∀ b o, η b = some o → b ≠ l → b ≠ lt → b ≠ lr → b ≠ lc → (η₁.set lc (.lst (pairsL ps'))) b = some o :=
        fun ps' hp => ⟨Less.refl _, s, T, D, K, ps', H1.copies, M, Nat.le_refl _, by omega, hp, (Hp.set_ne _ _ (Ne.symm n4)).trans eha, fun b o e a1 a2 a3 a4 => (Hp.set_ne _ _ a4).trans (fr1 b o e a1 a2 a3 a4)⟩
      refine SS.if (ST.not ?_)
      (repeat walk_at "m.one")
      refine c_l_told W H1.span hn few (by decide) M.ok hr (.loc eha) (fun h0 => ?_) fun h0 => ?_
      · (repeat walk_at "m.one")
        refine c_l_tells_good W H1 M hn hD ht (by omega) hr (.inr ⟨rfl, h0⟩) fun ps' hp => ?_
        (repeat walk_at "m.one")
        refine iteNT ?_
        (repeat walk_at "m.one")
        exact fin ps' hp
      · (repeat walk_at "m.one")
        refine c_l_tells_good W H1 M hn hD ht (by omega) hr (.inl ⟨rfl, h0⟩) fun ps' hp => ?_
        (repeat walk_at "m.one")
        refine iteNT ?_
        (repeat walk_at "m.one")
        exact fin ps' hp
    · (repeat walk_at "m.one")
      refine own_item W 2 (by rfl) (by rfl) ?_
      (repeat walk_at "m.one")
      refine S2.addA (.loc H1.et) .lst (by simp; omega) ?_
      (repeat walk_at "m.one")
      refine c_l_rankO W M hn ht ?_
      (repeat walk_at "m.one")
      refine own_item W 2 (by rfl) (by rfl) ?_
      (repeat walk_at "m.one")
      refine SC.len_loc H1.et ?_
      (repeat walk_at "m.one")
      rw [show ((topsL n ((List.range s.m).map T)).length : Int) = (s.m : Int) by simp]
      with_reducible refine SE.meth (A.var ⟨_, Meth.own W H1.span.ea H1.span.ed (f := m_Span_put) (by kernel_rfl) (by decide +kernel), Callee.fn W (by kernel_rfl), ?_⟩)
      (repeat walk_at "m.one")
      refine c_put W H1.span hn few (by decide) M.ok hr (.loc eha) (fun h0 => ?_) fun p hp h0 => ?_
      · have dd0 : decide ((rkF ((List.range s.m).map T ++ [t]) n : Int) > (s.m : Int)) = false := by
          have : ¬ rkF ((List.range s.m).map T ++ [t]) n > s.m := fun h => due.mp h h0
          simp; omega
        rw [dd0]
        (repeat walk_at "m.one")
        refine SS.ifX (!true || (false != false)) (TP.or (TP.not ?_) fun _ => ?_) (fun h => by simp at h) fun _ => ?_
        · (repeat walk_at "m.one")
          refine SC.isi (b := true) (by rfl) ?_
          (repeat walk_at "m.one")
          exact ⟨rfl, rfl⟩
        · (repeat walk_at "m.one")
          refine S2.neB ?_
          (repeat walk_at "m.one")
          exact ⟨rfl, rfl⟩
        refine SS.if ?_
        (repeat walk_at "m.one")
        refine iteF ?_
        (repeat walk_at "m.one")
        exact ⟨by simp [Less], s, T, D, K, ps, H1, M, Nat.le_refl _, by omega, by omega, eha, fr1⟩
      · have dd1 : decide ((rkF ((List.range s.m).map T ++ [t]) n : Int) > (s.m : Int)) = true := by
          have : rkF ((List.range s.m).map T ++ [t]) n > s.m := due.mpr fun h => h0 (h p hp)
          simp; omega
        rw [dd1]
        (repeat walk_at "m.one")
        refine SS.ifX (!true || (true != true)) (TP.or (TP.not ?_) fun _ => ?_) (fun h => by simp at h) fun _ => ?_
        · (repeat walk_at "m.one")
          refine SC.isi (b := true) (by rfl) ?_
          (repeat walk_at "m.one")
          exact ⟨rfl, rfl⟩
        · (repeat walk_at "m.one")
          refine S2.neB ?_
          (repeat walk_at "m.one")
          exact ⟨rfl, rfl⟩
        refine SS.if ?_
        (repeat walk_at "m.one")
        refine iteT ?_
        have k2 : ownKs[2]? = some (Str.ofString "tops") := rfl
        have v2 : ([V.int (n : Nat), .loc a, .loc lt, .loc lr, .loc lc] : List V)[2]? = some (.loc lt) := rfl
        have k3 : ownKs[3]? = some (Str.ofString "rows") := rfl
        have v3 : ([V.int (n : Nat), .loc a, .loc lt, .loc lr, .loc lc] : List V)[3]? = some (.loc lr) := rfl
        have et' : (η₁.set l (.lst (stepsV n (s.add p fun k => (t k : Rat) / (D₀ : Rat))))) lt = some (.lst (topsL n ((List.range s.m).map T))) := (Hp.set_ne _ _ (Ne.symm H.d1)).trans H1.et
        refine SS.expr ?_
        with_reducible refine SE.meth (SE.sub (A.var (SE.str (own_item W 2 k2 v2 ⟨_, Meth.append et', Callee.bi, ?_⟩))))
        (repeat walk_at "m.one")
        refine SC.append et' (by simp; omega) ?_
        have er' : ((η₁.set l (.lst (stepsV n (s.add p fun k => (t k : Rat) / (D₀ : Rat))))).set lt (.lst (topsL n ((List.range s.m).map T) ++ [.lst (rowI n t)]))) lr = some (.lst (keptL n s.m K)) := (Hp.set_ne _ _ (Ne.symm H.d4)).trans ((Hp.set_ne _ _ (Ne.symm H.d2)).trans H1.er)
        refine SS.expr ?_
        with_reducible refine SE.meth (SE.sub (A.var (SE.str (own_item W 3 k3 v3 ⟨_, Meth.append er', Callee.bi, ?_⟩))))
        (repeat walk_at "m.one")
        refine SC.append er' (by simp; omega) ?_
        (repeat walk_at "m.one")
        refine ⟨by simp [Less], _, _, _, _, ps, H1.added, M.added cap hD ht hr hp h0, ?_, ?_, by omega, ?_, fun b o e a1 a2 a3 a4 => ?_⟩
        · exact Nat.le_succ _
        · exact Nat.le_refl _
        · rw [Hp.set_ne _ _ (Ne.symm n3), Hp.set_ne _ _ (Ne.symm n2), Hp.set_ne _ _ (Ne.symm n1)]; exact eha
        · rw [Hp.set_ne _ _ a3, Hp.set_ne _ _ a2, Hp.set_ne _ _ a1]; exact fr1 b o e a1 a2 a3 a4
  · rintro σ' η' ⟨le, s', T', D', K', ps', H', M', m1, m2, hp', eh', fr'⟩
    refine SS.forget le ?_
    have few' := M'.few
    have ht' : ∀ k, k < n → Lb (22 + 2 * s'.m) (t k) := fun k hk => (ht k hk).mono (by omega)
    have hs := row_shs n (fun k => (t k : Rat) / (D₀ : Rat))
    refine SS.ifX false ?_ (fun h => by cases h) fun _ => ?_
    · (repeat walk_at "m.one")
      refine S2.neSelf (dt := .list ((rowR n fun k => (t k : Rat) / (D₀ : Rat)).map shD)) (.loc eh' hs.pyrs) (.lst hs.pyrs) hs.shaped ?_
      (repeat walk_at "m.one")
      exact ⟨rfl, rfl⟩
    refine SS.expr ?_
    with_reducible refine SE.meth (A.var ⟨_, Meth.clear eh', Callee.bi, ?_⟩)
    (repeat walk_at "m.one")
    refine SC.clear eh' ?_
    have H2 : OwnH (η'.set ha (.lst [])) n a dd l lt lr lc s' T' K' ps' := H'.other n5 n6 n1 n2 n3 n4
    have fr2 : ∀ b o, η b = some o → b ≠ l → b ≠ lt → b ≠ lr → b ≠ lc → (η'.set ha (.lst [])) b = some o := fun b o e a1 a2 a3 a4 => (Hp.set_ne _ _ (some_ne e na)).trans (fr' b o e a1 a2 a3 a4)
    generalize η'.set ha (.lst []) = η₂ at *
    refine SS.assign ?_
    with_reducible refine SE.meth (A.var ⟨_, Meth.own W H2.span.ea H2.span.ed (f := m_Span_many) (by kernel_rfl) (by decide +kernel), Callee.fn W (by kernel_rfl), ?_⟩)
    (repeat walk_at "m.one")
    refine c_many W H2.span ?_
    (repeat walk_at "m.one")
    refine c_l_whole W (a := true) (b := false) (by rfl) (by rfl) ?_
    (repeat walk_at "m.one")
    refine iteT ?_
    (repeat walk_at "m.one")
    refine own_item W 3 (by rfl) (by rfl) ?_
    (repeat walk_at "m.one")
    refine SC.len_loc H2.er ?_
    (repeat walk_at "m.one")
    rw [show (((s'.m : Nat) : Int) == ((keptL n s'.m K').length : Int)) = true by simp]
    refine iteT ?_
    (repeat walk_at "m.one")
    with_reducible refine SE.meth (A.var ⟨_, Meth.own W H2.span.ea H2.span.ed (f := m_Span_tells) (by kernel_rfl) (by decide +kernel), Callee.fn W (by kernel_rfl), ?_⟩)
    (repeat walk_at "m.one")
    refine SC.listOf ?_
    (repeat walk_at "m.one")
    have fin : ∀ ps'' : List (Nat × (Nat → Rat)), ps''.length ≤ ps'.length + 1 → Q (.bool true) (η₂.set lc (.lst (pairsL ps''))) := fun ps'' hp'' =>
      q _ s' T' D' K' ps'' H2.copies M' m2 (by omega) fun b o e a1 a2 a3 a4 => (Hp.set_ne _ _ a4).trans (fr2 b o e a1 a2 a3 a4)
    refine c_tells W H2.span hn few' (by decide) M'.ok hr .lst (fun h0 => ?_) fun h0 => ?_
    · (repeat walk_at "m.one")
      exact c_l_tells_good W H2 M' hn hD ht' (by omega) hr (.inr ⟨rfl, h0⟩) fin
    · (repeat walk_at "m.one")
      exact c_l_tells_good W H2 M' hn hD ht' (by omega) hr (.inl ⟨rfl, h0⟩) fin
end

structure OA where
  a : Addr
  dd : Addr
  l : Addr
  lt : Addr
  lr : Addr
noncomputable def OA.has (o : OA) (b : Addr) : Prop := b = o.a ∨ b = o.dd ∨ b = o.l ∨ b = o.lt ∨ b = o.lr
noncomputable def apartO (o o' : OA) : Prop := (∀ b, o.has b → ¬ o'.has b) ∧ ∀ b, o'.has b → ¬ o.has b
/-- one of the worlds; k deeds are left -/
noncomputable def OwnS (η : Hp) (n : Nat) (lc : Addr) (ps : List (Nat × (Nat → Rat))) (k : Nat) (o : OA) : Prop :=
  ∃ s T D K, OwnH η n o.a o.dd o.l o.lt o.lr lc s T K ps ∧ OwnM n s T D K ∧ (n ≤ 8 ∨ s.m + k ≤ 4)
structure WI (η : Hp) (n : Nat) (lo lc : Addr) (os : List OA) (ps : List (Nat × (Nat → Rat))) (k : Nat) : Prop where
  eo : η lo = some (.lst (os.map fun o => ownV n o.a o.lt o.lr lc))
  ec : η lc = some (.lst (pairsL ps))
  ne : lo ≠ lc
  own : ∀ o ∈ os, OwnS η n lc ps k o
  out : ∀ o ∈ os, ¬ o.has lo
  pair : os.Pairwise apartO
theorem OwnM.nil {n : Nat} {T : Nat → IRow} {D : Nat → Int} {K : Nat → Nat → Rat} : OwnM n .nil T D K :=
  ⟨⟨Sp.Good.nil, Sp.Sz.nil⟩, ⟨fun i h => absurd h (Nat.not_lt_zero _), fun i k h => absurd h (Nat.not_lt_zero _)⟩, fun cr h _ x hx => (by
    have : cr = [] := by simpa [Sp.nil] using h
    rw [this] at hx; exact absurd hx List.not_mem_nil), Nat.zero_le _, fun i k h => absurd h (Nat.not_lt_zero _), fun i k h => absurd h (Nat.not_lt_zero _)⟩
theorem OwnS.has {n : Nat} {lc : Addr} {ps : List (Nat × (Nat → Rat))} {k : Nat} {o : OA} (S : OwnS η n lc ps k o) {b : Addr} (h : o.has b) : ∃ m, η b = some m := by
  obtain ⟨s, T, D, K, H, M, _⟩ := S
  rcases h with rfl | rfl | rfl | rfl | rfl
  · exact ⟨_, H.span.ea⟩
  · exact ⟨_, H.span.ed⟩
  · exact ⟨_, H.span.el⟩
  · exact ⟨_, H.et⟩
  · exact ⟨_, H.er⟩
theorem c_law (W : Wl c) {ns : List Int} (hns : ∀ n ∈ ns, Builtin.Int.intBits n ≤ 2 ^ 20) (q : ∀ η', Q (.bool true) η') : SC0 c (d + 115) true (.ref p_law) [.lst (ns.map V.int)] η Q X := by
  have sl : sizeLine = 16777216 := by decide
  have np : ∀ a b : Int, b.natAbs < 2 ^ 9000 → Builtin.divisionGoesByPylong a b = false := fun a b h => noPylong_pow h
  refine SC0.def2 (by assumption) (by rfl) (by kernel_rfl) (by kernel_rfl) (by rfl) (by rfl) ?_
  dsimp only [initσ]
  (repeat walk_at "m.one")
  refine c_l_cell_at W (by decide) ?_
  generalize ns.getD (Int.toNat 0) 0 = a
  (repeat walk_at "m.one")
  refine S2.modI (by decide) ?_
  (repeat walk_at "m.one")
  have r1 := fmod_range a (b := 5) (by decide)
  refine SS.ifN (fun σ' η' => η' = η ∧ ∃ n : Nat, n ≤ 24 ∧ Less [some (.lst (ns.map V.int)), some (.int (n : Nat)), none, none, none, none, none, none, none, none, none] σ') ?_ ?_
  · (repeat walk_at "m.one")
    refine c_l_cell_at W (by decide) ?_
    (repeat walk_at "m.one")
    refine S2.divI (by decide) (np _ _ (by decide +kernel)) ?_
    (repeat walk_at "m.one")
    refine S2.modI (by decide) ?_
    (repeat walk_at "m.one")
    refine iteS (fun _ => ?_) fun _ => ?_
    · (repeat walk_at "m.one")
      refine c_l_cell_at W (by decide) ?_
      (repeat walk_at "m.one")
      refine S2.divI (by decide) (np _ _ (by decide +kernel)) ?_
      (repeat walk_at "m.one")
      refine S2.modI (by decide) ?_
      (repeat walk_at "m.one")
      have r2 := fmod_range ((ns.getD (Int.toNat 0) 0).fdiv 40) (b := 20) (by decide)
      obtain ⟨n, hn⟩ := int_nat (i := 5 + ((ns.getD (Int.toNat 0) 0).fdiv 40).fmod 20) (by omega)
      exact ⟨rfl, n, by omega, by rw [← hn]; simp [Less]⟩
    · (repeat walk_at "m.one")
      obtain ⟨n, hn⟩ := int_nat r1.1
      exact ⟨rfl, n, by omega, by rw [← hn]; simp [Less]⟩
  rintro σ' η' ⟨rfl, n, hn, le⟩
  refine SS.forget le ?_
  refine SS.assign (SE.lstM (SL.nil ⟨by decide, fun lc nc => A.put ?_⟩))
  refine SS.assign (SE.lstM (SL.nil ⟨by decide, fun lo no => A.put ?_⟩))
  have noc : lo ≠ lc := by rintro rfl; rw [Hp.set_self] at no; cases no
  refine SS.for ["_law_k"] ?_
  (repeat walk_at "m.one")
  have W0 : WI ((η'.set lc (.lst [])).set lo (.lst [])) n lo lc [] [] 12 :=
    ⟨Hp.set_self .., (Hp.set_ne _ _ (Ne.symm noc)).trans (Hp.set_self ..), noc, (fun _ h => by cases h), (fun _ h => by cases h), .nil⟩
  generalize (η'.set lc (.lst [])).set lo (.lst []) = η₀ at W0
  refine ⟨_, rng_ok (n := 2) (by decide), ForL.foldH (α := Hp) (fun _ => [some (.lst (ns.map V.int)), some (.int (n : Nat)), some (.loc lc), some (.loc lo), none, none, none, none, none, none, none]) (fun h => h) (fun h vs => ∃ os, os.length + vs.length = 2 ∧ WI h n lo lc os [] (if n ≤ 8 then 12 else 4)) η₀ ⟨[], rfl, ⟨W0.eo, W0.ec, W0.ne, (fun _ h => by cases h), (fun _ h => by cases h), .nil⟩⟩ (fun h v vs hP => ?_) (fun h σ' hP l => SS.forget l ?_) (by simp [Less])⟩
  · obtain ⟨os, hl, I⟩ := hP
    rw [List.length_cons] at hl
    refine SA.name (by (with_reducible (repeat (first | exact Put.loc | exact Put.cell | apply Put.tail)))) ?_
    refine SS.expr ?_
    with_reducible refine SE.meth (A.var ⟨_, Meth.append I.eo, Callee.bi, ?_⟩)
    refine SL.cons (SE.dict ?_)
    refine SPs.cons ?_
    (repeat walk_at "m.one")
    refine SPs.cons (SE.ccall W (by (with_reducible (repeat (first | exact List.mem_cons_self | apply List.mem_cons_of_mem)))) (by (with_reducible (repeat (first | exact List.mem_cons_self | apply List.mem_cons_of_mem)))) (by kernel_rfl) ?_)
    (repeat walk_at "m.one")
    refine c_Span W fun a dd l h₁ na nd nl e1 e2 e3 S x => ?_
    refine SPs.cons (SE.lstM (SL.nil ⟨by decide, fun lt nt => ?_⟩))
    refine SPs.cons (SE.lstM (SL.nil ⟨by decide, fun lr nr => ?_⟩))
    refine SPs.cons ?_
    (repeat walk_at "m.one")
    refine SPs.nil ⟨by decide +kernel, ?_⟩
    (repeat walk_at "m.one")
    have x2 : Ext h ((h₁.set lt (.lst [])).set lr (.lst [])) := (x.trans (Ext.set nt)).trans (Ext.set nr)
    refine SC.append (x2 _ _ I.eo) (by simp; omega) ?_
    (repeat walk_at "m.one")
    have dlo : ∀ b, h b = none → lo ≠ b := fun b hb => some_ne I.eo hb
    have nt' : h lt = none := x.none nt
    have nr' : h lr = none := x.none ((Ext.set nt).none nr)
    have tr : lt ≠ lr := by rintro rfl; rw [Hp.set_self] at nr; cases nr
    have nr1 : h₁ lr = none := (Ext.set nt).none nr
    have lN : l ≠ lt := some_ne S.el nt
    have lR : l ≠ lr := some_ne S.el nr1
    have H : OwnH ((((h₁.set lt (.lst [])).set lr (.lst [])).set lo (.lst ((os.map fun o => ownV n o.a o.lt o.lr lc) ++ [ownV n a lt lr lc])))) n a dd l lt lr lc .nil (fun _ _ => 0) (fun _ _ => 0) [] := by
      refine ⟨⟨?_, ?_, ?_⟩, ?_, ?_, ?_, lN, lR, ?_, tr, ?_, ?_⟩
      · rw [Hp.set_ne _ _ (Ne.symm (dlo a na)), Hp.set_ne _ _ (some_ne S.ea nr1), Hp.set_ne _ _ (some_ne S.ea nt)]; exact S.ea
      · rw [Hp.set_ne _ _ (Ne.symm (dlo dd nd)), Hp.set_ne _ _ (some_ne S.ed nr1), Hp.set_ne _ _ (some_ne S.ed nt)]; exact S.ed
      · rw [Hp.set_ne _ _ (Ne.symm (dlo l nl)), Hp.set_ne _ _ lR, Hp.set_ne _ _ lN]; exact S.el
      · rw [Hp.set_ne _ _ (Ne.symm (dlo lt nt')), Hp.set_ne _ _ tr, Hp.set_self]; rfl
      · rw [Hp.set_ne _ _ (Ne.symm (dlo lr nr')), Hp.set_self]; rfl
      · rw [Hp.set_ne _ _ (Ne.symm noc)]; exact x2 _ _ I.ec
      · exact Ne.symm (some_ne I.ec nl)
      · exact Ne.symm (some_ne I.ec nt')
      · exact Ne.symm (some_ne I.ec nr')
    have fresh : ∀ b, (OA.mk a dd l lt lr).has b → h b = none := fun b hb => by
      rcases hb with rfl | rfl | rfl | rfl | rfl
      · exact na
      · exact nd
      · exact nl
      · exact nt'
      · exact nr'
    refine ⟨_, ⟨os ++ [⟨a, dd, l, lt, lr⟩], by simp; omega, ⟨?_, ?_, noc, fun o ho => ?_, fun o ho => ?_, ?_⟩⟩, by simp [Less], rfl⟩
    · rw [Hp.set_self]; simp
    · rw [Hp.set_ne _ _ (Ne.symm noc)]; exact x2 _ _ I.ec
    · rcases List.mem_append.mp ho with ho | ho
      · obtain ⟨s, T, D, K, H', M, hm⟩ := I.own o ho
        have out := I.out o ho
        refine ⟨s, T, D, K, (H'.ext x2).other ?_ ?_ ?_ ?_ ?_ (Ne.symm noc), M, hm⟩
        · exact fun e => out (.inl e.symm)
        · exact fun e => out (.inr (.inl e.symm))
        · exact fun e => out (.inr (.inr (.inl e.symm)))
        · exact fun e => out (.inr (.inr (.inr (.inl e.symm))))
        · exact fun e => out (.inr (.inr (.inr (.inr e.symm))))
      · have e : o = ⟨a, dd, l, lt, lr⟩ := by simpa using ho
        subst e
        refine ⟨.nil, _, fun _ => 1, _, H, OwnM.nil, ?_⟩
        by_cases h8 : n ≤ 8
        · exact .inl h8
        · right; rw [if_neg h8]; exact Nat.le_refl _
    · rcases List.mem_append.mp ho with ho | ho
      · exact I.out o ho
      · have e : o = ⟨a, dd, l, lt, lr⟩ := by simpa using ho
        subst e
        exact fun hb => by have := fresh _ hb; rw [I.eo] at this; cases this
    · rw [List.pairwise_append]
      refine ⟨I.pair, List.pairwise_singleton .., fun o ho o' ho' => ?_⟩
      have e : o' = ⟨a, dd, l, lt, lr⟩ := by simpa using ho'
      subst e
      refine ⟨fun b hb hb' => ?_, fun b hb hb' => ?_⟩
      · obtain ⟨m, e⟩ := (I.own o ho).has hb
        rw [fresh b hb'] at e; cases e
      · obtain ⟨m, e⟩ := (I.own o ho).has hb'
        rw [fresh b hb] at e; cases e
  · obtain ⟨os, hl, I⟩ := hP
    rw [List.length_nil, Nat.add_zero] at hl
    refine SS.for ["_law_cell"] ?_
    (repeat walk_at "m.one")
    refine SliceGoal.of (SE.sliceTwo ?_)
    (repeat walk_at "m.one")
    have hk : ∃ k : Nat, ([V.int 14, V.int 6])[(if (decide ((n : Int) > 8)) = true then (1 : Int) else 0).toNat]? = some (.int (k : Nat)) ∧ k ≤ (if n ≤ 8 then 12 else 4) + 2 := by
      by_cases h8 : n ≤ 8
      · refine ⟨14, ?_, by rw [if_pos h8]; decide⟩
        rw [if_neg (by simp; omega)]; rfl
      · refine ⟨6, ?_, by rw [if_neg h8]; decide⟩
        rw [if_pos (by simp; omega)]; rfl
    obtain ⟨k, hk1, hk2⟩ := hk
    refine S2.itemI_lst (by split <;> decide) hk1 ?_
    refine ⟨_, 2, k, rfl, rfl, rfl, ?_⟩
    have hlen : (((ns.map V.int).take k).drop 2).length ≤ (if n ≤ 8 then 12 else 4) := by rw [List.length_drop, List.length_take]; omega
    refine ⟨_, SI.lst, ForL.foldH (α := Hp) (fun _ => [some (.lst (ns.map V.int)), some (.int (n : Nat)), some (.loc lc), some (.loc lo), none, none, none, none, none, none, none]) (fun h => h) (fun h vs => (∃ zs : List Int, vs = zs.map V.int) ∧ vs.length ≤ (if n ≤ 8 then 12 else 4) ∧ ∃ ps, WI h n lo lc os ps vs.length ∧ ps.length + 2 * vs.length ≤ 30) h ⟨⟨(ns.take k).drop 2, by rw [List.map_drop, List.map_take]⟩, hlen, [], ⟨I.eo, I.ec, I.ne, fun o ho => ?_, I.out, I.pair⟩, ?_⟩ (fun h v vs hP => ?_) (fun h σ' hP l => SS.forget l ?_) (by simp [Less])⟩
    · obtain ⟨s, T, D, K, H', M, hm⟩ := I.own o ho
      refine ⟨s, T, D, K, H', M, hm.imp id fun hm => ?_⟩
      by_cases h8 : n ≤ 8
      · exact absurd hm (by rw [if_pos h8]; omega)
      · rw [if_neg h8] at hm hlen; omega
    · have : (if n ≤ 8 then 12 else 4) ≤ 12 := by split <;> decide
      simp only [List.length_nil]; omega
    · obtain ⟨⟨zs, hz⟩, hv, ps, I, hp⟩ := hP
      cases zs with
      | nil => cases hz
      | cons z zs =>
        rw [List.map_cons, List.cons.injEq] at hz
        obtain ⟨rfl, rfl⟩ := hz
        rw [List.length_cons] at hv hp I
        have h12 : (if n ≤ 8 then 12 else 4) ≤ 12 := by split <;> decide
        have r5 := fmod_range (z.fdiv 5) (b := 7) (by decide)
        have hj : ∃ j : Nat, ((z.fdiv 5).fmod 7).fdiv 6 = (j : Nat) ∧ j < os.length := by
          rw [Int.fdiv_eq_ediv_of_nonneg _ (by decide)]
          obtain ⟨j, hj⟩ := int_nat (i := (z.fdiv 5).fmod 7 / 6) (by omega)
          exact ⟨j, hj, by omega⟩
        obtain ⟨j, hj1, hj⟩ := hj
        have hmem : os[j] ∈ os := List.getElem_mem hj
        obtain ⟨s, T, D, K, H, M, hm⟩ := I.own _ hmem
        refine SA.name (by (with_reducible (repeat (first | exact Put.loc | exact Put.cell | apply Put.tail)))) ?_
        refine SS.if (ST.not ?_)
        (repeat walk_at "m.one")
        refine S2.divI (by decide) (np _ _ (by decide +kernel)) ?_
        (repeat walk_at "m.one")
        refine S2.modI (by decide) ?_
        (repeat walk_at "m.one")
        refine S2.divI (by decide) (np _ _ (by decide +kernel)) ?_
        rw [hj1]
        refine S2.item_loc (k := j) (u := ownV n os[j].a os[j].lt os[j].lr lc) I.eo (by rw [List.getElem?_map, List.getElem?_eq_getElem hj]; rfl) ?_
        (repeat walk_at "m.one")
        refine c_l_deed W H M (by omega) (hm.imp id fun hm => by omega) (by omega) fun η' s' T' D' K' ps' H' M' m1 hp' fr => ?_
        (repeat walk_at "m.one")
        refine iteNT ?_
        (repeat walk_at "m.one")
        have nlc : ∀ o ∈ os, ¬ o.has lc := fun o ho hb => by
          obtain ⟨s, T, D, K, H2, _, _⟩ := I.own o ho
          rcases hb with e | e | e | e | e
          · exact H2.a_ne H2.ec e.symm
          · exact H2.dd_ne H2.ec e.symm
          · exact H2.d3 e.symm
          · exact H2.d5 e.symm
          · exact H2.d6 e.symm
        have frO : ∀ b o, ¬ os[j].has b → b ≠ lc → h b = some o → η' b = some o := fun b o nb nc e => fr b o e (fun e => nb (.inr (.inr (.inl e)))) (fun e => nb (.inr (.inr (.inr (.inl e))))) (fun e => nb (.inr (.inr (.inr (.inr e))))) nc
        refine ⟨η', ⟨⟨zs, rfl⟩, by omega, ps', ⟨frO _ _ (I.out _ hmem) noc I.eo, H'.ec, noc, fun o ho => ?_, I.out, I.pair⟩, by omega⟩, by simp [Less], rfl⟩
        by_cases e : o = os[j]
        · subst e
          exact ⟨s', T', D', K', H', M', hm.imp id fun hm => by omega⟩
        · obtain ⟨s2, T2, D2, K2, H2, M2, hm2⟩ := I.own o ho
          have ap : ∀ b, o.has b → ¬ os[j].has b := by
            obtain ⟨i, hi, rfl⟩ := List.mem_iff_getElem.mp ho
            have hij : i ≠ j := fun e' => e (by subst e'; rfl)
            rcases Nat.lt_or_gt_of_ne hij with hlt | hgt
            · exact (List.pairwise_iff_getElem.mp I.pair i j hi hj hlt).1
            · exact (List.pairwise_iff_getElem.mp I.pair j i hj hi hgt).2
          have get : ∀ b o', o.has b → h b = some o' → η' b = some o' := fun b o' hb e => frO b o' (ap b hb) (fun e' => nlc o ho (e' ▸ hb)) e
          exact ⟨s2, T2, D2, K2, ⟨⟨get _ _ (.inl rfl) H2.span.ea, get _ _ (.inr (.inl rfl)) H2.span.ed, get _ _ (.inr (.inr (.inl rfl))) H2.span.el⟩, get _ _ (.inr (.inr (.inr (.inl rfl)))) H2.et, get _ _ (.inr (.inr (.inr (.inr rfl)))) H2.er, H'.ec, H2.d1, H2.d2, H2.d3, H2.d4, H2.d5, H2.d6⟩, M2, hm2.imp id fun hm => by omega⟩
    · obtain ⟨_, _, ps, I, hp⟩ := hP
      (repeat walk_at "m.one")
      refine SE.compJ ["_law_pair"] (some _) (by (with_reducible (repeat (first | exact CapR.nil | apply CapR.own (by decide) | apply CapR.cap (by repeat (first | exact At.head | apply At.tail)) | apply CapR.capF (by repeat (first | exact At.head | apply At.tail)))))) (SJ.loc (A.var ⟨lc, _, rfl, I.ec, by rw [List.length_map]; omega, CompLG.none I.ec (fun v hv => ⟨_, by (with_reducible (repeat (first | exact Put.loc | exact Put.cell | apply Put.tail))), by simp [Less], ?_⟩) ?_⟩))
      · obtain ⟨p, _, rfl⟩ := List.mem_map.mp hv
        have hs := row_shs p.1 p.2
        (repeat walk_at "m.one")
        refine S2.neSelf (dt := .list ((rowR p.1 p.2).map shD)) (.lst hs.pyrs) (.lst hs.pyrs) hs.shaped ?_
        (repeat walk_at "m.one")
        exact ⟨rfl, rfl⟩
      · (repeat walk_at "m.one")
        exact S2.eqNil (q _)

end
end Mine

theorem PySem.Challenge.cw_uf020009_04_holds : PySem.Challenge.rw_uf020009_04.Holds :=
  Mine.Hd.hd (by
    intro w s₀ s₁ mg mb G Y fa o pm cd doc dV kV ho hd hcd hD hmg hg args vals as hpre hlay hrd hwl hlo
    have KX := kIn_of Y
    refine Ground.open G ?_
    intro T B D TE TW
    wrow_args hpre hlay hrd hwl hlo
    rename_i ns _ _ hL _ _ _ _ l _ _ _ _ w1 _ _ _ hlen _
    refine Mine.law_end (a := Mine.p_law) T KX hg (Mine.gt_ok _) (Mine.bt_ok _) Mine.bt_ok' w1 (by omega) hL hmg (by decide +kernel) (fun _ => rfl) (by kernel_rfl) (by decide +kernel) (by rfl) fun c W => ?_
    exact Mine.c_law W (Mine.bits_of_layable hL) (by first | exact rfl | exact fun _ => rfl))
