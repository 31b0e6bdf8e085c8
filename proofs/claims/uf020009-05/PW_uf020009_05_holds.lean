import PyProof.Rows.All
import Wide.All
import OpenK.AllK
import Wide.FinOn
import PyProof.Rules
import PyProof.Calls
import PyProof.Rules2
import PyProof.RulesTry
import PyProof.AssignAttr
import PyProof.Seq
import PyProof.Methods
import PyProof.NoPylong
import PyProof.AutoSeq1
import PyProof.Rules3
import PyProof.FitsInt
import PyProof.FString5
import PyProof.SliceList
import PyProof.ForAny
import PyProof.CallStr
import PyProof.Cells
import PyProof.CompUse
import PyProof.PlainList
import PyProof.ConsumeWalk
import PyProof.StrWalks
import PyProof.CompFree
import PyProof.PureInt
import PyProof.Conv_int_bool
import PyProof.ListOps
import PyProof.IsRules
import PyProof.ExcArgsOwn
import PyProof.ExcBaseAll.ValueError
import PyProof.ExcClass3
import PyProof.StationsW
import PyProof.FitsBits
import PyProof.StrLawsIn
import PyProof.SliceStr2
import PyProof.StrOps
import PyProof.StrOps2
import PyProof.WalksMore
import PyProof.RangeFor
import PyProof.IsiHeapPairs
import PyProof.IsiNone
import PyProof.IsiPairs
import PyProof.ListCopy
import PyProof.ListIndexNeg
import PyProof.ListStr
import PyProof.ListTruth
import PyProof.WalkInts
import PyProof.RulesAs
import PyProof.ReprText
import PyProof.StrLawsRepr
import PyProof.ReprLen
import PyProof.ReprRoads
import PyProof.Rows.Tup
import PyProof.Rows.TupAssign
import PyProof.Rows.TupSub
import PyProof.Rows.Lst
import PyProof.StrLawsIdx
import PyProof.ZipIter
import PyProof.Truth
import PyProof.StrCalls2
import PyProof.Rows.StrJoin2
import PyProof.Rows.Catch
import PyProof.Rows.Chain
import PyProof.Rows.RuleB_mul
import PyProof.Rows.RuleB_pow
import PyProof.Rows.RuleB_floordiv
import PyProof.Rows.RuleB_mod
import PyProof.StrCalls3
import PyProof.Rows.StrTemp
import PyProof.Rows.ListMul
import PyProof.Rows.RuleN_abs
import PyProof.Rows.TupMore
import PyProof.SliceMore
import PyProof.Rows.StrClip
import PyProof.Rows.StrRev
import PyProof.Rows.EqDataRows
import PyProof.RulesMatch
import PyProof.RulesAssignMore
import PyProof.Rows.SeqMore
import PyProof.Rows.SumAny
import PyProof.TupleOfSeq
import PyProof.Rows.SortStr
import PyProof.Rows.ExtendIn
import OpenK.KMake
import OpenK.KWalk
import OpenK.KMore
import Open.Pieces
import OpenK.KLine
import KE.KItem
import KE.KIntText
import OpenK.KOwn
import KE.KIsAll
import PySem.Challenge.RW_uf020009_05
set_option Elab.async false
set_option autoImplicit false
set_option linter.unusedVariables false
set_option linter.unusedSimpArgs false
set_option maxRecDepth 100000
set_option maxHeartbeats 8000000

namespace Mine
open PySem PyProof.Rows

/-- shadow values -/
inductive V where
  | none
  | bool (b : Bool)
  | int (i : Int)
  | str (s : Str)
  | tup (vs : List V)
  | lst (vs : List V)
  | dct (ks : List Str) (vs : List V)
  | loc (a : Addr)
  | glob (v : Value)
  | exc (C : Addr)
  | rng (lo hi : Int)
  | obj (C : Addr) (ks : List Str) (vs : List V)

/-- mutable objects -/
inductive MObj where
  | lst (vs : List V)
  | inst (C d : Addr)
  | idict (ks : List Str) (vs : List V)

noncomputable abbrev Hp := Addr → Option MObj
noncomputable abbrev Pr := Addr → Prop

noncomputable def Hp.set (η : Hp) (a : Addr) (o : MObj) : Hp := fun b => if b = a then some o else η b
theorem Hp.set_self (η : Hp) (a : Addr) (o : MObj) : η.set a o a = some o := if_pos rfl
theorem Hp.set_ne (η : Hp) {a b : Addr} (o : MObj) (h : b ≠ a) : η.set a o b = η b := if_neg h

/-- entries of a dict with written str keys -/
inductive Ents (P : Params) : List DictEntry → List Str → List Value → Prop
  | nil : Ents P [] [] []
  | cons {k : Str} {t : Tok} {x : Value} {es ks xs} : Ents P es ks xs → Ents P (⟨if k.cps.isEmpty then 0 else reduceHash (P.strHash k.cps), .str k t, x⟩ :: es) (k :: ks) (x :: xs)

mutual
def Rv (P : Params) (h : Heap) (η : Hp) (pr : Pr) : V → Value → Prop
  | .none, v => v = .none
  | .bool b, v => v = .bool b
  | .int i, v => ∃ t, v = .int i t
  | .str s, v => ∃ t, v = .str s t
  | .tup vs, v => ∃ a xs n, v = .ref a ∧ h.get? a = some { cls := .type "tuple", data := .seq xs.toArray n } ∧ (η a = none ∧ ¬ pr a) ∧ vs.length ≤ sizeLine ∧ Rvs P h η pr vs xs
  | .lst vs, v => ∃ a xs n, v = .ref a ∧ h.get? a = some { cls := .type "list", data := .seq xs.toArray n } ∧ (η a = none ∧ ¬ pr a) ∧ vs.length ≤ sizeLine ∧ Rvs P h η pr vs xs
  | .dct ks vs, v => ∃ a xs es n, v = .ref a ∧ h.get? a = some { cls := .type "dict", data := .dict es n } ∧ (η a = none ∧ ¬ pr a) ∧ Ents P es.toList ks xs ∧ Rvs P h η pr vs xs
  | .loc a, v => v = .ref a ∧ (η a).isSome = true
  | .glob g, v => v = g
  | .rng lo hi, v => ∃ a t u k, v = .ref a ∧ h.get? a = some { cls := .type "range", data := .fields #[.int lo t, .int hi u, .int 1 k] } ∧ (η a = none ∧ ¬ pr a)
  | .obj C ks vs, v => ∃ a dd xs es n, v = .ref a ∧ h.get? a = some { cls := .ref C, dict := some dd, data := .plain } ∧ h.get? dd = some { cls := .type "dict", data := .dict es n } ∧ (η a = none ∧ ¬ pr a) ∧ (η dd = none ∧ ¬ pr dd) ∧ Ents P es.toList ks xs ∧ Rvs P h η pr vs xs
  | .exc C, v => ∃ e o fs, v = .ref e ∧ h.get? e = some o ∧ o.cls = .ref C ∧ o.data = .fields fs ∧ (η e = none ∧ ¬ pr e)
def Rvs (P : Params) (h : Heap) (η : Hp) (pr : Pr) : List V → List Value → Prop
  | [], xs => xs = []
  | v :: vs, xs => ∃ y ys, xs = y :: ys ∧ Rv P h η pr v y ∧ Rvs P h η pr vs ys
end

/-- a frame's address -/
noncomputable def isFr (A : Around) (b : Addr) : Prop := ∃ env ∈ A.frames.getD [], env.frame = some b

/-- everything stays that is neither mutable nor in `own`; a frame up to its slots -/
structure Step (A : Around) (own : Pr) (η : Hp) (h : Heap) (η' : Hp) (h' : Heap) : Prop where
  upto : ∀ b o, h.get? b = some o → η b = none → ¬ own b → ∃ sl, h'.get? b = some { o with slots := sl }
  same : ∀ b o, h.get? b = some o → η b = none → ¬ own b → ¬ isFr A b → h'.get? b = some o
  there : ∀ b o, h.get? b = some o → (h'.get? b).isSome = true
  dom : ∀ b, (η b).isSome = true → (η' b).isSome = true
  new : ∀ b, η b = none → (η' b).isSome = true → h.get? b = none

noncomputable abbrev noOwn : Pr := fun _ => False

section
variable {A : Around} {own : Pr} {η η' η₁ η₂ : Hp} {h h' h₁ h₂ : Heap}

theorem Step.refl (A : Around) (own : Pr) (η : Hp) (h : Heap) : Step A own η h η h :=
  ⟨fun _ o e _ _ => ⟨o.slots, e⟩, fun _ _ e _ _ _ => e, fun _ _ e => by rw [e]; rfl, fun _ e => e, fun b e e' => by rw [e] at e'; cases e'⟩

theorem Step.none (x : Step A own η h η' h') {b : Addr} {o : Obj} (e : h.get? b = some o) (n : η b = none) : η' b = none := by
  cases q : η' b with
  | none => rfl
  | some m => have := x.new b n (by rw [q]; rfl); rw [e] at this; cases this

theorem Step.trans (x : Step A own η h η₁ h₁) (y : Step A own η₁ h₁ η₂ h₂) : Step A own η h η₂ h₂ := by
  refine ⟨fun b o e n w => ?_, fun b o e n w f => ?_, fun b o e => ?_, fun b e => y.dom b (x.dom b e), fun b n e => ?_⟩
  · obtain ⟨sl, e1⟩ := x.upto b o e n w
    obtain ⟨sl', e2⟩ := y.upto b _ e1 (x.none e n) w
    exact ⟨sl', e2⟩
  · exact y.same b o (x.same b o e n w f) (x.none e n) w f
  · obtain ⟨o', e'⟩ := Option.isSome_iff_exists.mp (x.there b o e)
    exact y.there b o' e'
  · cases q : h.get? b with
    | none => rfl
    | some o =>
      obtain ⟨o', e'⟩ := Option.isSome_iff_exists.mp (x.there b o q)
      have := y.new b (x.none q n) e
      rw [e'] at this; cases this

theorem Step.weak {own' : Pr} (x : Step A own η h η' h') (k : ∀ b, own b → own' b) : Step A own' η h η' h' :=
  ⟨fun b o e n w => x.upto b o e n fun q => w (k b q), fun b o e n w => x.same b o e n fun q => w (k b q), x.there, x.dom, x.new⟩

/-- only additions, nothing mutable touched -/
theorem Step.of_keeps (k : ∀ b o, h.get? b = some o → h'.get? b = some o) : Step A own η h η h' :=
  ⟨fun b o e _ _ => ⟨o.slots, k b o e⟩, fun b o e _ _ _ => k b o e, fun b o e => by rw [k b o e]; rfl, fun _ e => e, fun b e e' => by rw [e] at e'; cases e'⟩

theorem Step.of_but {a : Addr} (k : Heap.SameBut a h h') (ha : own a) (hs : (h.get? a).isSome = true → (h'.get? a).isSome = true) : Step A own η h η h' := by
  refine ⟨fun b o e _ w => ⟨o.slots, ?_⟩, fun b o e _ w _ => ?_, fun b o e => ?_, fun _ e => e, fun b e e' => by rw [e] at e'; cases e'⟩
  · rw [k.2 b (fun q => w (q ▸ ha))]; exact e
  · rw [k.2 b (fun q => w (q ▸ ha))]; exact e
  · by_cases q : b = a
    · subst q; exact hs (by rw [e]; rfl)
    · rw [k.2 b q, e]; rfl

end

/-- what a relation of values needs of a change of the heap -/
structure Mono (pr : Pr) (η : Hp) (h : Heap) (η' : Hp) (pr' : Pr) (h' : Heap) : Prop where
  same : ∀ b o, h.get? b = some o → η b = none → ¬ pr b → h'.get? b = some o
  dom : ∀ b, (η b).isSome = true → (η' b).isSome = true
  new : ∀ b o, h.get? b = some o → η b = none → ¬ pr b → η' b = none ∧ ¬ pr' b

section
variable {P : Params} {pr pr' : Pr} {η η' : Hp} {h h' : Heap}
mutual
theorem Rv.mono (m : Mono pr η h η' pr' h') : ∀ (v : V) {x : Value}, Rv P h η pr v x → Rv P h' η' pr' v x
  | .none, _, e => by unfold Rv at e ⊢; exact e
  | .bool _, _, e => by unfold Rv at e ⊢; exact e
  | .int _, _, e => by unfold Rv at e ⊢; exact e
  | .str _, _, e => by unfold Rv at e ⊢; exact e
  | .glob _, _, e => by unfold Rv at e ⊢; exact e
  | .loc a, _, e => by unfold Rv at e ⊢; exact ⟨e.1, m.dom a e.2⟩
  | .rng lo hi, _, e => by
    unfold Rv at e ⊢
    obtain ⟨a, t, u, k, e1, ho, n, p⟩ := e
    exact ⟨a, t, u, k, e1, m.same a _ ho n p, m.new a _ ho n p⟩
  | .obj C ks vs, _, e => by
    unfold Rv at e ⊢
    obtain ⟨a, dd, xs, es, n', e1, ho, hd, ⟨n, p⟩, ⟨n2, p2⟩, q, r⟩ := e
    exact ⟨a, dd, xs, es, n', e1, m.same a _ ho n p, m.same dd _ hd n2 p2, m.new a _ ho n p, m.new dd _ hd n2 p2, q, Rvs.mono m vs r⟩
  | .exc C, _, e => by
    unfold Rv at e ⊢
    obtain ⟨a, o, fs, e1, e2, e3, e4, n, p⟩ := e
    exact ⟨a, o, fs, e1, m.same a o e2 n p, e3, e4, m.new a o e2 n p⟩
  | .tup vs, _, e => by
    unfold Rv at e ⊢
    obtain ⟨a, xs, n', e1, ho, ⟨n, p⟩, z, r⟩ := e
    exact ⟨a, xs, n', e1, m.same a _ ho n p, m.new a _ ho n p, z, Rvs.mono m vs r⟩
  | .lst vs, _, e => by
    unfold Rv at e ⊢
    obtain ⟨a, xs, n', e1, ho, ⟨n, p⟩, z, r⟩ := e
    exact ⟨a, xs, n', e1, m.same a _ ho n p, m.new a _ ho n p, z, Rvs.mono m vs r⟩
  | .dct ks vs, _, e => by
    unfold Rv at e ⊢
    obtain ⟨a, xs, es, n', e1, ho, ⟨n, p⟩, q, r⟩ := e
    exact ⟨a, xs, es, n', e1, m.same a _ ho n p, m.new a _ ho n p, q, Rvs.mono m vs r⟩
theorem Rvs.mono (m : Mono pr η h η' pr' h') : ∀ (vs : List V) {xs : List Value}, Rvs P h η pr vs xs → Rvs P h' η' pr' vs xs
  | [], _, e => by unfold Rvs at e ⊢; exact e
  | v :: vs, _, e => by
    unfold Rvs at e ⊢
    obtain ⟨y, ys, e1, r, rs⟩ := e
    exact ⟨y, ys, e1, Rv.mono m v r, Rvs.mono m vs rs⟩
end
end

/-- the context of one law: what the top left -/
structure Cx where
  prog : Program
  w : World
  base : Heap
  os : OsState
  mg : Str → Option Value
  mb : Str → Option Value
  g : base.Ns mainGlobals mg
  b : base.Ns builtinsNs mb
  nolimit : base.NoLimit
  nodigits : ∃ mc, base.Ns cStatics mc ∧ mc "sys.int_max_str_digits" = none

noncomputable abbrev Cx.M (c : Cx) : Model := model c.prog c.w
noncomputable abbrev Cx.P (c : Cx) : Params := c.w.params

/-- the model's object of a mutable one -/
noncomputable def MRel (P : Params) (h : Heap) (η : Hp) (pr : Pr) (a : Addr) : MObj → Prop
  | .lst vs => ∃ xs n, h.get? a = some { cls := .type "list", data := .seq xs.toArray n } ∧ vs.length ≤ sizeLine ∧ Rvs P h η pr vs xs
  | .inst C d => h.get? a = some { cls := .ref C, dict := some d, data := .plain } ∧ ∃ ks vs, η d = some (.idict ks vs)
  | .idict ks vs => ∃ xs es n, h.get? a = some { cls := .type "dict", data := .dict es n } ∧ Ents P es.toList ks xs ∧ Rvs P h η pr vs xs

structure Inv (c : Cx) (η : Hp) (pr : Pr) (A : Around) (s : Shared) : Prop where
  stays : c.base.StaysIn s.heap
  hrel : ∀ a o, η a = some o → MRel c.P s.heap η pr a o
  apart : ∀ a, (η a).isSome = true → c.base.get? a = none
  privs : ∀ a, pr a → (s.heap.get? a).isSome = true ∧ η a = none ∧ c.base.get? a = none
  frames : ∃ fr, A.frames = some fr ∧ s.heap.FunFrames c.base fr
  frs : ∀ b, isFr A b → pr b
  os : s.os = c.os
  gens : s.gens = #[]

/-- room on the stack -/
structure Ok (d : Nat) (hd : Bool) (A : Around) : Prop where
  depth : A.depth + d ≤ recursionLimit
  units : A.units + 10 * d + 100 ≤ cLine
  handled : hd = true → A.handled = none
  guards : A.guards = some []

noncomputable def VarAt (h : Heap) (env : Env) (x : Str) (k : NameKind) (val : Value) : Prop :=
  match k with
  | .local => ∃ m, h.Ns env.locals m ∧ m x = some val
  | .cell | .free => ∃ a, env.cells.lookup x = some a ∧ h.IsCell a (some val)
  | _ => False

/-- a variable's shadow value -/
inductive At : List (Str × NameKind) → List (Option V) → Str → NameKind → V → Prop
  | head {x k nm v σ} : At ((x, k) :: nm) (some v :: σ) x k v
  | tail {p nm o σ x k v} : At nm σ x k v → At (p :: nm) (o :: σ) x k v

structure FrameR (c : Cx) (h : Heap) (η : Hp) (pr : Pr) (nm : List (Str × NameKind)) (env : Env) (σ : List (Option V)) : Prop where
  kind : env.scope.kind = .function
  names : env.scope.names = nm
  nodup : (nm.map (·.1)).Nodup
  globals : env.globals = mainGlobals
  builtins : env.builtins = builtinsNs
  ns : ∃ m, h.Ns env.locals m
  nsp : pr env.locals
  cells : ∀ x a, env.cells.lookup x = some a → pr a ∧ ∃ v, h.IsCell a v
  inj : ∀ x y a, env.cells.lookup x = some a → env.cells.lookup y = some a → x = y
  has : ∀ x k, (x, k) ∈ nm → k = .cell ∨ k = .free → (env.cells.lookup x).isSome = true
  vars : ∀ x k v, At nm σ x k v → ∃ val, VarAt h env x k val ∧ Rv c.P h η pr v val

/-- the exception in flight -/
noncomputable def Thr (A : Around) (h₀ h : Heap) (e C : Addr) : Prop :=
  (∃ oe vs a0, h.get? e = some oe ∧ oe.cls = .ref C ∧ oe.data = .fields vs ∧ vs[1]? = some .none ∧ vs[0]? = some a0) ∨
    ∃ a0 fl, h.TracedAtW h₀ e (.ref C) a0 fl ∧ (fl = .none ∨ ∃ env outer L, A.frames = some (env :: outer) ∧ env.frame = some L ∧ fl = rawInt L)

noncomputable def Post (c : Cx) (A : Around) (own pr : Pr) (η : Hp) (h₀ : Heap) (Q : V → Hp → Prop) (r : Value) (s' : Shared) : Prop :=
  ∃ v η', Q v η' ∧ Inv c η' pr A s' ∧ Rv c.P s'.heap η' pr v r ∧ Step A own η h₀ η' s'.heap
/-- the exception and its traceback are private as long as it flies -/
noncomputable def exPr (pr : Pr) (e : Addr) (h : Heap) : Pr := fun b => pr b ∨ b = e ∨ ∃ o vs, h.get? e = some o ∧ o.data = .fields vs ∧ vs[1]? = some (.ref b)
noncomputable def Exc (c : Cx) (A : Around) (own pr : Pr) (η : Hp) (h₀ : Heap) (X : Addr → Hp → Prop) (r : Value) (s' : Shared) : Prop :=
  ∃ e C η', r = .ref e ∧ X C η' ∧ Inv c η' (exPr pr e s'.heap) A s' ∧ Step A own η h₀ η' s'.heap ∧ h₀.get? e = none ∧ Thr A h₀ s'.heap e C

/-- an expression in a frame -/
noncomputable def SE (c : Cx) (d : Nat) (hd : Bool) (nm : List (Str × NameKind)) (σ : List (Option V)) (η : Hp) (e : Expr) (Q : V → Hp → Prop) (X : Addr → Hp → Prop) : Prop :=
  ∀ A env s pr, Ok d hd A → Inv c η pr A s → FrameR c s.heap η pr nm env σ → wpAny c.M A (eval e env) (Post c A noOwn pr η s.heap Q) (Exc c A noOwn pr η s.heap X) s

/-- a call -/
noncomputable def SC (c : Cx) (d : Nat) (hd : Bool) (f : Value) (vs : List V) (η : Hp) (Q : V → Hp → Prop) (X : Addr → Hp → Prop) : Prop :=
  ∀ A s pr xs, Ok d hd A → Inv c η pr A s → Rvs c.P s.heap η pr vs xs → wpAny c.M A (call f xs) (Post c A noOwn pr η s.heap Q) (Exc c A noOwn pr η s.heap X) s

noncomputable def ownOf (env : Env) : Pr := fun b => b = env.locals ∨ ∃ x, env.cells.lookup x = some b

noncomputable def FPost (c : Cx) (A : Around) (pr : Pr) (nm : List (Str × NameKind)) (env : Env) (η : Hp) (h₀ : Heap) (N : List (Option V) → Hp → Prop) (R : V → Hp → Prop) (f : Flow) (s' : Shared) : Prop :=
  match f with
  | .next => ∃ σ' η', N σ' η' ∧ Inv c η' pr A s' ∧ FrameR c s'.heap η' pr nm env σ' ∧ Step A (ownOf env) η h₀ η' s'.heap
  | .ret r => Post c A (ownOf env) pr η h₀ R r s'
  | _ => False

/-- statements in a function's frame -/
noncomputable def SS (c : Cx) (d : Nat) (hd : Bool) (nm : List (Str × NameKind)) (σ : List (Option V)) (η : Hp) (b : List Stmt) (N : List (Option V) → Hp → Prop) (R : V → Hp → Prop) (X : Addr → Hp → Prop) : Prop :=
  ∀ A env s pr outer, Ok d hd A → Inv c η pr A s → FrameR c s.heap η pr nm env σ → A.frames = some (env :: outer) → env.frame = some env.locals →
    wpAny c.M A (execs b env) (FPost c A pr nm env η s.heap N R) (Exc c A (ownOf env) pr η s.heap X) s

end Mine

namespace Mine
open PySem PyProof.Rows

section
variable {c : Cx} {A : Around} {own pr : Pr} {η η' η₁ η₂ : Hp} {h h' h₀ h₁ h₂ : Heap} {s s' s₁ : Shared} {d : Nat} {hd : Bool} {nm : List (Str × NameKind)} {σ σ' : List (Option V)} {env : Env}
  {Q Q' R : V → Hp → Prop} {X X' : Addr → Hp → Prop} {N : List (Option V) → Hp → Prop} {v : V} {x : Value}

theorem Step.toMono (st : Step A own η h η' h') (ho : ∀ b, own b → pr b) (hf : ∀ b, isFr A b → pr b) : Mono pr η h η' pr h' :=
  ⟨fun b o e n p => st.same b o e n (fun q => p (ho b q)) (fun q => p (hf b q)), st.dom, fun _ _ e n p => ⟨st.none e n, p⟩⟩

theorem Mono.of_keeps (k : ∀ b o, h.get? b = some o → h'.get? b = some o) : Mono pr η h η pr h' :=
  ⟨fun b o e _ _ => k b o e, fun _ e => e, fun _ _ _ n p => ⟨n, p⟩⟩

theorem Rv.keeps (r : Rv c.P h η pr v x) (k : ∀ b o, h.get? b = some o → h'.get? b = some o) : Rv c.P h' η pr v x := Rv.mono (Mono.of_keeps k) v r
theorem Rvs.keeps {vs : List V} {xs : List Value} (r : Rvs c.P h η pr vs xs) (k : ∀ b o, h.get? b = some o → h'.get? b = some o) : Rvs c.P h' η pr vs xs := Rvs.mono (Mono.of_keeps k) vs r
theorem Rv.step (r : Rv c.P s.heap η pr v x) (I : Inv c η pr A s) (st : Step A noOwn η s.heap η' h') : Rv c.P h' η' pr v x :=
  Rv.mono (st.toMono (fun _ q => q.elim) I.frs) v r
theorem MRel.mono {pr' : Pr} {a : Addr} {o : MObj} (m : Mono pr η h η pr' h') (k : ∀ o, (∀ vs, o.data ≠ .fields vs) → h.get? a = some o → h'.get? a = some o) (r : MRel c.P h η pr a o) : MRel c.P h' η pr' a o := by
  cases o with
  | lst vs => obtain ⟨xs, n, e, z, q⟩ := r; exact ⟨xs, n, k _ (fun _ q => by cases q) e, z, Rvs.mono m vs q⟩
  | inst C d => exact ⟨k _ (fun _ q => by cases q) r.1, r.2⟩
  | idict ks vs => obtain ⟨xs, es, n, e, q, w⟩ := r; exact ⟨xs, es, n, k _ (fun _ q => by cases q) e, q, Rvs.mono m vs w⟩
/-- a mutable object is no record -/
theorem MRel.nofields {a : Addr} {o : MObj} (r : MRel c.P h η pr a o) : ∃ b, h.get? a = some b ∧ ∀ vs, b.data ≠ .fields vs := by
  cases o with
  | lst vs => obtain ⟨xs, n, e, q⟩ := r; exact ⟨_, e, fun _ q => by cases q⟩
  | inst C d => exact ⟨_, r.1, fun _ q => by cases q⟩
  | idict ks vs => obtain ⟨xs, es, n, e, q, w⟩ := r; exact ⟨_, e, fun _ q => by cases q⟩

theorem Inv.grow (I : Inv c η pr A s) (k : ∀ b o, s.heap.get? b = some o → h'.get? b = some o) (t : Nat) : Inv c η pr A { s with heap := h', toks := t } := by
  obtain ⟨fr, e, ff⟩ := I.frames
  refine ⟨fun b o q => k b o (I.stays b o q), fun a o q => (I.hrel a o q).mono (Mono.of_keeps k) (fun o' _ e => k a o' e), I.apart, fun a p => ?_, ⟨fr, e, ff.of_keeps fun b o q _ => ⟨o, k b o q, rfl⟩⟩, I.frs, I.os, I.gens⟩
  obtain ⟨e1, e2, e3⟩ := I.privs a p
  obtain ⟨o, e'⟩ := Option.isSome_iff_exists.mp e1
  exact ⟨by rw [show ({ s with heap := h', toks := t } : Shared).heap = h' from rfl, k a o e']; rfl, e2, e3⟩

theorem Inv.toks (I : Inv c η pr A s) (t : Nat) : Inv c η pr A { s with toks := t } := I.grow (fun _ _ e => e) t

theorem isCell_upto {a : Addr} {v : Option Value} (x : h.IsCell a v) (k : ∀ o, h.get? a = some o → ∃ sl, h'.get? a = some { o with slots := sl }) : h'.IsCell a v := by
  obtain ⟨o, ho, e⟩ := x
  obtain ⟨sl, e'⟩ := k o ho
  exact ⟨_, e', e⟩
theorem ns_upto {a : Addr} {m : Str → Option Value} (x : h.Ns a m) (k : ∀ o, h.get? a = some o → ∃ sl, h'.get? a = some { o with slots := sl }) : h'.Ns a m := by
  obtain ⟨o, es, ep, ho, e⟩ := x
  obtain ⟨sl, e'⟩ := k o ho
  exact ⟨_, es, ep, e', e⟩

theorem FrameR.move (F : FrameR c h η pr nm env σ) (m : Mono pr η h η' pr h') (hp : ∀ b, pr b → ∀ o, h.get? b = some o → ∃ sl, h'.get? b = some { o with slots := sl }) : FrameR c h' η' pr nm env σ := by
  refine ⟨F.kind, F.names, F.nodup, F.globals, F.builtins, ?_, F.nsp, fun x a e => ?_, F.inj, F.has, fun x k v e => ?_⟩
  · obtain ⟨m, q⟩ := F.ns
    exact ⟨m, ns_upto q (hp _ F.nsp)⟩
  · obtain ⟨p, v, q⟩ := F.cells x a e
    exact ⟨p, v, isCell_upto q (hp _ p)⟩
  · obtain ⟨val, q, r⟩ := F.vars x k v e
    refine ⟨val, ?_, Rv.mono m v r⟩
    cases k with
    | «local» => obtain ⟨m, q1, q2⟩ := q; exact ⟨m, ns_upto q1 (hp _ F.nsp), q2⟩
    | cell => obtain ⟨a, q1, q2⟩ := q; exact ⟨a, q1, isCell_upto q2 (hp _ (F.cells x a q1).1)⟩
    | free => obtain ⟨a, q1, q2⟩ := q; exact ⟨a, q1, isCell_upto q2 (hp _ (F.cells x a q1).1)⟩
    | globalImplicit => exact q
    | globalExplicit => exact q

theorem FrameR.step (F : FrameR c s.heap η pr nm env σ) (I : Inv c η pr A s) (st : Step A noOwn η s.heap η' h') : FrameR c h' η' pr nm env σ :=
  F.move (st.toMono (fun _ q => q.elim) I.frs) fun b p o e => st.upto b o e (I.privs b p).2.1 (fun q => q)

theorem FrameR.keeps (F : FrameR c h η pr nm env σ) (k : ∀ b o, h.get? b = some o → h'.get? b = some o) : FrameR c h' η pr nm env σ :=
  F.move (Mono.of_keeps k) fun b _ o e => ⟨o.slots, k b o e⟩

theorem Thr.older {e C : Addr} (st : ∀ b o, h₀.get? b = some o → (h₁.get? b).isSome = true) (t : Thr A h₁ h e C) : Thr A h₀ h e C := by
  rcases t with t | ⟨a0, fl, ⟨oe, vs, T, oT, ts, e1, e2, e3, e4, e5, e6, r⟩, z⟩
  · exact .inl t
  · refine .inr ⟨a0, fl, ⟨oe, vs, T, oT, ts, e1, e2, e3, e4, ?_, e6, r⟩, z⟩
    cases q : h₀.get? T with
    | none => rfl
    | some o => have := st T o q; rw [e5] at this; cases this

theorem Post.older {r : Value} (st : Step A own η h₀ η₁ h₁) (p : Post c A own pr η₁ h₁ Q r s') : Post c A own pr η h₀ Q r s' := by
  obtain ⟨v, η', q, I, rv, st'⟩ := p
  exact ⟨v, η', q, I, rv, st.trans st'⟩
theorem Exc.older {r : Value} (st : Step A own η h₀ η₁ h₁) (p : Exc c A own pr η₁ h₁ X r s') : Exc c A own pr η h₀ X r s' := by
  obtain ⟨e, C, η', q, x, I, st', n, t⟩ := p
  refine ⟨e, C, η', q, x, I, st.trans st', ?_, t.older st.there⟩
  cases w : h₀.get? e with
  | none => rfl
  | some o => have := st.there e o w; rw [n] at this; cases this

theorem Post.mono {r : Value} (p : Post c A own pr η h₀ Q r s') (k : ∀ v η', Q v η' → Q' v η') : Post c A own pr η h₀ Q' r s' := by
  obtain ⟨v, η', q, r⟩ := p
  exact ⟨v, η', k _ _ q, r⟩
theorem Exc.mono {r : Value} (p : Exc c A own pr η h₀ X r s') (k : ∀ C η', X C η' → X' C η') : Exc c A own pr η h₀ X' r s' := by
  obtain ⟨e, C, η', q, x, r⟩ := p
  exact ⟨e, C, η', q, k _ _ x, r⟩
theorem Post.weak {r : Value} {own' : Pr} (p : Post c A own pr η h₀ Q r s') (k : ∀ b, own b → own' b) : Post c A own' pr η h₀ Q r s' := by
  obtain ⟨v, η', q, I, rv, st⟩ := p
  exact ⟨v, η', q, I, rv, st.weak k⟩
theorem Exc.weak {r : Value} {own' : Pr} (p : Exc c A own pr η h₀ X r s') (k : ∀ b, own b → own' b) : Exc c A own' pr η h₀ X r s' := by
  obtain ⟨e, C, η', q, x, I, st, n, t⟩ := p
  exact ⟨e, C, η', q, x, I, st.weak k, n, t⟩

theorem SE.mono {e : Expr} (p : SE c d hd nm σ η e Q X) (k : ∀ v η', Q v η' → Q' v η') (kx : ∀ C η', X C η' → X' C η') : SE c d hd nm σ η e Q' X' :=
  fun A env s pr o I F => wpAny_mono (p A env s pr o I F) (fun _ _ q => q.mono k) fun _ _ q => q.mono kx
/-- the end of a pure step: nothing mutable touched -/
theorem Post.pure {r : Value} {t : Nat} (I : Inv c η pr A s) (k : ∀ b o, s.heap.get? b = some o → h'.get? b = some o) (rv : Rv c.P h' η pr v r) (q : Q v η) : Post c A own pr η s.heap Q r { s with heap := h', toks := t } :=
  ⟨v, η, q, I.grow k t, rv, Step.of_keeps k⟩
theorem Post.val {r : Value} (I : Inv c η pr A s) (rv : Rv c.P s.heap η pr v r) (q : Q v η) : Post c A own pr η s.heap Q r s :=
  ⟨v, η, q, I, rv, Step.refl ..⟩

end

end Mine

namespace Mine
open PySem PyProof.Rows

/-- an operation of one, of two values -/
noncomputable def S1 (c : Cx) (d : Nat) (hd : Bool) (t : Value → Sem Value) (v : V) (η : Hp) (Q : V → Hp → Prop) (X : Addr → Hp → Prop) : Prop :=
  ∀ A s pr x, Ok d hd A → Inv c η pr A s → Rv c.P s.heap η pr v x → wpAny c.M A (t x) (Post c A noOwn pr η s.heap Q) (Exc c A noOwn pr η s.heap X) s
noncomputable def S2 (c : Cx) (d : Nat) (hd : Bool) (t : Value → Value → Sem Value) (v w : V) (η : Hp) (Q : V → Hp → Prop) (X : Addr → Hp → Prop) : Prop :=
  ∀ A s pr x y, Ok d hd A → Inv c η pr A s → Rv c.P s.heap η pr v x → Rv c.P s.heap η pr w y → wpAny c.M A (t x y) (Post c A noOwn pr η s.heap Q) (Exc c A noOwn pr η s.heap X) s
noncomputable def BPost (c : Cx) (A : Around) (pr : Pr) (η : Hp) (h₀ : Heap) (Q : Bool → Hp → Prop) (b : Bool) (s' : Shared) : Prop :=
  ∃ η', Q b η' ∧ Inv c η' pr A s' ∧ Step A noOwn η h₀ η' s'.heap
/-- the truth of a value -/
noncomputable def SB (c : Cx) (d : Nat) (hd : Bool) (v : V) (η : Hp) (Q : Bool → Hp → Prop) (X : Addr → Hp → Prop) : Prop :=
  ∀ A s pr x, Ok d hd A → Inv c η pr A s → Rv c.P s.heap η pr v x → wpAny c.M A (truthy x) (BPost c A pr η s.heap Q) (Exc c A noOwn pr η s.heap X) s
/-- a test -/
noncomputable def ST (c : Cx) (d : Nat) (hd : Bool) (nm : List (Str × NameKind)) (σ : List (Option V)) (η : Hp) (e : Expr) (Q : Bool → Hp → Prop) (X : Addr → Hp → Prop) : Prop :=
  ∀ A env s pr, Ok d hd A → Inv c η pr A s → FrameR c s.heap η pr nm env σ → wpAny c.M A (isTrue e env (eval e env)) (BPost c A pr η s.heap Q) (Exc c A noOwn pr η s.heap X) s
/-- some expressions, one behind the other -/
noncomputable def SL (c : Cx) (d : Nat) (hd : Bool) (nm : List (Str × NameKind)) (σ : List (Option V)) (η : Hp) (es : List Expr) (Q : List V → Hp → Prop) (X : Addr → Hp → Prop) : Prop :=
  ∀ A env s pr pos, Ok d hd A → Inv c η pr A s → FrameR c s.heap η pr nm env σ →
    wpAny c.M A (spliced (backTo pos (starEach es env))) (fun xs s' => ∃ vs η', Q vs η' ∧ Inv c η' pr A s' ∧ Rvs c.P s'.heap η' pr vs xs ∧ Step A noOwn η s.heap η' s'.heap) (Exc c A noOwn pr η s.heap X) s

section
variable {c : Cx} {A : Around} {pr : Pr} {η η' : Hp} {s : Shared} {d : Nat} {hd : Bool} {nm : List (Str × NameKind)} {σ : List (Option V)} {env : Env}
  {Q R : V → Hp → Prop} {B : Bool → Hp → Prop} {X : Addr → Hp → Prop} {v w : V} {x : Str} {pos : Pos} {k : Nat}

theorem BPost.older {h₀ h₁ : Heap} {η₁ : Hp} {b : Bool} {s' : Shared} (st : Step A noOwn η h₀ η₁ h₁) (p : BPost c A pr η₁ h₁ B b s') : BPost c A pr η h₀ B b s' := by
  obtain ⟨η', q, I, st'⟩ := p
  exact ⟨η', q, I, st.trans st'⟩

-- constants
theorem SE.int {i : Int} (q : Q (.int i) η) : SE c d hd nm σ η (.Constant (.int i) k pos) Q X :=
  fun _ _ _ _ _ I _ => wpAny_Constant_int (Post.pure (v := .int i) I (fun _ _ e => e) ⟨_, rfl⟩ q)
theorem SE.str {i : Str} (q : Q (.str i) η) : SE c d hd nm σ η (.Constant (.str i) k pos) Q X :=
  fun _ _ _ _ _ I _ => wpAny_Constant_str (Post.pure (v := .str i) I (fun _ _ e => e) ⟨_, rfl⟩ q)
theorem SE.bool {b : Bool} (q : Q (.bool b) η) : SE c d hd nm σ η (.Constant (.bool b) k pos) Q X :=
  fun _ _ _ _ _ I _ => wpAny_Constant_bool (Post.val (v := .bool b) I rfl q)
theorem SE.none (q : Q .none η) : SE c d hd nm σ η (.Constant .none k pos) Q X :=
  fun _ _ _ _ _ I _ => wpAny_Constant_none (Post.val (v := .none) I rfl q)

-- names
theorem mem_fst {nm : List (Str × NameKind)} {x : Str} {k : NameKind} {σ : List (Option V)} {v : V} (a : At nm σ x k v) : (x, k) ∈ nm := by
  induction a with
  | head => exact .head _
  | tail _ ih => exact .tail _ ih
theorem lookup_of_mem {nm : List (Str × NameKind)} {x : Str} {k : NameKind} (nd : (nm.map (·.1)).Nodup) (h : (x, k) ∈ nm) : nm.lookup x = some k := by
  induction nm with
  | nil => cases h
  | cons p r ih =>
    obtain ⟨y, k'⟩ := p
    rw [List.map_cons, List.nodup_cons] at nd
    rw [List.lookup_cons]
    rcases List.mem_cons.mp h with e | h
    · cases e; simp
    · have : (x == y) = false := by
        simp only [beq_eq_false_iff_ne, ne_eq]
        rintro rfl
        rename_i h'; exact nd.1 (List.mem_map.mpr ⟨_, h', rfl⟩)
      rw [this]; exact ih nd.2 h
theorem FrameR.kindOf {h : Heap} {x : Str} {k : NameKind} (F : FrameR c h η pr nm env σ) (m : (x, k) ∈ nm) : env.kindOf x = some k := by
  unfold Env.kindOf; rw [F.names]; exact lookup_of_mem F.nodup m

theorem SE.var {kd : NameKind} (a : At nm σ x kd v) (q : Q v η) (hn : (x == ("__debug__" : Str)) = false := by decide +kernel) (hc : (x == ("__classdict__" : Str)) = false := by decide +kernel) :
    SE c d hd nm σ η (.Name x pos) Q X := fun A env s pr _ I F => by
  refine wpAny_Name ?_ hn
  obtain ⟨val, q1, r⟩ := F.vars x kd v a
  have hk := F.kindOf (mem_fst a)
  have p : Post c A noOwn pr η s.heap Q val s := Post.val I r q
  cases kd with
  | «local» => obtain ⟨m, q1, q2⟩ := q1; exact wpAny_loadName_local F.kind hk q1 q2 p
  | cell => obtain ⟨a, q1, q2⟩ := q1; exact wpAny_loadName_cell F.kind hk q1 q2 p
  | free => obtain ⟨a, q1, q2⟩ := q1; exact wpAny_loadName_free F.kind hk q1 q2 p hc
  | globalImplicit => exact q1.elim
  | globalExplicit => exact q1.elim

/-- the value of a global name -/
noncomputable def Glob (c : Cx) (x : Str) (g : Value) : Prop := c.mg x = some g ∨ (c.mg x = none ∧ c.mb x = some g)

theorem SE.glob {g : Value} (m : (x, NameKind.globalImplicit) ∈ nm) (gl : Glob c x g) (q : Q (.glob g) η) (hn : (x == ("__debug__" : Str)) = false := by decide +kernel) :
    SE c d hd nm σ η (.Name x pos) Q X := fun A env s pr _ I F => by
  refine Calls.Name_function_global F.kind (F.kindOf m) ?_ hn
  have p : Post c A noOwn pr η s.heap Q g s := Post.val (v := .glob g) I rfl q
  rcases gl with e | ⟨e1, e2⟩
  · exact Calls.loadGlobal_global (mg := c.mg) (by rw [F.globals]; exact c.g.keeps I.stays) e p
  · exact Calls.loadGlobal_builtin (mg := c.mg) (mb := c.mb) (by rw [F.globals]; exact c.g.keeps I.stays) e1 (by rw [F.builtins]; exact c.b.keeps I.stays) e2 p

-- two operands
theorem SE.op2 {l r : Expr} {t : Value → Value → Sem Value} {tree : Env → Sem Value}
    (ht : ∀ {A env s} {PQ : Value → Shared → Prop} {PE : Value → Shared → Prop}, wpAny c.M A (eval l env) (fun a s₁ => wpAny c.M A (eval r env) (fun b s₂ => wpAny c.M A (t a b) PQ PE s₂) PE s₁) PE s → wpAny c.M A (tree env) PQ PE s)
    (p : SE c d hd nm σ η l (fun a η₁ => SE c d hd nm σ η₁ r (fun b η₂ => S2 c d hd t a b η₂ Q X) X) X)
    (o : Ok d hd A) (I : Inv c η pr A s) (F : FrameR c s.heap η pr nm env σ) : wpAny c.M A (tree env) (Post c A noOwn pr η s.heap Q) (Exc c A noOwn pr η s.heap X) s :=
  ht (wpAny_mono (p A env s pr o I F) (fun a s₁ ⟨v, η₁, q, I₁, rv, st⟩ => wpAny_mono (q A env s₁ pr o I₁ (F.step I st)) (fun b s₂ ⟨w, η₂, q₂, I₂, rw', st₂⟩ =>
    wpAny_mono (q₂ A s₂ pr a b o I₂ (rv.step I₁ st₂) rw') (fun _ _ e => e.older (st.trans st₂)) fun _ _ e => e.older (st.trans st₂)) fun _ _ e => e.older st) fun _ _ e => e)

theorem SE.bin {l r : Expr} {op : Operator} (p : SE c d hd nm σ η l (fun a η₁ => SE c d hd nm σ η₁ r (fun b η₂ => S2 c d hd (binaryOp op) a b η₂ Q X) X) X) : SE c d hd nm σ η (.BinOp l op r pos) Q X :=
  fun A env s pr o I F => SE.op2 (tree := fun env => eval (.BinOp l op r pos) env) (fun h => wpAny_BinOp h) p o I F

theorem SE.cmp {l r : Expr} {op : CmpOp} (p : SE c d hd nm σ η l (fun a η₁ => SE c d hd nm σ η₁ r (fun b η₂ => S2 c d hd (compareOp op) a b η₂ Q X) X) X)
    (hm : behindInMarks op r = false := by with_unfolding_all rfl) : SE c d hd nm σ η (.Compare l [op] [r] pos) Q X :=
  fun A env s pr o I F => SE.op2 (tree := fun env => eval (.Compare l [op] [r] pos) env) (fun h => wpAny_Compare1 h hm) p o I F

theorem S2.then_truth {t : Value → Value → Sem Value} (p : S2 c d hd t v w η (fun u η₁ => SB c d hd u η₁ B X) X) {xv xw : Value} (o : Ok d hd A) (I : Inv c η pr A s) (rv : Rv c.P s.heap η pr v xv) (rw' : Rv c.P s.heap η pr w xw) :
    wpAny c.M A (t xv xw) (fun u s₁ => wpAny c.M A (truthy u) (BPost c A pr η s.heap B) (Exc c A noOwn pr η s.heap X) s₁) (Exc c A noOwn pr η s.heap X) s :=
  wpAny_mono (p A s pr xv xw o I rv rw') (fun u s₁ ⟨uv, η₁, q, I₁, ru, st⟩ => wpAny_mono (q A s₁ pr u o I₁ ru) (fun _ _ e => e.older st) fun _ _ e => e.older st) fun _ _ e => e

theorem ST.cmp {l r : Expr} {op : CmpOp} (p : SE c d hd nm σ η l (fun a η₁ => SE c d hd nm σ η₁ r (fun b η₂ => S2 c d hd (compareOp op) a b η₂ (fun u η₃ => SB c d hd u η₃ B X) X) X) X)
    (hm : behindInMarks op r = false := by with_unfolding_all rfl) : ST c d hd nm σ η (.Compare l [op] [r] pos) B X :=
  fun A env s pr o I F => wpAny_isTrue_Compare1 (wpAny_mono (p A env s pr o I F) (fun a s₁ ⟨v, η₁, q, I₁, rv, st⟩ => wpAny_mono (q A env s₁ pr o I₁ (F.step I st)) (fun b s₂ ⟨w, η₂, q₂, I₂, rw', st₂⟩ =>
    wpAny_mono (q₂.then_truth o I₂ (rv.step I₁ st₂) rw') (fun _ _ e => wpAny_mono e (fun _ _ e => e.older (st.trans st₂)) fun _ _ e => e.older (st.trans st₂)) fun _ _ e => e.older (st.trans st₂)) fun _ _ e => e.older st) fun _ _ e => e) hm

theorem ST.val {e : Expr} (p : SE c d hd nm σ η e (fun v η₁ => SB c d hd v η₁ B X) X)
    (he : ∀ env, isTrue e env (eval e env) = (do let v ← eval e env; standAt e.pos; holding [v] (truthy v)) := by intro _; with_unfolding_all rfl) : ST c d hd nm σ η e B X :=
  fun A env s pr o I F => wpAny_isTrue_value (wpAny_mono (p A env s pr o I F) (fun a s₁ ⟨v, η₁, q, I₁, rv, st⟩ => wpAny_mono (q A s₁ pr a o I₁ rv) (fun _ _ e => e.older st) fun _ _ e => e.older st) fun _ _ e => e) (he env)

theorem ST.not {e : Expr} (p : ST c d hd nm σ η e (fun b η₁ => B (!b) η₁) X) : ST c d hd nm σ η (.UnaryOp .Not e pos) B X :=
  fun A env s pr o I F => wpAny_isTrue_Not (wpAny_mono (p A env s pr o I F) (fun _ _ ⟨η', q, r⟩ => ⟨η', q, r⟩) fun _ _ e => e)

/-- a chain of tests -/
noncomputable def STs (c : Cx) (d : Nat) (hd : Bool) (nm : List (Str × NameKind)) (σ : List (Option V)) (op : BoolOp) (η : Hp) (es : List Expr) (Q : Bool → Hp → Prop) (X : Addr → Hp → Prop) : Prop :=
  ∀ A env s pr, Ok d hd A → Inv c η pr A s → FrameR c s.heap η pr nm env σ → wpAny c.M A (allTrue op es env) (BPost c A pr η s.heap Q) (Exc c A noOwn pr η s.heap X) s
theorem ST.boolop {op : BoolOp} {es : List Expr} (p : STs c d hd nm σ op η es B X) : ST c d hd nm σ η (.BoolOp op es pos) B X :=
  fun A env s pr o I F => wpAny_isTrue_BoolOp (p A env s pr o I F)
theorem STs.and_nil (q : B true η) : STs c d hd nm σ .And η [] B X := fun _ _ _ _ _ I _ => wpAny_allTrue_And_nil ⟨η, q, I, Step.refl ..⟩
theorem STs.or_nil (q : B false η) : STs c d hd nm σ .Or η [] B X := fun _ _ _ _ _ I _ => wpAny_allTrue_Or_nil ⟨η, q, I, Step.refl ..⟩
theorem STs.and_cons {e : Expr} {es : List Expr} (p : ST c d hd nm σ η e (fun b η₁ => if b then STs c d hd nm σ .And η₁ es B X else B false η₁) X) : STs c d hd nm σ .And η (e :: es) B X :=
  fun A env s pr o I F => wpAny_allTrue_And_cons (wpAny_mono (p A env s pr o I F) (fun b s₁ ⟨η₁, q, I₁, st⟩ => by
    cases b with
    | false => exact ⟨η₁, q, I₁, st⟩
    | true => exact wpAny_mono (q A env s₁ pr o I₁ (F.step I st)) (fun _ _ e => e.older st) fun _ _ e => e.older st) fun _ _ e => e)
theorem STs.or_cons {e : Expr} {es : List Expr} (p : ST c d hd nm σ η e (fun b η₁ => if b then B true η₁ else STs c d hd nm σ .Or η₁ es B X) X) : STs c d hd nm σ .Or η (e :: es) B X :=
  fun A env s pr o I F => wpAny_allTrue_Or_cons (wpAny_mono (p A env s pr o I F) (fun b s₁ ⟨η₁, q, I₁, st⟩ => by
    cases b with
    | true => exact ⟨η₁, q, I₁, st⟩
    | false => exact wpAny_mono (q A env s₁ pr o I₁ (F.step I st)) (fun _ _ e => e.older st) fun _ _ e => e.older st) fun _ _ e => e)

/-- and, or as values -/
noncomputable def SBo (c : Cx) (d : Nat) (hd : Bool) (nm : List (Str × NameKind)) (σ : List (Option V)) (op : BoolOp) (η : Hp) (es : List Expr) (Q : V → Hp → Prop) (X : Addr → Hp → Prop) : Prop :=
  ∀ A env s pr pos, Ok d hd A → Inv c η pr A s → FrameR c s.heap η pr nm env σ → wpAny c.M A (boolOp pos op (evalEach es env)) (Post c A noOwn pr η s.heap Q) (Exc c A noOwn pr η s.heap X) s
theorem SE.boolop {op : BoolOp} {es : List Expr} (p : SBo c d hd nm σ op η es Q X) : SE c d hd nm σ η (.BoolOp op es pos) Q X :=
  fun A env s pr o I F => p A env s pr pos o I F
theorem SBo.one {op : BoolOp} {e : Expr} (p : SE c d hd nm σ η e Q X) : SBo c d hd nm σ op η [e] Q X := fun A env s pr _ o I F => p A env s pr o I F
theorem SBo.and_cons {e e' : Expr} {es : List Expr} (p : SE c d hd nm σ η e (fun v η₁ => SB c d hd v η₁ (fun b η₂ => if b then SBo c d hd nm σ .And η₂ (e' :: es) Q X else Q v η₂) X) X) : SBo c d hd nm σ .And η (e :: e' :: es) Q X :=
  fun A env s pr pos o I F => by
    show wpAny c.M A (do let v ← eval e env; standAt pos; let t ← holding [v] (truthy v); match BoolOp.And, t with | .And, false | .Or, true => pure v | _, _ => boolOp pos .And (evalEach (e' :: es) env)) _ _ s
    refine wpAny_bind (wpAny_mono (p A env s pr o I F) (fun a s₁ ⟨v, η₁, q, I₁, rv, st⟩ => wpAny_bind (wpAny_standAt (wpAny_bind (wpAny_holding (wpAny_mono (q A s₁ pr a o I₁ rv) (fun b s₂ ⟨η₂, q₂, I₂, st₂⟩ => ?_) fun _ _ e => e.older st))))) fun _ _ e => e)
    cases b with
    | false => exact wpAny_pure ⟨v, η₂, q₂, I₂, rv.step I₁ st₂, st.trans st₂⟩
    | true => exact wpAny_mono (q₂ A env s₂ pr pos o I₂ (F.step I (st.trans st₂))) (fun _ _ e => e.older (st.trans st₂)) fun _ _ e => e.older (st.trans st₂)
theorem SE.not {e : Expr} (p : SE c d hd nm σ η e (fun v η₁ => SB c d hd v η₁ (fun b η₂ => Q (.bool (!b)) η₂) X) X) : SE c d hd nm σ η (.UnaryOp .Not e pos) Q X :=
  fun A env s pr o I F => wpAny_UnaryOp (wpAny_mono (p A env s pr o I F) (fun a s₁ ⟨v, η₁, q, I₁, rv, st⟩ =>
    not_value (wpAny_mono (q A s₁ pr a o I₁ rv) (fun b s₂ ⟨η₂, q₂, I₂, st₂⟩ => ⟨.bool (!b), η₂, q₂, I₂, rfl, st.trans st₂⟩) fun _ _ e => e.older st)) fun _ _ e => e)

theorem SE.un {e : Expr} {op : UnaryOp} (p : SE c d hd nm σ η e (fun v η₁ => S1 c d hd (unaryOp op) v η₁ Q X) X) : SE c d hd nm σ η (.UnaryOp op e pos) Q X :=
  fun A env s pr o I F => wpAny_UnaryOp (wpAny_mono (p A env s pr o I F) (fun a s₁ ⟨v, η₁, q, I₁, rv, st⟩ =>
    wpAny_mono (q A s₁ pr a o I₁ rv) (fun _ _ e => e.older st) fun _ _ e => e.older st) fun _ _ e => e)

-- truth
theorem SB.bool {b : Bool} (q : B b η) : SB c d hd (.bool b) η B X := fun _ _ _ _ _ I r => by
  unfold Rv at r; subst r; exact wpAny_truthy_bool ⟨η, q, I, Step.refl ..⟩

-- int arithmetic
theorem S2.addI {a b : Int} (q : Q (.int (a + b)) η) : S2 c d hd (binaryOp .Add) (.int a) (.int b) η Q X := fun _ _ _ _ _ _ I r r' => by
  unfold Rv at r r'; obtain ⟨t, rfl⟩ := r; obtain ⟨u, rfl⟩ := r'
  exact PySem.P.add_int (Post.pure (v := .int (a + b)) I (fun _ _ e => e) ⟨_, rfl⟩ q)
theorem S2.subI {a b : Int} (q : Q (.int (a - b)) η) : S2 c d hd (binaryOp .Sub) (.int a) (.int b) η Q X := fun _ _ _ _ _ _ I r r' => by
  unfold Rv at r r'; obtain ⟨t, rfl⟩ := r; obtain ⟨u, rfl⟩ := r'
  exact PySem.P.sub_int (Post.pure (v := .int (a - b)) I (fun _ _ e => e) ⟨_, rfl⟩ q)
theorem S2.mulI {a b : Int} (hm : IntMulOk a b) (q : Q (.int (a * b)) η) : S2 c d hd (binaryOp .Mult) (.int a) (.int b) η Q X := fun _ _ _ _ _ _ I r r' => by
  unfold Rv at r r'; obtain ⟨t, rfl⟩ := r; obtain ⟨u, rfl⟩ := r'
  exact PySem.P.mul_int (Post.pure (v := .int (a * b)) I (fun _ _ e => e) ⟨_, rfl⟩ q) hm
theorem S2.modI {a b : Int} (hb : b ≠ 0) (q : Q (.int (a.fmod b)) η) : S2 c d hd (binaryOp .Mod) (.int a) (.int b) η Q X := fun _ _ _ _ _ _ I r r' => by
  unfold Rv at r r'; obtain ⟨t, rfl⟩ := r; obtain ⟨u, rfl⟩ := r'
  exact PyProof.Rows.mod_int' hb (Post.pure (v := .int (a.fmod b)) I (fun _ _ e => e) ⟨_, rfl⟩ q)
theorem S2.divI {a b : Int} (hb : b ≠ 0) (hp : Builtin.divisionGoesByPylong a b = false) (q : Q (.int (a.fdiv b)) η) : S2 c d hd (binaryOp .FloorDiv) (.int a) (.int b) η Q X := fun _ _ _ _ _ _ I r r' => by
  unfold Rv at r r'; obtain ⟨t, rfl⟩ := r; obtain ⟨u, rfl⟩ := r'
  exact PyProof.Rows.floordiv_int hb (Post.pure (v := .int (a.fdiv b)) I (fun _ _ e => e) ⟨_, rfl⟩ q) (.inl hp)
theorem S2.eqI {a b : Int} (q : Q (.bool (a == b)) η) : S2 c d hd (compareOp .Eq) (.int a) (.int b) η Q X := fun _ _ _ _ _ _ I r r' => by
  unfold Rv at r r'; obtain ⟨t, rfl⟩ := r; obtain ⟨u, rfl⟩ := r'
  exact PySem.P.eq_int (Post.val (v := .bool (a == b)) I rfl q)
theorem S2.neI {a b : Int} (q : Q (.bool (a != b)) η) : S2 c d hd (compareOp .NotEq) (.int a) (.int b) η Q X := fun _ _ _ _ _ _ I r r' => by
  unfold Rv at r r'; obtain ⟨t, rfl⟩ := r; obtain ⟨u, rfl⟩ := r'
  exact PySem.P.ne_int (Post.val (v := .bool (a != b)) I rfl q)
theorem S2.ltI {a b : Int} (q : Q (.bool (decide (a < b))) η) : S2 c d hd (compareOp .Lt) (.int a) (.int b) η Q X := fun _ _ _ _ _ _ I r r' => by
  unfold Rv at r r'; obtain ⟨t, rfl⟩ := r; obtain ⟨u, rfl⟩ := r'
  exact PySem.P.lt_int (Post.val (v := .bool (decide (a < b))) I rfl q)
theorem S2.gtI {a b : Int} (q : Q (.bool (decide (a > b))) η) : S2 c d hd (compareOp .Gt) (.int a) (.int b) η Q X := fun _ _ _ _ _ _ I r r' => by
  unfold Rv at r r'; obtain ⟨t, rfl⟩ := r; obtain ⟨u, rfl⟩ := r'
  exact PySem.P.gt_int (Post.val (v := .bool (decide (a > b))) I rfl q)
theorem S2.geI {a b : Int} (q : Q (.bool (decide (a ≥ b))) η) : S2 c d hd (compareOp .GtE) (.int a) (.int b) η Q X := fun _ _ _ _ _ _ I r r' => by
  unfold Rv at r r'; obtain ⟨t, rfl⟩ := r; obtain ⟨u, rfl⟩ := r'
  exact PySem.P.ge_int (Post.val (v := .bool (decide (a ≥ b))) I rfl q)
end
end Mine

namespace Mine
open PySem PyProof.Rows

/-- positional parameters alone -/
noncomputable def plainArgs (as : List Arg) : Arguments := { posonlyargs := [], args := as, vararg := none, kwonlyargs := [], kw_defaults := [], kwarg := none, defaults := [] }

theorem zip_lookup {α : Type} : ∀ (ns : List Str) (xs : List α), ns.Nodup → ns.length = xs.length → ∀ n ∈ ns, ((ns.zip xs).lookup n).isSome = true
  | [], _, _, _, _, h => by cases h
  | m :: ns, [], _, e, _, _ => by cases e
  | m :: ns, x :: xs, nd, e, n, h => by
    rw [List.zip_cons_cons, List.lookup_cons]
    rcases List.mem_cons.mp h with rfl | h
    · simp
    · cases q : n == m with
      | true => rfl
      | false => exact zip_lookup ns xs (List.nodup_cons.mp nd).2 (by simpa using e) n h
theorem zip_filterMap {α : Type} : ∀ (ns : List Str) (xs : List α) (pre : List (Str × α)), ns.Nodup → ns.length = xs.length → (∀ n ∈ ns, pre.lookup n = none) →
    ns.filterMap (fun n => ((pre ++ ns.zip xs).lookup n).map (n, ·)) = ns.zip xs
  | [], _, _, _, _, _ => rfl
  | m :: ns, [], _, _, e, _ => by cases e
  | m :: ns, x :: xs, pre, nd, e, hp => by
    obtain ⟨n1, n2⟩ := List.nodup_cons.mp nd
    have h1 : (pre ++ (m :: ns).zip (x :: xs)).lookup m = some x := by
      rw [List.lookup_append, hp m (.head _), List.zip_cons_cons, List.lookup_cons]; simp
    rw [List.filterMap_cons, h1]
    show (m, x) :: _ = _
    rw [List.zip_cons_cons]
    congr 1
    have := zip_filterMap ns xs (pre ++ [(m, x)]) n2 (by simpa using e) (fun n hn => by
      rw [List.lookup_append, hp n (.tail _ hn), List.lookup_cons]
      have : (n == m) = false := by
        simp only [beq_eq_false_iff_ne, ne_eq]; rintro rfl; exact n1 hn
      simp [this])
    rw [List.append_assoc] at this
    exact this

theorem bind_pos {fd : FuncData} {as : List Arg} {vals : List Value} (hp : fd.params = plainArgs as) (hdf : fd.defaults = .none) (hnd : (as.map (·.arg)).Nodup) (hl : as.length = vals.length) :
    bindArgs fd ⟨vals, []⟩ = pure ((as.map (·.arg)).zip vals) := by
  have hl' : (as.map (·.arg)).length = vals.length := by simpa using hl
  have hmiss : ((as.map (·.arg)).filter fun n => (((as.map (·.arg)).zip vals).lookup n).isNone) = [] := by
    rw [List.filter_eq_nil_iff]
    intro n hn
    have := zip_lookup _ vals hnd hl' n hn
    cases q : ((as.map (·.arg)).zip vals).lookup n with
    | none => rw [q] at this; cases this
    | some _ => simp
  have hb := zip_filterMap (as.map (·.arg)) vals [] hnd hl' (fun _ _ => rfl)
  rw [List.nil_append] at hb
  have hgt : ¬ (vals.length > (as.map (·.arg)).length) := by omega
  have hq : seqItems? .none = pure none := rfl
  unfold bindArgs
  rw [hp, hdf, hq]
  simp only [plainArgs, List.map_nil, List.nil_append, List.forIn_nil, pure_bind, Option.getD_none, List.append_nil, Option.isNone_none, Bool.and_true, decide_eq_true_eq, hgt, if_false, List.length_nil,
    Nat.sub_zero, List.drop_nil, Array.toList_empty, Nat.zero_sub, List.drop_zero, List.take_length, hmiss, List.isEmpty_nil, Bool.not_true, Bool.false_eq_true, List.drop_length, List.zip_nil_left, hb, List.zip_nil_right]

end Mine

namespace Mine
open PySem PyProof.Rows

/-- a heap cut down to some addresses -/
noncomputable def only (h : Heap) (P : Addr → Prop) : Heap := ⟨h.objs.mapIdx (fun i o => open Classical in if P i then o else { cls := .none, data := .freed }), h.life⟩
theorem get?_only_pos {h : Heap} {P : Addr → Prop} {b : Addr} (p : P b) : (only h P).get? b = h.get? b := by
  unfold only Heap.get?
  simp only [Array.getElem?_mapIdx]
  cases h.objs[b]? with
  | none => rfl
  | some o => simp only [Option.map_some, if_pos p]
theorem get?_only_neg {h : Heap} {P : Addr → Prop} {b : Addr} (p : ¬ P b) : (only h P).get? b = none := by
  unfold only Heap.get?
  simp only [Array.getElem?_mapIdx]
  cases h.objs[b]? with
  | none => rfl
  | some o => simp only [Option.map_some, if_neg p]

section
variable {c : Cx} {A : Around} {pr : Pr} {η η' : Hp} {s : Shared} {env : Env} {outer : List Env} {L e C : Addr} {h₀ : Heap}

theorem funFrames_mem {h base : Heap} {fr : List Env} (f : h.FunFrames base fr) {env : Env} (m : env ∈ fr) : ∃ L o, env.frame = some L ∧ base.get? L = none ∧ h.get? L = some o ∧ ∀ vs, o.data ≠ .fields vs := by
  induction fr with
  | nil => cases m
  | cons x r ih =>
    obtain ⟨_, ⟨L, o, q⟩, r'⟩ := f
    rcases List.mem_cons.mp m with rfl | m
    · exact ⟨L, o, q⟩
    · exact ih r' m

theorem funFrames_only {h base : Heap} {P : Addr → Prop} {fr : List Env} (f : h.FunFrames base fr) (k : ∀ env ∈ fr, ∀ L, env.frame = some L → ¬ P L) : h.FunFrames (only h P) fr := by
  induction fr with
  | nil => trivial
  | cons x r ih =>
    obtain ⟨a, ⟨L, o, q1, q2, q3, q4⟩, r'⟩ := f
    exact ⟨a, ⟨L, o, q1, get?_only_neg (k x (.head _) L q1), q3, q4⟩, ih r' fun env m => k env (.tail _ m)⟩

theorem exPr_fields {h : Heap} {oe : Obj} {vs : Array Value} (he : h.get? e = some oe) (hd : oe.data = .fields vs) {b : Addr} (p : exPr pr e h b) : pr b ∨ b = e ∨ vs[1]? = some (.ref b) := by
  rcases p with p | p | ⟨o, ws, q1, q2, q3⟩
  · exact .inl p
  · exact .inr (.inl p)
  · rw [he] at q1; cases q1; rw [hd] at q2; cases q2; exact .inr (.inr q3)

/-- what stays when an exception is noted -/
noncomputable def keptP (A : Around) (e : Addr) (h : Heap) : Addr → Prop := fun b => ¬ isFr A b ∧ ¬ (b = e ∨ ∃ o vs, h.get? e = some o ∧ o.data = .fields vs ∧ vs[1]? = some (.ref b))
theorem leave_fin (I : Inv c η (exPr pr e s.heap) A s) (hfr : A.frames = some (env :: outer)) (hf : env.frame = some L)
    (t : Thr A h₀ s.heap e C) (hn : h₀.get? e = none) (hpr : ∀ b, pr b → (h₀.get? b).isSome = true) (hb : c.base.StaysIn h₀) (hth : ∀ b o, h₀.get? b = some o → (s.heap.get? b).isSome = true)
    {fl a0 : Value} {h' : Heap} (nw : Heap.NotedW (only s.heap (keptP A e s.heap)) (env :: outer) e (.ref C) a0 fl s.heap h') :
    h'.TracedAtW h₀ e (.ref C) a0 fl ∧ Inv c η (exPr pr e h') A { s with heap := h' } ∧
      (∀ b o, s.heap.get? b = some o → ((h₀.get? b).isSome = true ∨ ∀ vs, o.data ≠ .fields vs) → (∃ sl, h'.get? b = some { o with slots := sl }) ∧ (¬ isFr A b → h'.get? b = some o)) := by
  obtain ⟨k1, k2, k3, k4⟩ := nw
  obtain ⟨fr, hfr', ff⟩ := I.frames
  rw [hfr] at hfr'; cases hfr'
  have isF : ∀ b, isFr A b ↔ ∃ x ∈ env :: outer, x.frame = some b := fun b => by unfold isFr; rw [hfr]; rfl
  -- what is kept
  let P := keptP A e s.heap
  have ffP : s.heap.FunFrames (only s.heap P) (env :: outer) := funFrames_only ff fun x m l q p => p.1 ((isF l).mpr ⟨x, m, q⟩)
  have stP : (only s.heap P).StaysIn s.heap := fun b o q => by
    by_cases p : P b
    · rw [get?_only_pos p] at q; exact q
    · rw [get?_only_neg p] at q; cases q
  have eP : (only s.heap P).get? e = none := get?_only_neg fun p => p.2 (.inl rfl)
  -- the traceback lies not in the elder heap
  have tn : ∀ b o vs, s.heap.get? e = some o → o.data = .fields vs → vs[1]? = some (.ref b) → h₀.get? b = none := by
    intro b o vs q1 q2 q3
    rcases t with ⟨oe, ws, a0, t1, t2, t3, t4, t5⟩ | ⟨a0, fl, ⟨oe, ws, T, oT, ts, t1, t2, t3, t4, t5, t6⟩, _⟩
    · rw [t1] at q1; cases q1; rw [t3] at q2; cases q2; rw [t4] at q3; cases q3
    · rw [t1] at q1; cases q1; rw [t3] at q2; cases q2; rw [t4] at q3; cases q3; exact t5
  obtain ⟨oe, vs, T, oT, ts, t1, ⟨t2, t2'⟩, t3, t4, t5, t6, t7, t8, t9⟩ := k3
  have frDict : ∀ b, isFr A b → ∃ o, s.heap.get? b = some o ∧ ∀ vs, o.data ≠ .fields vs := fun b q => by
    obtain ⟨x, m, q⟩ := (isF b).mp q
    obtain ⟨l, o, q1, _, q3, q4⟩ := funFrames_mem ff m
    rw [q] at q1; cases q1; exact ⟨o, q3, q4⟩
  have Tfr : ¬ isFr A T := fun q => by
    obtain ⟨o, q1, q2⟩ := frDict T q
    obtain ⟨sl, q3⟩ := k4 T o q1 q2
    rw [t7] at q3; cases q3; exact q2 _ t8
  have keep : ∀ b o, s.heap.get? b = some o → ¬ (b = e ∨ ∃ o vs, s.heap.get? e = some o ∧ o.data = .fields vs ∧ vs[1]? = some (.ref b)) → (∃ sl, h'.get? b = some { o with slots := sl }) ∧ (¬ isFr A b → h'.get? b = some o) := by
    intro b o q nb
    by_cases fb : isFr A b
    · obtain ⟨o', q1, q2⟩ := frDict b fb
      rw [q] at q1; cases q1
      exact ⟨k4 b o q q2, fun x => (x fb).elim⟩
    · have : h'.get? b = some o := k1 b o (by rw [get?_only_pos (P := P) ⟨fb, nb⟩]; exact q)
      exact ⟨⟨o.slots, this⟩, fun _ => this⟩
  have keepN : ∀ b o, s.heap.get? b = some o → (∀ vs, o.data ≠ .fields vs) → (∃ sl, h'.get? b = some { o with slots := sl }) ∧ (¬ isFr A b → h'.get? b = some o) := by
    intro b o q nf
    refine ⟨k4 b o q nf, fun fb => ?_⟩
    have nb : ¬ (b = e ∨ ∃ o vs, s.heap.get? e = some o ∧ o.data = .fields vs ∧ vs[1]? = some (.ref b)) := by
      rintro (rfl | ⟨o', vs', q1, q2, q3⟩)
      · rcases t with ⟨oe', ws, a0', u1, _, u3, _⟩ | ⟨a0', fl', ⟨oe', ws, T', oT', ts', u1, _, u3, _⟩, _⟩
        · rw [q] at u1; cases u1; exact nf _ u3
        · rw [q] at u1; cases u1; exact nf _ u3
      · rcases t with ⟨oe', ws, a0', u1, _, u3, u4, _⟩ | ⟨a0', fl', ⟨oe', ws, T', oT', ts', u1, _, u3, u4, _, _, u7, u8, _⟩, _⟩
        · rw [u1] at q1; cases q1; rw [u3] at q2; cases q2; rw [u4] at q3; cases q3
        · rw [u1] at q1; cases q1; rw [u3] at q2; cases q2; rw [u4] at q3; cases q3
          rw [q] at u7; cases u7; exact nf _ u8
    exact (keep b o q nb).2 fb
  -- T is not an object that stayed
  have Tnew : ∀ b o, s.heap.get? b = some o → ¬ exPr pr e s.heap b → b ≠ T := by
    intro b o q nb eq
    subst eq
    have := get?_only_pos (h := s.heap) (P := P) (b := b) ⟨Tfr, fun x => nb (.inr x)⟩
    rw [t5] at this; rw [q] at this; cases this
  have Th₀ : h₀.get? T = none := by
    cases q : h₀.get? T with
    | none => rfl
    | some o =>
      exfalso
      obtain ⟨o', w⟩ := Option.isSome_iff_exists.mp (hth T o q)
      have pT : P T := ⟨Tfr, by
        rintro (x | ⟨o2, vs2, x1, x2, x3⟩)
        · exact t6 x
        · rw [tn T o2 vs2 x1 x2 x3] at q; cases q⟩
      have := get?_only_pos (h := s.heap) pT
      rw [t5, w] at this; cases this
  have mono : Mono (exPr pr e s.heap) η s.heap η (exPr pr e h') h' := by
    refine ⟨fun b o q n p => ?_, fun _ q => q, fun b o q n p => ⟨n, fun x => ?_⟩⟩
    · exact (keep b o q (fun x => p (.inr x))).2 (fun f => p (I.frs b f))
    · rcases exPr_fields t1 t3 x with x | x | x
      · exact p (.inl x)
      · exact p (.inr (.inl x))
      · rw [t4] at x; cases x; exact Tnew T o q p rfl
  refine ⟨⟨oe, vs, T, oT, ts, t1, ⟨t2, t2'⟩, t3, t4, Th₀, t6, t7, t8, t9⟩, ?_, ?_⟩
  · refine ⟨fun b o q => ?_, fun a o q => ?_, I.apart, fun a p => ?_, ⟨_, hfr, ff.of_keeps fun b o q nf => ?_⟩, fun b f => ?_, I.os, I.gens⟩
    · obtain ⟨o', w⟩ := Option.isSome_iff_exists.mp (hth b o (hb b o q))
      have w' := I.stays b o q
      refine (keep b o w' ?_).2 (fun f => ?_)
      · rintro (rfl | ⟨o2, vs2, x1, x2, x3⟩)
        · have := hb _ o q; rw [hn] at this; cases this
        · have := hb b o q; rw [tn b o2 vs2 x1 x2 x3] at this; cases this
      · have := (I.privs b (I.frs b f)).2.2; rw [q] at this; cases this
    · refine (I.hrel a o q).mono mono fun o' nf w => (keepN a o' w nf).2 fun f => ?_
      have := (I.privs a (I.frs a f)).2.1; rw [q] at this; cases this
    · rcases exPr_fields t1 t3 p with p | rfl | p
      · obtain ⟨w1, w2, w3⟩ := I.privs a (.inl p)
        obtain ⟨o, w⟩ := Option.isSome_iff_exists.mp w1
        obtain ⟨⟨sl, w'⟩, _⟩ := keep a o w (by
          rintro (x | ⟨o2, vs2, x1, x2, x3⟩)
          · have := hpr _ p; rw [x, hn] at this; cases this
          · have := hpr a p; rw [tn a o2 vs2 x1 x2 x3] at this; cases this)
        exact ⟨by show (h'.get? a).isSome = true; rw [w']; rfl, w2, w3⟩
      · obtain ⟨w1, w2, w3⟩ := I.privs a (.inr (.inl rfl))
        exact ⟨by show (h'.get? a).isSome = true; rw [t1]; rfl, w2, w3⟩
      · rw [t4] at p; cases p
        refine ⟨by show (h'.get? T).isSome = true; rw [t7]; rfl, ?_, ?_⟩
        · cases w : η T with
          | none => rfl
          | some o =>
            obtain ⟨o', w1, w2⟩ := (I.hrel T o w).nofields
            obtain ⟨sl, w3⟩ := k4 T o' w1 w2
            rw [t7] at w3; cases w3; exact (w2 _ t8).elim
        · cases w : c.base.get? T with
          | none => rfl
          | some o => have := hb T o w; rw [Th₀] at this; cases this
    · obtain ⟨sl, w⟩ := k4 b o q nf
      exact ⟨_, w, rfl⟩
    · obtain ⟨o, w1, w2⟩ := frDict b f
      rcases I.frs b f with p | rfl | ⟨o2, vs2, x1, x2, x3⟩
      · exact .inl p
      · exact .inr (.inl rfl)
      · rcases t with ⟨oe', ws, a0', u1, _, u3, u4, _⟩ | ⟨a0', fl', ⟨oe', ws, T', oT', ts', u1, _, u3, u4, _, _, u7, u8, _⟩, _⟩
        · rw [u1] at x1; cases x1; rw [u3] at x2; cases x2; rw [u4] at x3; cases x3
        · rw [u1] at x1; cases x1; rw [u3] at x2; cases x2; rw [u4] at x3; cases x3
          rw [w1] at u7; cases u7; exact (w2 _ u8).elim
  · intro b o q w
    rcases w with w | w
    · refine keep b o q ?_
      rintro (rfl | ⟨o2, vs2, x1, x2, x3⟩)
      · rw [hn] at w; cases w
      · rw [tn b o2 vs2 x1 x2 x3] at w; cases w
    · exact keepN b o q w
/-- an exception is noted in a frame: what the notes need -/
theorem note_pre (I : Inv c η (exPr pr e s.heap) A s) (hfr : A.frames = some (env :: outer)) :
    s.heap.FunFrames (only s.heap (keptP A e s.heap)) (env :: outer) ∧ (only s.heap (keptP A e s.heap)).StaysIn s.heap ∧ (only s.heap (keptP A e s.heap)).get? e = none := by
  obtain ⟨fr, hfr', ff⟩ := I.frames
  rw [hfr] at hfr'; cases hfr'
  have isF : ∀ b, isFr A b ↔ ∃ x ∈ env :: outer, x.frame = some b := fun b => by unfold isFr; rw [hfr]; rfl
  refine ⟨funFrames_only ff fun x m l q p => p.1 ((isF l).mpr ⟨x, m, q⟩), fun b o q => ?_, get?_only_neg fun p => p.2 (.inl rfl)⟩
  by_cases p : keptP A e s.heap b
  · rw [get?_only_pos p] at q; exact q
  · rw [get?_only_neg p] at q; cases q
/-- an exception is noted in a frame -/
theorem note_thr {Q : Unit → Shared → Prop} {E : Value → Shared → Prop} (I : Inv c η (exPr pr e s.heap) A s) (hfr : A.frames = some (env :: outer)) (hf : env.frame = some L)
    (t : Thr A h₀ s.heap e C) (hn : h₀.get? e = none) (hpr : ∀ b, pr b → (h₀.get? b).isSome = true) (hb : c.base.StaysIn h₀) (hth : ∀ b o, h₀.get? b = some o → (s.heap.get? b).isSome = true)
    (hQ : ∀ h' a0, Heap.NotedW (only s.heap (keptP A e s.heap)) (env :: outer) e (.ref C) a0 (rawInt L) s.heap h' → Q () { s with heap := h' }) : wpAny c.M A (noteFrame (.ref e) env) Q E s := by
  obtain ⟨ffP, stP, eP⟩ := note_pre I hfr
  rcases t with ⟨oe, vs, a0, t1, t2, t3, t4, t5⟩ | ⟨a0, fl, t, hfl⟩
  · unfold noteFrame
    simp only [hf]
    refine wpAny_bind (wpAny_field t1 t3 t4 ?_)
    rw [if_neg (by decide)]
    refine wpAny_entryW hfr ffP hf t1 stP eP t3 (Array.getElem?_eq_some_iff.mp t4).1 t5 fun h' q => ?_
    rw [t2] at q; exact hQ h' a0 q
  · obtain ⟨oe, vs, T, oT, ts, t1, t2, t3, t4, t5, t6⟩ := t
    have tr : s.heap.TracedAtW (only s.heap (keptP A e s.heap)) e (.ref C) a0 fl := ⟨oe, vs, T, oT, ts, t1, t2, t3, t4, get?_only_neg fun p => p.2 (.inr ⟨oe, vs, t1, t3, t4⟩), t6⟩
    rcases hfl with rfl | ⟨env', outer', L', q1, q2, rfl⟩
    · exact wpAny_noteFrame_onW hfr ffP hf tr stP eP fun h' q => hQ h' a0 q
    · rw [hfr] at q1; cases q1; rw [hf] at q2; cases q2
      exact wpAny_noteFrame_againW hf tr (hQ s.heap a0 ⟨stP, ffP, tr, fun b o q _ => ⟨o.slots, q⟩⟩)
theorem leave_both {Q : Unit → Shared → Prop} {E : Value → Shared → Prop} (I : Inv c η (exPr pr e s.heap) A s) (hfr : A.frames = some (env :: outer)) (hf : env.frame = some L)
    (t : Thr A h₀ s.heap e C) (hn : h₀.get? e = none) (hpr : ∀ b, pr b → (h₀.get? b).isSome = true) (hb : c.base.StaysIn h₀) (hth : ∀ b o, h₀.get? b = some o → (s.heap.get? b).isSome = true)
    (hQ : ∀ h' a0, h'.TracedW h₀ e (.ref C) a0 → Inv c η (exPr pr e h') A { s with heap := h' } →
      (∀ b o, s.heap.get? b = some o → ((h₀.get? b).isSome = true ∨ ∀ vs, o.data ≠ .fields vs) → (∃ sl, h'.get? b = some { o with slots := sl }) ∧ (¬ isFr A b → h'.get? b = some o)) → Q () { s with heap := h' }) :
    wpAny c.M A (leaving env (.ref e)) Q E s ∧ wpAny c.M A (noteFrame (.ref e) env) (fun _ s₂ => wpAny c.M A (setFlight (.ref e) none) Q E s₂) E s := by
  have fin : ∀ a0 h', Heap.NotedW (only s.heap (keptP A e s.heap)) (env :: outer) e (.ref C) a0 .none s.heap h' → Q () { s with heap := h' } := fun a0 h' q => by
    obtain ⟨z1, z2, z3⟩ := leave_fin I hfr hf t hn hpr hb hth q
    exact hQ h' a0 z1 z2 z3
  have fin2 : wpAny c.M A (noteFrame (.ref e) env) (fun _ s₂ => wpAny c.M A (setFlight (.ref e) none) Q E s₂) E s := by
    refine note_thr I hfr hf t hn hpr hb hth fun h₁ a0 q => ?_
    obtain ⟨n1, n2, n3, n4⟩ := q
    refine wpAny_setFlight_noneW (s := { s with heap := h₁ }) n1 n2 n3 fun h' m1 m2 m3 m4 => fin a0 h' ⟨m1, m2, m3, fun b o q nf => ?_⟩
    obtain ⟨sl, w⟩ := n4 b o q nf
    exact ⟨sl, m4 b _ w nf⟩
  refine ⟨?_, fin2⟩
  unfold leaving
  exact wpAny_bind fin2
theorem leave_thr {Q : Unit → Shared → Prop} {E : Value → Shared → Prop} (I : Inv c η (exPr pr e s.heap) A s) (hfr : A.frames = some (env :: outer)) (hf : env.frame = some L)
    (t : Thr A h₀ s.heap e C) (hn : h₀.get? e = none) (hpr : ∀ b, pr b → (h₀.get? b).isSome = true) (hb : c.base.StaysIn h₀) (hth : ∀ b o, h₀.get? b = some o → (s.heap.get? b).isSome = true)
    (hQ : ∀ h' a0, h'.TracedW h₀ e (.ref C) a0 → Inv c η (exPr pr e h') A { s with heap := h' } →
      (∀ b o, s.heap.get? b = some o → ((h₀.get? b).isSome = true ∨ ∀ vs, o.data ≠ .fields vs) → (∃ sl, h'.get? b = some { o with slots := sl }) ∧ (¬ isFr A b → h'.get? b = some o)) → Q () { s with heap := h' }) :
    wpAny c.M A (leaving env (.ref e)) Q E s := (leave_both I hfr hf t hn hpr hb hth hQ).1
end
end Mine

namespace Mine
open PySem PyProof.Rows

/-- a frame's first values -/
inductive InitR (ps : List Str) (vs : List V) : List (Str × NameKind) → List (Option V) → Prop
  | nil : InitR ps vs [] []
  | skip {p nm σ} : InitR ps vs nm σ → InitR ps vs (p :: nm) (none :: σ)
  | bind {x k nm v σ} : (x, v) ∈ ps.zip vs → InitR ps vs nm σ → InitR ps vs ((x, k) :: nm) (some v :: σ)
theorem InitR.at {ps : List Str} {vs : List V} {nm : List (Str × NameKind)} {σ : List (Option V)} {x : Str} {k : NameKind} {v : V} (i : InitR ps vs nm σ) (a : At nm σ x k v) : (x, v) ∈ ps.zip vs := by
  induction i with
  | nil => cases a
  | skip _ ih => cases a with | tail a => exact ih a
  | bind m _ ih =>
    cases a with
    | head => exact m
    | tail a => exact ih a

theorem cellsFrom_has {x : Str} : ∀ (nm : List (Str × NameKind)) (n : Nat) (acc : List (Str × Addr)), (x, NameKind.cell) ∈ nm ∨ (acc.lookup x).isSome = true → ((cellsFrom n nm acc).lookup x).isSome = true
  | [], _, _, h => h.elim (fun e => by cases e) id
  | (y, k) :: r, n, acc, h => by
    unfold cellsFrom
    by_cases hk : (k == .cell) = true
    · rw [if_pos hk]
      refine cellsFrom_has r (n + 1) ((y, n) :: acc) ?_
      rw [List.lookup_cons]
      cases q : x == y with
      | true => exact .inr rfl
      | false =>
        rcases h with h | h
        · rcases List.mem_cons.mp h with e | h
          · cases e; simp at q
          · exact .inl h
        · exact .inr h
    · rw [if_neg hk]
      refine cellsFrom_has r n acc ?_
      rcases h with h | h
      · rcases List.mem_cons.mp h with e | h
        · cases e; exact absurd rfl hk
        · exact .inl h
      · exact .inr h
theorem cellsFrom_key {x : Str} {a : Addr} : ∀ (nm : List (Str × NameKind)) (n : Nat) (acc : List (Str × Addr)), (x, a) ∈ cellsFrom n nm acc → (x, a) ∈ acc ∨ n ≤ a
  | [], _, _, h => .inl h
  | (y, k) :: r, n, acc, h => by
    unfold cellsFrom at h
    by_cases hk : (k == .cell) = true
    · rw [if_pos hk] at h
      rcases cellsFrom_key r (n + 1) _ h with h | h
      · rcases List.mem_cons.mp h with e | h
        · cases e; exact .inr (Nat.le_refl _)
        · exact .inl h
      · exact .inr (by omega)
    · rw [if_neg hk] at h
      exact cellsFrom_key r n acc h

theorem bindL_not {kd : Str → Option NameKind} {x : Str} : ∀ (bs : List (Str × Value)) (m : Str → Option Value), x ∉ bs.map (·.1) → bindL kd bs m x = m x
  | [], _, _ => rfl
  | (n, v) :: r, m, h => by
    rw [List.map_cons, List.mem_cons] at h
    unfold bindL
    rw [bindL_not r _ fun q => h (.inr q)]
    split
    · exact if_neg fun q => h (.inl q)
    · rfl
theorem bindL_of {kd : Str → Option NameKind} {x : Str} {y : Value} (hk : kd x = some .local) : ∀ (bs : List (Str × Value)) (m : Str → Option Value), (bs.map (·.1)).Nodup → (x, y) ∈ bs → bindL kd bs m x = some y
  | (n, v) :: r, m, nd, h => by
    rw [List.map_cons, List.nodup_cons] at nd
    unfold bindL
    rcases List.mem_cons.mp h with e | h
    · cases e
      rw [bindL_not r _ nd.1, if_pos hk]; exact if_pos rfl
    · exact bindL_of hk r _ nd.2 h
theorem bindC_not {kd : Str → Option NameKind} {x : Str} : ∀ (bs : List (Str × Value)) (m : Str → Option Value), x ∉ bs.map (·.1) → bindC kd bs m x = m x
  | [], _, _ => rfl
  | (n, v) :: r, m, h => by
    rw [List.map_cons, List.mem_cons] at h
    unfold bindC
    rw [bindC_not r _ fun q => h (.inr q)]
    split
    · rfl
    · exact if_neg fun q => h (.inl q)
theorem bindC_of {kd : Str → Option NameKind} {x : Str} {y : Value} (hk : kd x = some .cell) : ∀ (bs : List (Str × Value)) (m : Str → Option Value), (bs.map (·.1)).Nodup → (x, y) ∈ bs → bindC kd bs m x = some y
  | (n, v) :: r, m, nd, h => by
    rw [List.map_cons, List.nodup_cons] at nd
    unfold bindC
    rcases List.mem_cons.mp h with e | h
    · cases e
      rw [bindC_not r _ nd.1, if_neg (by rw [hk]; intro q; cases q)]; exact if_pos rfl
    · exact bindC_of hk r _ nd.2 h

/-- a def's table, looked at once -/
noncomputable def tabOk (nm : List (Str × NameKind)) (as : List Arg) : Bool :=
  decide (nm.map (·.1)).Nodup && decide (as.map (·.arg)).Nodup && nm.all (fun p => p.2 != .free) && as.all fun a => nm.lookup a.arg == some .local || nm.lookup a.arg == some .cell

theorem zip_rvs {P : Params} {h : Heap} {η : Hp} {pr : Pr} {x : Str} {v : V} : ∀ {ps : List Str} {vs : List V} {xs : List Value}, Rvs P h η pr vs xs → (x, v) ∈ ps.zip vs → ∃ y, (x, y) ∈ ps.zip xs ∧ Rv P h η pr v y
  | [], _, _, _, m => by rw [List.zip_nil_left] at m; cases m
  | p :: ps, [], _, _, m => by rw [List.zip_nil_right] at m; cases m
  | p :: ps, w :: vs, xs, r, m => by
    unfold Rvs at r
    obtain ⟨y, ys, rfl, r, rs⟩ := r
    rw [List.zip_cons_cons] at m
    rcases List.mem_cons.mp m with e | m
    · cases e; exact ⟨y, .head _, r⟩
    · obtain ⟨y', m', r'⟩ := zip_rvs rs m
      exact ⟨y', .tail _ m', r'⟩
theorem rvs_length {P : Params} {h : Heap} {η : Hp} {pr : Pr} : ∀ {vs : List V} {xs : List Value}, Rvs P h η pr vs xs → xs.length = vs.length
  | [], xs, r => by unfold Rvs at r; subst r; rfl
  | v :: vs, xs, r => by unfold Rvs at r; obtain ⟨y, ys, rfl, _, r⟩ := r; simp [rvs_length r]

section
variable {c : Cx} {A : Around} {pr : Pr} {η η' : Hp} {s : Shared} {d : Nat} {hd : Bool} {nm : List (Str × NameKind)} {σ : List (Option V)} {env : Env}
  {Q R : V → Hp → Prop} {B : Bool → Hp → Prop} {X : Addr → Hp → Prop} {v w : V}

theorem isFr_deeper {b : Addr} (h : isFr (A.deeper env) b) : env.frame = some b ∨ isFr A b := by
  obtain ⟨x, m, e⟩ := h
  unfold Around.deeper at m
  dsimp only at m
  cases q : A.frames with
  | none => rw [q] at m; cases m
  | some fr =>
    rw [q] at m
    rcases List.mem_cons.mp m with rfl | m
    · exact .inl e
    · exact .inr ⟨x, by rw [q]; exact m, e⟩

/-- back in the caller -/
theorem Inv.exit {pr₁ pr₂ : Pr} {fr : List Env} (I : Inv c η pr₁ (A.deeper env) s) (hfr : A.frames = some fr) (k : ∀ b, pr₂ b → pr₁ b) (f : ∀ b, isFr A b → pr₂ b) : Inv c η pr₂ A s := by
  obtain ⟨fr', e, ff⟩ := I.frames
  have : fr' = env :: fr := by
    unfold Around.deeper at e; dsimp only at e; rw [hfr] at e; exact (Option.some.inj e).symm
  subst this
  have m : Mono pr₁ η s.heap η pr₂ s.heap := ⟨fun _ _ e _ _ => e, fun _ e => e, fun b _ _ n p => ⟨n, fun q => p (k b q)⟩⟩
  exact ⟨I.stays, fun a o q => (I.hrel a o q).mono m fun _ _ e => e, I.apart, fun a p => I.privs a (k a p), ⟨fr, hfr, ff.2.2⟩, f, I.os, I.gens⟩

theorem Step.exit {h h₁ h' : Heap} {η' : Hp} (st : Step (A.deeper env) (ownOf env) η h₁ η' h') (k : ∀ b o, h.get? b = some o → h₁.get? b = some o) (nf : ∀ b o, h.get? b = some o → ¬ ownOf env b) (hf : env.frame = some env.locals) :
    Step A noOwn η h η' h' := by
  refine ⟨fun b o e n _ => st.upto b o (k b o e) n (nf b o e), fun b o e n _ f => st.same b o (k b o e) n (nf b o e) fun q => ?_, fun b o e => st.there b o (k b o e), st.dom, fun b n e => ?_⟩
  · rcases isFr_deeper q with q | q
    · rw [hf] at q; cases q; exact nf _ o e (.inl rfl)
    · exact f q
  · cases q : h.get? b with
    | none => rfl
    | some o => have := st.new b n e; rw [k b o q] at this; cases this

theorem Ok.deeper (o : Ok (d + 1) hd A) : Ok d hd (A.deeper env) :=
  ⟨by have := o.depth; show A.depth + 1 + d ≤ _; omega, by have := o.units; show A.units + 3 + _ + _ ≤ _; omega, o.handled, o.guards⟩

/-- a call, as the code that runs -/
noncomputable def SCc (c : Cx) (d : Nat) (hd : Bool) (f : Value) (vs : List V) (η : Hp) (Q : V → Hp → Prop) (X : Addr → Hp → Prop) : Prop :=
  ∀ A s pr xs, Ok d hd A → Inv c η pr A s → Rvs c.P s.heap η pr vs xs → codeAny c.M A (.call f ⟨xs, []⟩) (fun r s' => match r with | .ok (.ret v) => Post c A noOwn pr η s.heap Q v s' | .ok _ => False | .error e => Exc c A noOwn pr η s.heap X e s') s
theorem SCc.to {f : Value} {vs : List V} (p : SCc c d hd f vs η Q X) : SC c d hd f vs η Q X := fun A s pr xs o I r => wpAny_call (p A s pr xs o I r)
/-- a def is called -/
theorem SCc.enter {a : Addr} {ob : Obj} {fd : FuncData} {as : List Arg} {body : List Stmt} {vs : List V} (ho : c.base.get? a = some ob) (hdata : ob.data = .func fd) (hcd : c.base.CodeRec fd.code fd.qualname)
    (hp : fd.params = plainArgs as) (hdf : fd.defaults = .none) (hbody : fd.body = .stmts body) (hclo : fd.closure = []) (hg : fd.globals = mainGlobals) (hbu : fd.builtins = builtinsNs)
    (hco : fd.scope.isCoroutine = false) (hgen : fd.scope.isGenerator = false) (hk : fd.scope.kind = .function) (htab : tabOk fd.scope.names as = true) (hl : as.length = vs.length)
    (hi : InitR (as.map (·.arg)) vs fd.scope.names σ) (hb : SS c d hd fd.scope.names σ η body (fun _ η' => Q .none η') Q X) : SCc c (d + 1) hd (.ref a) vs η Q X := by
  intro A s pr xs o I r
  unfold tabOk at htab
  simp only [Bool.and_eq_true, decide_eq_true_eq] at htab
  obtain ⟨⟨⟨hnd, hnp⟩, hnf⟩, hps⟩ := htab
  have hlx : as.length = xs.length := by rw [rvs_length r]; exact hl
  have hbind := bind_pos hp hdf hnp hlx
  obtain ⟨fr, hfr, ff⟩ := I.frames
  have ho' := I.stays _ _ ho
  have kindP : ∀ p ∈ (as.map (·.arg)).zip xs, fd.scope.names.lookup p.1 = some .local ∨ fd.scope.names.lookup p.1 = some .cell := by
    intro p m
    obtain ⟨x, y⟩ := p
    obtain ⟨ar, ma, rfl⟩ := List.mem_map.mp (List.of_mem_zip m).1
    have := List.all_eq_true.mp hps ar ma
    simpa using this
  have keyOf : ∀ x k, fd.scope.names.lookup x = some k → (x, k) ∈ fd.scope.names := fun x k e => mem_of_lookup e
  refine codeAny_call_cells (by have := o.depth; omega) ho' hdata (c.nolimit.keeps I.stays) (hcd.keeps I.stays) hbody hbind hclo
    (fun p m => (kindP p m).imp id fun e => ⟨e, cellsFrom_has _ _ _ (.inl (keyOf _ _ e))⟩) ?_ hco hgen hk
  intro s₁ ic
  generalize henv : callEnvC fd s.heap.objs.size a = env at ic
  have eL : env.locals = s.heap.objs.size := by rw [← henv]; rfl
  have eC : env.cells = cellsFrom (s.heap.objs.size + 1) fd.scope.names [] := by rw [← henv]; rfl
  have eS : env.scope = fd.scope := by rw [← henv]; rfl
  have eF : env.frame = some env.locals := by rw [← henv]; rfl
  have eG : env.globals = mainGlobals := by rw [← henv]; exact hg
  have eB : env.builtins = builtinsNs := by rw [← henv]; exact hbu
  obtain ⟨h₁, tk, es⟩ := ic.toInCall.same
  have keep := ic.toInCall.keep
  have cellAt : ∀ x b, env.cells.lookup x = some b → s.heap.objs.size < b := fun x b e => by
    rw [eC] at e
    rcases cellsFrom_key _ _ _ (mem_of_lookup e) with q | q
    · cases q
    · omega
  have fresh : ∀ b ob, s.heap.get? b = some ob → ¬ ownOf env b := by
    intro b ob e q
    have lt := Heap.lt_size e
    rcases q with q | ⟨x, q⟩
    · rw [q, eL] at lt; exact Nat.lt_irrefl _ lt
    · exact Nat.lt_irrefl _ (Nat.lt_trans lt (cellAt x b q))
  let pr' : Pr := fun b => pr b ∨ ownOf env b
  have prOld : ∀ b ob, s.heap.get? b = some ob → ¬ pr b → ¬ pr' b := fun b ob e n q => q.elim n (fresh b ob e)
  have hmono : Mono pr η s.heap η pr' s₁.heap := ⟨fun b ob e _ _ => keep b ob e, fun _ e => e, fun b ob e n p => ⟨n, prOld b ob e p⟩⟩
  have ηfresh : ∀ b, s.heap.objs.size ≤ b → η b = none := fun b hb => by
    cases q : η b with
    | none => rfl
    | some m =>
      obtain ⟨ob, e, _⟩ := (I.hrel b m q).nofields
      exact (Nat.not_lt.mpr hb (Heap.lt_size e)).elim
  have bfresh : ∀ b, s.heap.objs.size ≤ b → c.base.get? b = none := fun b hb => by
    cases q : c.base.get? b with
    | none => rfl
    | some m => exact (Nat.not_lt.mpr hb (Heap.lt_size (I.stays b m q))).elim
  have ownEx : ∀ b, ownOf env b → (s₁.heap.get? b).isSome = true ∧ η b = none ∧ c.base.get? b = none := by
    intro b q
    rcases q with q | ⟨x, q⟩
    · subst q
      obtain ⟨ob, _, _, e, _⟩ := ic.toInCall.ns
      exact ⟨by rw [e]; rfl, ηfresh _ (by rw [eL]; exact Nat.le_refl _), bfresh _ (by rw [eL]; exact Nat.le_refl _)⟩
    · obtain ⟨ob, e, _⟩ := ic.cell x b q
      have := cellAt x b q
      exact ⟨by rw [e]; rfl, ηfresh _ (by omega), bfresh _ (by omega)⟩
  have I₁ : Inv c η pr' (A.deeper env) s₁ := by
    refine ⟨fun b ob e => keep b ob (I.stays b ob e), fun b m e => (I.hrel b m e).mono hmono fun ob _ q => keep b ob q, I.apart, fun b p => ?_, ⟨env :: fr, by unfold Around.deeper; dsimp only; rw [hfr]; rfl, ?_⟩, fun b f => ?_, ?_, ?_⟩
    · rcases p with p | p
      · obtain ⟨e1, e2, e3⟩ := I.privs b p
        obtain ⟨ob, e⟩ := Option.isSome_iff_exists.mp e1
        exact ⟨by rw [keep b ob e]; rfl, e2, e3⟩
      · exact ownEx b p
    · refine ⟨(by rw [eS, hk]; intro q; cases q), ?_, ff.of_keeps fun b ob q _ => ⟨ob, keep b ob q, rfl⟩⟩
      obtain ⟨ob, ens, ep, e, hdd, _⟩ := ic.toInCall.ns
      exact ⟨env.locals, ob, eF, (ownEx _ (.inl rfl)).2.2, e, fun ws q => by rw [hdd] at q; cases q⟩
    · rcases isFr_deeper f with f | f
      · rw [eF] at f; cases f; exact .inr (.inl rfl)
      · exact .inl (I.frs b f)
    · rw [es]; exact I.os
    · rw [es]; exact I.gens
  have F₁ : FrameR c s₁.heap η pr' fd.scope.names env σ := by
    refine ⟨by rw [eS]; exact hk, by rw [eS], hnd, eG, eB, ⟨_, ic.toInCall.ns⟩, .inr (.inl rfl), fun x b e => ⟨.inr (.inr ⟨x, e⟩), _, ic.cell x b e⟩,
      fun x y b e1 e2 => name_of_addr ic.apart (mem_of_lookup e1) (mem_of_lookup e2), fun x k m q => ?_, fun x k v at' => ?_⟩
    · rcases q with rfl | rfl
      · rw [eC]; exact cellsFrom_has _ _ _ (.inl m)
      · have := List.all_eq_true.mp hnf _ m; simp at this
    · have m := hi.at at'
      obtain ⟨y, my, ry⟩ := zip_rvs r m
      refine ⟨y, ?_, Rv.mono hmono v ry⟩
      have nk : (((as.map (·.arg)).zip xs).map (·.1)).Nodup := by
        rw [List.map_fst_zip (by simp [hlx])]; exact hnp
      have hkd : env.kindOf x = some k := by unfold Env.kindOf; rw [eS]; exact lookup_of_mem hnd (mem_fst at')
      have hk2 : fd.scope.names.lookup x = some k := lookup_of_mem hnd (mem_fst at')
      rcases kindP (x, y) my with q | q <;> rw [hk2] at q <;> cases q
      · exact ⟨_, ic.toInCall.ns, bindL_of hkd _ _ nk my⟩
      · obtain ⟨b, e⟩ := Option.isSome_iff_exists.mp (cellsFrom_has fd.scope.names (s.heap.objs.size + 1) [] (.inl (mem_fst at')))
        rw [← eC] at e
        have := ic.cell x b e
        rw [bindC_of hkd _ _ nk my] at this
        exact ⟨b, e, this⟩
  have hdeep : (A.deeper env).frames = some (env :: fr) := by unfold Around.deeper; dsimp only; rw [hfr]; rfl
  refine wpAny_mono (hb (A.deeper env) env s₁ pr' fr o.deeper I₁ F₁ hdeep eF) (fun f s' p => ?_) fun e s' p => ?_
  · have fin : ∀ r', Post c (A.deeper env) (ownOf env) pr' η s₁.heap Q r' s' → Post c A noOwn pr η s.heap Q r' s' := by
      intro r' ⟨v, η', q, I', rv, st⟩
      refine ⟨v, η', q, I'.exit hfr (fun b p => .inl p) I.frs, Rv.mono ⟨fun _ _ e _ _ => e, fun _ e => e, fun b _ _ n p => ⟨n, fun q => p (.inl q)⟩⟩ v rv, st.exit keep fresh eF⟩
    cases f with
    | next => obtain ⟨σ', η', q, I', _, st⟩ := p; exact fin .none ⟨.none, η', q, I', rfl, st⟩
    | ret r' => exact fin r' p
    | brk => exact p.elim
    | cont => exact p.elim
  · obtain ⟨ea, C, η', rfl, x, I', st, hn, t⟩ := p
    refine leave_thr I' hdeep eF t hn (fun b p => (I₁.privs b p).1) (fun b ob e => I₁.stays b ob e) st.there fun h' a0 tr I'' kp => ?_
    have st' : Step (A.deeper env) (ownOf env) η s₁.heap η' h' := by
      refine ⟨fun b ob e n w => ?_, fun b ob e n w f => ?_, fun b ob e => ?_, st.dom, st.new⟩
      · obtain ⟨sl, e'⟩ := st.upto b ob e n w
        obtain ⟨⟨sl', e''⟩, _⟩ := kp b _ e' (.inl (by rw [e]; rfl))
        exact ⟨sl', e''⟩
      · exact (kp b _ (st.same b ob e n w f) (.inl (by rw [e]; rfl))).2 f
      · obtain ⟨ob', e'⟩ := Option.isSome_iff_exists.mp (st.there b ob e)
        obtain ⟨⟨sl', e''⟩, _⟩ := kp b _ e' (.inl (by rw [e]; rfl))
        rw [e'']; rfl
    have older : ∀ b ob, s.heap.get? b = some ob → (s₁.heap.get? b).isSome = true := fun b ob e => by rw [keep b ob e]; rfl
    refine ⟨ea, C, η', rfl, x, I''.exit hfr (fun b p => p.imp .inl id) (fun b f => .inl (I.frs b f)), st'.exit keep fresh eF, ?_, Thr.older older (.inr ⟨a0, .none, tr, .inl rfl⟩)⟩
    cases q : s.heap.get? ea with
    | none => rfl
    | some ob => have := keep ea ob q; rw [hn] at this; cases this
end
end Mine

namespace Mine
open PySem PyProof.Rows

/-- a variable is set -/
inductive Put : List (Str × NameKind) → List (Option V) → Str → V → List (Option V) → Prop
  | loc {x nm o σ v} : Put ((x, .local) :: nm) (o :: σ) x v (some v :: σ)
  | cell {x nm o σ v} : Put ((x, .cell) :: nm) (o :: σ) x v (some v :: σ)
  | tail {p nm o σ x v σ'} : Put nm σ x v σ' → Put (p :: nm) (o :: σ) x v (o :: σ')
theorem Put.mem {nm : List (Str × NameKind)} {σ σ' : List (Option V)} {x : Str} {v : V} (p : Put nm σ x v σ') : (x, NameKind.local) ∈ nm ∨ (x, NameKind.cell) ∈ nm := by
  induction p with
  | loc => exact .inl (.head _)
  | cell => exact .inr (.head _)
  | tail _ ih => exact ih.imp (.tail _) (.tail _)
theorem Put.at {nm : List (Str × NameKind)} {σ σ' : List (Option V)} {x y : Str} {v w : V} {k : NameKind} (nd : (nm.map (·.1)).Nodup) (p : Put nm σ x v σ') (a : At nm σ' y k w) : (y = x ∧ w = v) ∨ (y ≠ x ∧ At nm σ y k w) := by
  induction p with
  | loc =>
    cases a with
    | head => exact .inl ⟨rfl, rfl⟩
    | tail a => rw [List.map_cons, List.nodup_cons] at nd; exact .inr ⟨fun e => nd.1 (List.mem_map.mpr ⟨_, mem_fst a, e⟩), .tail a⟩
  | cell =>
    cases a with
    | head => exact .inl ⟨rfl, rfl⟩
    | tail a => rw [List.map_cons, List.nodup_cons] at nd; exact .inr ⟨fun e => nd.1 (List.mem_map.mpr ⟨_, mem_fst a, e⟩), .tail a⟩
  | tail p ih =>
    rw [List.map_cons, List.nodup_cons] at nd
    cases a with
    | head => exact .inr ⟨fun e => by rcases p.mem with m | m <;> exact nd.1 (List.mem_map.mpr ⟨_, m, e.symm⟩), .head⟩
    | tail a => exact (ih nd.2 a).imp id fun ⟨n, a⟩ => ⟨n, .tail a⟩

theorem funFrames_but {h h' base : Heap} {a : Addr} {fr : List Env} (f : h.FunFrames base fr) (k : Heap.SameBut a h h') (ha : ∀ o, h.get? a = some o → ∃ o', h'.get? a = some o' ∧ ∀ vs, o'.data ≠ .fields vs) : h'.FunFrames base fr := by
  induction fr with
  | nil => trivial
  | cons x r ih =>
    obtain ⟨q, ⟨L, o, q1, q2, q3, q4⟩, r'⟩ := f
    refine ⟨q, ?_, ih r'⟩
    by_cases e : L = a
    · subst e
      obtain ⟨o', w1, w2⟩ := ha o q3
      exact ⟨_, o', q1, q2, w1, w2⟩
    · exact ⟨L, o, q1, q2, (k.2 L e).trans q3, q4⟩

noncomputable def ownX (env : Env) (xs : List Str) : Pr := fun b => b = env.locals ∨ ∃ x ∈ xs, env.cells.lookup x = some b

section
variable {c : Cx} {A : Around} {pr : Pr} {η η' : Hp} {s : Shared} {d : Nat} {hd : Bool} {nm : List (Str × NameKind)} {σ σ' : List (Option V)} {env : Env}
  {Q R : V → Hp → Prop} {B : Bool → Hp → Prop} {X : Addr → Hp → Prop} {N : List (Option V) → Hp → Prop} {v w : V} {x : Str} {pos : Pos} {h' : Heap}

theorem Mono.of_but {a : Addr} (k : Heap.SameBut a s.heap h') (ha : pr a) : Mono pr η s.heap η pr h' :=
  ⟨fun b o e _ p => (k.2 b fun q => p (q ▸ ha)).trans e, fun _ e => e, fun _ _ _ n p => ⟨n, p⟩⟩

theorem Inv.but {a : Addr} {t : Nat} (I : Inv c η pr A s) (k : Heap.SameBut a s.heap h') (ha : pr a) (hx : ∃ o', h'.get? a = some o' ∧ ∀ vs, o'.data ≠ .fields vs) : Inv c η pr A { s with heap := h', toks := t } := by
  obtain ⟨fr, e, ff⟩ := I.frames
  obtain ⟨p1, p2, p3⟩ := I.privs a ha
  have ne : ∀ b, η b ≠ none ∨ (c.base.get? b).isSome = true → b ≠ a := fun b q e => by
    subst e; rcases q with q | q
    · exact q p2
    · rw [p3] at q; cases q
  refine ⟨fun b o q => (k.2 b (ne b (.inr (by rw [q]; rfl)))).trans (I.stays b o q), fun b o q => (I.hrel b o q).mono (Mono.of_but k ha) fun o' _ e => (k.2 b (ne b (.inl (by rw [q]; intro x; cases x)))).trans e, I.apart, fun b p => ?_,
    ⟨fr, e, funFrames_but ff k fun _ _ => hx⟩, I.frs, I.os, I.gens⟩
  obtain ⟨q1, q2, q3⟩ := I.privs b p
  refine ⟨?_, q2, q3⟩
  show (h'.get? b).isSome = true
  by_cases e : b = a
  · subst e; obtain ⟨o', w, _⟩ := hx; rw [w]; rfl
  · rw [k.2 b e]; exact q1

/-- a variable is stored -/
theorem store_var {val : Value} {QQ : Unit → Shared → Prop} {E : Value → Shared → Prop} (I : Inv c η pr A s) (F : FrameR c s.heap η pr nm env σ) (p : Put nm σ x v σ') (r : Rv c.P s.heap η pr v val)
    (h : ∀ s', Inv c η pr A s' → FrameR c s'.heap η pr nm env σ' → Step A (ownX env [x]) η s.heap η s'.heap → (∀ u y, Rv c.P s.heap η pr u y → Rv c.P s'.heap η pr u y) → QQ () s') :
    wpAny c.M A (storeName env x val) QQ E s := by
  obtain ⟨m, ns⟩ := F.ns
  have ns' := ns
  obtain ⟨oL, es, ep, eL, dL, _⟩ := ns'
  -- a cell is no namespace
  have cellNe : ∀ y a, env.cells.lookup y = some a → a ≠ env.locals := fun y a e q => by
    subst q
    obtain ⟨_, v, o, w1, w2⟩ := F.cells y _ e
    rw [eL] at w1; cases w1; rw [dL] at w2; cases w2
  rcases p.mem with mx | mx
  · -- a local
    have hk := F.kindOf mx
    refine wpAny_storeName_local hk ns (fun h' hn hs => ?_) (by rw [F.kind]; rfl)
    obtain ⟨oL', es', ep', eL', dL', _⟩ := id hn
    have mo : Mono pr η s.heap η pr h' := Mono.of_but hs F.nsp
    refine h _ (I.but hs F.nsp ⟨oL', eL', fun vs q => by rw [dL'] at q; cases q⟩) ?_ (Step.of_but hs (.inl rfl) fun _ => by rw [eL']; rfl) fun u y r => Rv.mono mo u r
    have cellKeep : ∀ y a v, env.cells.lookup y = some a → s.heap.IsCell a v → h'.IsCell a v := fun y a v e q => q.sameBut hs (cellNe y a e)
    refine ⟨F.kind, F.names, F.nodup, F.globals, F.builtins, ⟨_, hn⟩, F.nsp, fun y a e => ?_, F.inj, F.has, fun y k u at' => ?_⟩
    · obtain ⟨q, v, w⟩ := F.cells y a e
      exact ⟨q, v, cellKeep y a v e w⟩
    · have ky := F.kindOf (mem_fst at')
      rcases p.at F.nodup at' with ⟨rfl, rfl⟩ | ⟨ne, at''⟩
      · rw [hk] at ky; cases ky
        exact ⟨val, ⟨_, hn, if_pos rfl⟩, Rv.mono mo _ r⟩
      · obtain ⟨vy, q, ry⟩ := F.vars y k u at''
        refine ⟨vy, ?_, Rv.mono mo _ ry⟩
        cases k with
        | «local» =>
          obtain ⟨m2, q1, q2⟩ := q
          refine ⟨_, hn, ?_⟩
          show (if y = x then _ else m y) = _
          rw [if_neg ne]
          obtain ⟨o1, es1, ep1, g1, g2, g3, g4⟩ := q1
          obtain ⟨o2, es2, ep2, f1, f2, f3, f4⟩ := ns
          rw [g1] at f1; cases f1; rw [g2] at f2; cases f2
          rw [← f4, g4]; exact q2
        | cell => obtain ⟨a, q1, q2⟩ := q; exact ⟨a, q1, cellKeep y a _ q1 q2⟩
        | free => obtain ⟨a, q1, q2⟩ := q; exact ⟨a, q1, cellKeep y a _ q1 q2⟩
        | globalImplicit => exact q
        | globalExplicit => exact q
  · -- a cell
    have hk := F.kindOf mx
    obtain ⟨a, ea⟩ := Option.isSome_iff_exists.mp (F.has x .cell mx (.inl rfl))
    obtain ⟨pa, v₀, ca⟩ := F.cells x a ea
    refine wpAny_storeName_cell F.kind hk ea ca fun h' hc hs => ?_
    obtain ⟨o', e', d'⟩ := id hc
    have mo : Mono pr η s.heap η pr h' := Mono.of_but hs pa
    refine h _ (I.but (t := s.toks) hs pa ⟨o', e', fun vs q => by rw [d'] at q; cases q⟩) ?_ (Step.of_but hs (.inr ⟨x, .head _, ea⟩) fun _ => by rw [e']; rfl) fun u y r => Rv.mono mo u r
    have nsKeep : ∀ m, s.heap.Ns env.locals m → h'.Ns env.locals m := fun m q => q.sameBut hs (fun q => cellNe x a ea q.symm)
    refine ⟨F.kind, F.names, F.nodup, F.globals, F.builtins, ⟨_, nsKeep _ ns⟩, F.nsp, fun y b e => ?_, F.inj, F.has, fun y k u at' => ?_⟩
    · obtain ⟨q, v, w⟩ := F.cells y b e
      by_cases eq : b = a
      · subst eq; exact ⟨q, _, hc⟩
      · exact ⟨q, v, w.sameBut hs eq⟩
    · have ky := F.kindOf (mem_fst at')
      rcases p.at F.nodup at' with ⟨rfl, rfl⟩ | ⟨ne, at''⟩
      · rw [hk] at ky; cases ky
        exact ⟨val, ⟨a, ea, hc⟩, Rv.mono mo _ r⟩
      · obtain ⟨vy, q, ry⟩ := F.vars y k u at''
        refine ⟨vy, ?_, Rv.mono mo _ ry⟩
        have other : ∀ b v, env.cells.lookup y = some b → s.heap.IsCell b v → h'.IsCell b v := fun b v e w => w.sameBut hs fun q => ne (F.inj y x a (q ▸ e) ea)
        cases k with
        | «local» => obtain ⟨m2, q1, q2⟩ := q; exact ⟨m2, nsKeep _ q1, q2⟩
        | cell => obtain ⟨b, q1, q2⟩ := q; exact ⟨b, q1, other b _ q1 q2⟩
        | free => obtain ⟨b, q1, q2⟩ := q; exact ⟨b, q1, other b _ q1 q2⟩
        | globalImplicit => exact q
        | globalExplicit => exact q
end
end Mine

namespace Mine
open PySem PyProof.Rows

/-- one statement -/
noncomputable def SX (c : Cx) (d : Nat) (hd : Bool) (nm : List (Str × NameKind)) (σ : List (Option V)) (η : Hp) (st : Stmt) (N : List (Option V) → Hp → Prop) (R : V → Hp → Prop) (X : Addr → Hp → Prop) : Prop :=
  ∀ A env s pr outer, Ok d hd A → Inv c η pr A s → FrameR c s.heap η pr nm env σ → A.frames = some (env :: outer) → env.frame = some env.locals →
    wpAny c.M A (exec st env) (FPost c A pr nm env η s.heap N R) (Exc c A (ownOf env) pr η s.heap X) s

noncomputable abbrev noX : Addr → Hp → Prop := fun _ _ => False

section
variable {c : Cx} {A : Around} {ow pr : Pr} {η η' η₁ : Hp} {s s' : Shared} {d : Nat} {hd : Bool} {nm : List (Str × NameKind)} {σ σ' : List (Option V)} {env : Env} {outer : List Env}
  {Q R R' : V → Hp → Prop} {B : Bool → Hp → Prop} {X X' : Addr → Hp → Prop} {N N' : List (Option V) → Hp → Prop} {v w : V} {x : Str} {pos : Pos} {h₀ h₁ h' : Heap} {rest : List Stmt}

theorem ownX_of {xs : List Str} : ∀ b, ownX env xs b → ownOf env b := fun b q => q.imp id fun ⟨x, _, e⟩ => ⟨x, e⟩
theorem FPost.older {f : Flow} (st : Step A (ownOf env) η h₀ η₁ h₁) (p : FPost c A pr nm env η₁ h₁ N R f s') : FPost c A pr nm env η h₀ N R f s' := by
  cases f with
  | next => obtain ⟨σ', η', q, I, F, st'⟩ := p; exact ⟨σ', η', q, I, F, st.trans st'⟩
  | ret r => exact Post.older st p
  | brk => exact p
  | cont => exact p
theorem FPost.mono {f : Flow} (p : FPost c A pr nm env η h₀ N R f s') (kn : ∀ σ' η', N σ' η' → N' σ' η') (kr : ∀ v η', R v η' → R' v η') : FPost c A pr nm env η h₀ N' R' f s' := by
  cases f with
  | next => obtain ⟨σ', η', q, r⟩ := p; exact ⟨σ', η', kn _ _ q, r⟩
  | ret r => exact Post.mono p kr
  | brk => exact p
  | cont => exact p
theorem SS.mono {b : List Stmt} (p : SS c d hd nm σ η b N R X) (kn : ∀ σ' η', N σ' η' → N' σ' η') (kr : ∀ v η', R v η' → R' v η') (kx : ∀ C η', X C η' → X' C η') : SS c d hd nm σ η b N' R' X' :=
  fun A env s pr outer o I F h1 h2 => wpAny_mono (p A env s pr outer o I F h1 h2) (fun _ _ q => q.mono kn kr) fun _ _ q => q.mono kx

theorem Step.own {η' : Hp} (st : Step A noOwn η h₀ η' h') : Step A ow η h₀ η' h' := st.weak fun _ q => q.elim
theorem SS.nil (q : N σ η) : SS c d hd nm σ η [] N R X := fun A env s pr outer o I F h1 h2 => wpAny_execs_nil ⟨σ, η, q, I, F, Step.refl ..⟩
theorem SS.cons {st : Stmt} (p : SX c d hd nm σ η st (fun σ' η' => SS c d hd nm σ' η' rest N R X) R X) : SS c d hd nm σ η (st :: rest) N R X :=
  fun A env s pr outer o I F h1 h2 => wpAny_execs_cons (wpAny_mono (p A env s pr outer o I F h1 h2) (fun f s₁ q => by
    cases f with
    | next =>
      obtain ⟨σ', η', q, I', F', st⟩ := q
      exact wpAny_mono (q A env s₁ pr outer o I' F' h1 h2) (fun _ _ e => e.older st) fun _ _ e => e.older st
    | ret r => exact q
    | brk => exact q
    | cont => exact q) fun _ _ e => e)

theorem SX.ret {e : Expr} (p : SE c d hd nm σ η e R X) : SX c d hd nm σ η (.Return (some e) pos) N R X :=
  fun A env s pr outer o I F h1 h2 => wpAny_Return_some (wpAny_mono (p A env s pr o I F) (fun _ _ e => e.weak fun _ q => q.elim) fun _ _ e => e.weak fun _ q => q.elim)
theorem SS.ret {e : Expr} (p : SE c d hd nm σ η e R X) : SS c d hd nm σ η (.Return (some e) pos :: rest) N R X := SS.cons (SX.ret p)
theorem SX.if {t : Expr} {a b : List Stmt} (p : ST c d hd nm σ η t (fun u η₁ => if u then SS c d hd nm σ η₁ a N R X else SS c d hd nm σ η₁ b N R X) X) : SX c d hd nm σ η (.If t a b pos) N R X :=
  fun A env s pr outer o I F h1 h2 => wpAny_If (wpAny_mono (p A env s pr o I F) (fun u s₁ ⟨η₁, q, I₁, st⟩ => by
    cases u <;> exact wpAny_mono (q A env s₁ pr outer o I₁ (F.step I st) h1 h2) (fun _ _ e => e.older st.own) fun _ _ e => e.older st.own) fun _ _ e => e.weak fun _ q => q.elim)
theorem SS.if {t : Expr} {a b : List Stmt} (p : ST c d hd nm σ η t (fun u η₁ => if u then SS c d hd nm σ η₁ a (fun σ' η' => SS c d hd nm σ' η' rest N R X) R X else SS c d hd nm σ η₁ b (fun σ' η' => SS c d hd nm σ' η' rest N R X) R X) X) :
    SS c d hd nm σ η (.If t a b pos :: rest) N R X := SS.cons (SX.if p)

theorem noInter (F : FrameR c h₀ η pr nm env σ) : interactive env = false := by unfold interactive; rw [F.kind]; rfl

theorem SX.expr {e : Expr} (p : SE c d hd nm σ η e (fun _ η' => N σ η') X) (hs : ∀ env, swapsWith e none pos.line env = pure false := by intro _; with_unfolding_all rfl) : SX c d hd nm σ η (.Expr e pos) N R X :=
  fun A env s pr outer o I F h1 h2 => wpAny_Expr_any (wpAny_mono (p A env s pr o I F) (fun _ s₁ ⟨v, η₁, q, I₁, _, st⟩ => ⟨σ, η₁, q, I₁, F.step I st, st.own⟩) fun _ _ e => e.weak fun _ q => q.elim) (noInter F) (hs env)
theorem SS.expr {e : Expr} (p : SE c d hd nm σ η e (fun _ η' => SS c d hd nm σ η' rest N R X) X) (hs : ∀ env, swapsWith e none pos.line env = pure false := by intro _; with_unfolding_all rfl) : SS c d hd nm σ η (.Expr e pos :: rest) N R X := SS.cons (SX.expr p hs)

theorem SX.assign {e : Expr} {px : Pos} (p : SE c d hd nm σ η e (fun v η₁ => ∃ σ', Put nm σ x v σ' ∧ N σ' η₁) X) (hs : ∀ env, swapsWith e (some (.Name x px)) pos.line env = pure false := by intro _; with_unfolding_all rfl) :
    SX c d hd nm σ η (.Assign [.Name x px] e pos) N R X :=
  fun A env s pr outer o I F h1 h2 => wpAny_Assign_Name (wpAny_mono (p A env s pr o I F) (fun y s₁ ⟨v, η₁, ⟨σ', pt, q⟩, I₁, rv, st⟩ =>
    store_var I₁ (F.step I st) pt rv fun s₂ I₂ F₂ st₂ _ => ⟨σ', η₁, q, I₂, F₂, st.own.trans (st₂.weak ownX_of)⟩) fun _ _ e => e.weak fun _ q => q.elim) (hs env)
theorem SS.assign {e : Expr} {px : Pos} (p : SE c d hd nm σ η e (fun v η₁ => ∃ σ', Put nm σ x v σ' ∧ SS c d hd nm σ' η₁ rest N R X) X) (hs : ∀ env, swapsWith e (some (.Name x px)) pos.line env = pure false := by intro _; with_unfolding_all rfl) :
    SS c d hd nm σ η (.Assign [.Name x px] e pos :: rest) N R X := SS.cons (SX.assign p hs)

noncomputable def star? : Expr → Bool
  | .Starred .. => true
  | _ => false
theorem starEach_cons {e : Expr} {es : List Expr} (h : star? e = false) : starEach (e :: es) env = (false, eval e env) :: starEach es env := by
  cases e <;> first | rfl | cases h

theorem SL.nil {Q : List V → Hp → Prop} (q : Q [] η) : SL c d hd nm σ η [] Q X := fun A env s pr pos o I F => wpAny_items_nil ⟨[], η, q, I, rfl, Step.refl ..⟩
theorem SL.cons {e : Expr} {es : List Expr} {Q : List V → Hp → Prop} (p : SE c d hd nm σ η e (fun v η₁ => SL c d hd nm σ η₁ es (fun vs η₂ => Q (v :: vs) η₂) X) X) (hs : star? e = false := by with_unfolding_all rfl) : SL c d hd nm σ η (e :: es) Q X :=
  fun A env s pr pos o I F => wpAny_items_cons (wpAny_mono (p A env s pr o I F) (fun y s₁ ⟨v, η₁, q, I₁, rv, st⟩ => wpAny_mono (q A env s₁ pr pos o I₁ (F.step I st)) (fun ys s₂ ⟨vs, η₂, q₂, I₂, rvs, st₂⟩ =>
    ⟨v :: vs, η₂, q₂, I₂, ⟨y, ys, rfl, rv.step I₁ st₂, rvs⟩, st.trans st₂⟩) fun _ _ e => e.older st) fun _ _ e => e) (starEach_cons hs)

/-- a new frozen object -/
theorem Rvs.fresh {vs : List V} {xs : List Value} (I : Inv c η pr A s) : η s.heap.objs.size = none ∧ ¬ pr s.heap.objs.size := by
  refine ⟨?_, fun p => ?_⟩
  · cases q : η s.heap.objs.size with
    | none => rfl
    | some m => obtain ⟨ob, e, _⟩ := (I.hrel _ m q).nofields; exact absurd (Heap.lt_size e) (Nat.lt_irrefl _)
  · obtain ⟨ob, e⟩ := Option.isSome_iff_exists.mp (I.privs _ p).1
    exact absurd (Heap.lt_size e) (Nat.lt_irrefl _)
theorem new_tup {vs : List V} {xs : List Value} {t : Nat} {own : Pr} (I : Inv c η pr A s) (z : vs.length ≤ sizeLine) (r : Rvs c.P s.heap η pr vs xs) (q : Q (.tup vs) η) :
    Post c A own pr η s.heap Q (.ref s.heap.objs.size) { s with heap := s.heap.push { cls := .type "tuple", data := .seq xs.toArray }, toks := t } :=
  Post.pure (v := .tup vs) I (fun _ _ e => Heap.get?_push_of_some _ e) ⟨_, xs, _, rfl, Heap.get?_push_size _ rfl, Rvs.fresh (vs := vs) (xs := xs) I, z, r.keeps fun _ _ e => Heap.get?_push_of_some _ e⟩ q
theorem new_lst {vs : List V} {xs : List Value} {t : Nat} {own : Pr} (I : Inv c η pr A s) (z : vs.length ≤ sizeLine) (r : Rvs c.P s.heap η pr vs xs) (q : Q (.lst vs) η) :
    Post c A own pr η s.heap Q (.ref s.heap.objs.size) { s with heap := s.heap.push { cls := .type "list", data := .seq xs.toArray }, toks := t } :=
  Post.pure (v := .lst vs) I (fun _ _ e => Heap.get?_push_of_some _ e) ⟨_, xs, _, rfl, Heap.get?_push_size _ rfl, Rvs.fresh (vs := vs) (xs := xs) I, z, r.keeps fun _ _ e => Heap.get?_push_of_some _ e⟩ q

theorem SE.tup {es : List Expr} {k : Nat} (p : SL c d hd nm σ η es (fun vs η₁ => vs.length ≤ sizeLine ∧ Q (.tup vs) η₁) X) : SE c d hd nm σ η (.Tuple es k pos) Q X :=
  fun A env s pr o I F => wpAny_Tuple (wpAny_mono (p A env s pr pos o I F) (fun xs s₁ ⟨vs, η₁, ⟨hl, q⟩, I₁, r, st⟩ => ⟨by rw [rvs_length r]; exact hl, (new_tup I₁ hl r q).older st⟩) fun _ _ e => e)
theorem SE.lst {es : List Expr} (p : SL c d hd nm σ η es (fun vs η₁ => vs.length ≤ sizeLine ∧ Q (.lst vs) η₁) X) : SE c d hd nm σ η (.List es pos) Q X :=
  fun A env s pr o I F => wpAny_List (wpAny_mono (p A env s pr pos o I F) (fun xs s₁ ⟨vs, η₁, ⟨hl, q⟩, I₁, r, st⟩ => ⟨by rw [rvs_length r]; exact hl, (new_lst I₁ hl r q).older st⟩) fun _ _ e => e)

/-- a tuple's items are handed out -/
theorem unpack_tup {vs : List V} {y : Value} {QQ : List Value → Shared → Prop} {E : Value → Shared → Prop} {n : Nat} (o : Ok d true A) (I : Inv c η pr A s) (r : Rv c.P s.heap η pr (.tup vs) y) (hn : vs.length = n)
    (h : ∀ s' xs, Inv c η pr A s' → Rvs c.P s'.heap η pr vs xs → Step A noOwn η s.heap η s'.heap → (∀ u y, Rv c.P s.heap η pr u y → Rv c.P s'.heap η pr u y) → (∀ nm env σ, FrameR c s.heap η pr nm env σ → FrameR c s'.heap η pr nm env σ) → QQ xs s') :
    wpAny c.M A (unpackItems y n none) QQ E s := by
  unfold Rv at r
  obtain ⟨a, xs, nn, rfl, ht, ⟨ha, hpa⟩, z, rs⟩ := r
  have hl := rvs_length rs
  have : n = xs.toArray.size := by simp [hl, hn]
  subst this
  refine PyProof.Rows.unpackItems_tuple (o.handled rfl) ⟨_, ht, rfl, _, rfl⟩ fun h' ex => ?_
  have k : ∀ b ob, s.heap.get? b = some ob → h'.get? b = some ob := fun b ob e => ex b ob (Nat.ne_of_lt (Heap.lt_size e)) e
  exact h _ _ (I.grow k s.toks) (rs.keeps k) (Step.of_keeps k) (fun u y r => r.keeps k) fun nm env σ F => F.keeps k

/-- the exchange of two names -/
theorem SX.swap {x y : Str} {px py tp vp : Pos} {e₁ e₂ : Expr} {k kv : Nat} (m1 : (x, NameKind.local) ∈ nm) (m2 : (y, NameKind.local) ∈ nm) (hne : (x == y) = false)
    (p : SE c d true nm σ η e₁ (fun v η₁ => SE c d true nm σ η₁ e₂ (fun w η₂ => ∃ σ₁ σ₂, Put nm σ y w σ₁ ∧ Put nm σ₁ x v σ₂ ∧ N σ₂ η₂) X) X)
    (hl : (py.line == px.line) = true := by with_unfolding_all rfl) (hs1 : star? e₁ = false := by with_unfolding_all rfl) (hs2 : star? e₂ = false := by with_unfolding_all rfl) (hf : (foldedForSure 8 e₁ && foldedForSure 8 e₂) = false := by with_unfolding_all rfl) (hc : (constantsAlone 8 e₁ && constantsAlone 8 e₂) = false := by with_unfolding_all rfl) :
    SX c d true nm σ η (.Assign [.Tuple [.Name x px, .Name y py] k tp] (.Tuple [e₁, e₂] kv vp) pos) N R X := by
  intro A env s pr outer o I F h1 h2
  have hw : swappedStores [.Tuple [.Name x px, .Name y py] k tp] (.Tuple [e₁, e₂] kv vp) env = pure (some [x, y]) := by
    have k1 := F.kindOf m1
    have k2 := F.kindOf m2
    have kb : env.blockKind = .function := by unfold Env.blockKind; rw [F.kind]; rfl
    unfold swappedStores
    have l1 : (px.line == px.line) = true := by simp
    have l2 : ((Expr.Name x px).pos.line) = px.line := rfl
    have hne' : (y == x) = false := by rw [beq_eq_false_iff_ne] at hne ⊢; exact fun q => hne q.symm
    simp only [List.any_cons, List.any_nil, Bool.or_false, k1, k2, kb, List.length_cons, List.length_nil, List.head?_cons, Option.map_some, Option.getD_some, l2, List.filterMap_cons, List.filterMap_nil, hl, l1, beq_self_eq_true, Bool.and_true,
      if_true, List.all_cons, List.all_nil, hf, hc, Bool.false_eq_true, if_false, List.eraseDups_cons, List.filter_cons, List.filter_nil, hne', Bool.not_false, List.eraseDups_nil, bne_self_eq_false, Bool.true_or, Bool.not_true]
    refine if_neg fun q => ?_
    rcases Bool.or_eq_true_iff.mp q with q | q
    · cases e₁ <;> first | (cases q; done) | (cases hs1; done)
    · cases e₂ <;> first | (cases q; done) | (cases hs2; done)
  refine PyProof.Rows.Assign_Tuple_swapped (names := [x, y]) ?_ rfl hw
  refine wpAny_Tuple (wpAny_items_cons (wpAny_mono (p A env s pr o I F) (fun a s₁ ⟨v, η₁, q, I₁, rv, st⟩ => wpAny_items_cons (wpAny_mono (q A env s₁ pr o I₁ (F.step I st)) (fun b s₂ ⟨w, η₂, q₂, I₂, rw', st₂⟩ => wpAny_items_nil ?_)
    (fun _ _ e => (e.older st).weak fun _ q => q.elim)) (starEach_cons hs2)) fun _ _ e => e.weak fun _ q => q.elim) (starEach_cons hs1))
  refine ⟨(by show 2 ≤ sizeLine; decide), ?_⟩
  have rvs : Rvs c.P s₂.heap η₂ pr [v, w] [a, b] := ⟨a, [b], rfl, rv.step I₁ st₂, b, [], rfl, rw', rfl⟩
  obtain ⟨tv, ηt, ⟨rfl, rfl⟩, I₃, r₃, st₃⟩ := new_tup (t := s₂.toks) (own := noOwn) (Q := fun u η' => u = .tup [v, w] ∧ η' = η₂) I₂ (by show 2 ≤ sizeLine; decide) rvs ⟨rfl, rfl⟩
  refine unpack_tup o I₃ r₃ rfl fun s₄ xs I₄ rs₄ st₄ _ fr => ?_
  obtain ⟨a', xs', rfl, ra, b', _, rfl, rb, rfl⟩ := rs₄
  obtain ⟨σ₁, σ₂, p1, p2, q₃⟩ := q₂
  have F₄ := fr nm env σ (((F.step I st).step I₁ st₂).step I₂ st₃)
  show wpAny c.M A (assignInOrder [bindName env y, bindName env x] [b', a']) _ _ s₄
  refine wpAny_assignInOrder_more (wpAny_bindName (store_var I₄ F₄ p1 rb fun s₅ I₅ F₅ st₅ mv => ?_))
  refine wpAny_assignInOrder_more (wpAny_bindName (store_var I₅ F₅ p2 (mv _ _ ra) fun s₆ I₆ F₆ st₆ _ => wpAny_assignInOrder_none ?_))
  exact ⟨σ₂, _, q₃, I₆, F₆, ((((st.trans st₂).trans st₃).trans st₄).own.trans (st₅.weak ownX_of)).trans (st₆.weak ownX_of)⟩
theorem SS.swap {x y : Str} {px py tp vp : Pos} {e₁ e₂ : Expr} {k kv : Nat} (m1 : (x, NameKind.local) ∈ nm) (m2 : (y, NameKind.local) ∈ nm) (hne : (x == y) = false)
    (p : SE c d true nm σ η e₁ (fun v η₁ => SE c d true nm σ η₁ e₂ (fun w η₂ => ∃ σ₁ σ₂, Put nm σ y w σ₁ ∧ Put nm σ₁ x v σ₂ ∧ SS c d true nm σ₂ η₂ rest N R X) X) X)
    (hl : (py.line == px.line) = true := by with_unfolding_all rfl) (hs1 : star? e₁ = false := by with_unfolding_all rfl) (hs2 : star? e₂ = false := by with_unfolding_all rfl) (hf : (foldedForSure 8 e₁ && foldedForSure 8 e₂) = false := by with_unfolding_all rfl) (hc : (constantsAlone 8 e₁ && constantsAlone 8 e₂) = false := by with_unfolding_all rfl) :
    SS c d true nm σ η (.Assign [.Tuple [.Name x px, .Name y py] k tp] (.Tuple [e₁, e₂] kv vp) pos :: rest) N R X := SS.cons (SX.swap m1 m2 hne p hl hs1 hs2 hf hc)
end
end Mine

namespace Mine
open PySem PyProof.Rows

/-- a while of at most so many tests -/
noncomputable def WhileN (c : Cx) (d : Nat) (hd : Bool) (nm : List (Str × NameKind)) (t : Expr) (body : List Stmt) (N : List (Option V) → Hp → Prop) (R : V → Hp → Prop) : Nat → List (Option V) → Hp → Prop
  | 0, _, _ => False
  | n + 1, σ, η => ST c d hd nm σ η t (fun b η₁ => if b then SS c d hd nm σ η₁ body (fun σ' η' => WhileN c d hd nm t body N R n σ' η') R noX else N σ η₁) noX

section
variable {c : Cx} {A : Around} {pr : Pr} {η η' η₁ : Hp} {s s' : Shared} {d : Nat} {hd : Bool} {nm : List (Str × NameKind)} {σ σ' : List (Option V)} {env : Env} {outer : List Env}
  {Q R R' : V → Hp → Prop} {B : Bool → Hp → Prop} {X X' : Addr → Hp → Prop} {N N' : List (Option V) → Hp → Prop} {v w : V} {x : Str} {pos : Pos} {h₀ h₁ h' : Heap} {rest : List Stmt}

theorem Exc.absurd {own : Pr} {r : Value} (p : Exc c A own pr η h₀ noX r s') {P : Prop} : P := by
  obtain ⟨_, _, _, _, x, _⟩ := p; exact x.elim

theorem SX.while {t : Expr} {body : List Stmt} {n : Nat} (p : WhileN c d hd nm t body N R n σ η) : SX c d hd nm σ η (.While t body [] pos) N R X := by
  intro A env s pr outer o I F h1 h2
  refine wpAny_While (codeAny_whileLoop (fun m s' => ∃ σ' η', WhileN c d hd nm t body N R m σ' η' ∧ Inv c η' pr A s' ∧ FrameR c s'.heap η' pr nm env σ' ∧ Step A (ownOf env) η s.heap η' s'.heap) ?_ n ⟨σ, η, p, I, F, Step.refl ..⟩)
  rintro m s₁ ⟨σ₁, η₁, p₁, I₁, F₁, st₁⟩
  cases m with
  | zero => exact p₁.elim
  | succ m =>
    refine wpAny_mono (p₁ A env s₁ pr o I₁ F₁) (fun b s₂ ⟨η₂, q, I₂, st₂⟩ => ?_) fun _ _ e => e.absurd
    cases b with
    | false => exact wpAny_execs_nil ⟨σ₁, η₂, q, I₂, F₁.step I₁ st₂, st₁.trans st₂.own⟩
    | true =>
      refine wpAny_mono (q A env s₂ pr outer o I₂ (F₁.step I₁ st₂) h1 h2) (fun f s₃ q₃ => ?_) fun _ _ e => e.absurd
      cases f with
      | next => obtain ⟨σ₃, η₃, q, I₃, F₃, st₃⟩ := q₃; exact ⟨m, Nat.lt_succ_self _, σ₃, η₃, q, I₃, F₃, (st₁.trans st₂.own).trans st₃⟩
      | ret r => exact Post.older (st₁.trans st₂.own) q₃
      | brk => exact q₃.elim
      | cont => exact q₃.elim
theorem SS.while {t : Expr} {body : List Stmt} (p : ∃ n, WhileN c d hd nm t body (fun σ' η' => SS c d hd nm σ' η' rest N R X) R n σ η) : SS c d hd nm σ η (.While t body [] pos :: rest) N R X :=
  let ⟨_, p⟩ := p; SS.cons (SX.while p)

/-- what is forgotten of a frame -/
noncomputable def Less : List (Option V) → List (Option V) → Prop
  | [], [] => True
  | o :: σ, o' :: σ' => (o = none ∨ o = o') ∧ Less σ σ'
  | _, _ => False
theorem Less.at {nm : List (Str × NameKind)} {σ σ' : List (Option V)} {x : Str} {k : NameKind} {v : V} (l : Less σ σ') (a : At nm σ x k v) : At nm σ' x k v := by
  induction a generalizing σ' with
  | head =>
    cases σ' with
    | nil => exact l.elim
    | cons o' τ =>
      rcases l.1 with e | e
      · cases e
      · subst e; exact .head
  | tail a ih =>
    cases σ' with
    | nil => exact l.elim
    | cons o' τ => exact .tail (ih l.2)
theorem FrameR.less (l : Less σ σ') (F : FrameR c h₀ η pr nm env σ') : FrameR c h₀ η pr nm env σ :=
  ⟨F.kind, F.names, F.nodup, F.globals, F.builtins, F.ns, F.nsp, F.cells, F.inj, F.has, fun x k v a => F.vars x k v (l.at a)⟩
theorem SS.forget {b : List Stmt} (l : Less σ σ') (p : SS c d hd nm σ η b N R X) : SS c d hd nm σ' η b N R X :=
  fun A env s pr outer o I F h1 h2 => p A env s pr outer o I (F.less l) h1 h2
-- calls
theorem evalArgs_SL {es : List Expr} {f : Value} {QQ : Args → Shared → Prop} {PE : Value → Shared → Prop} {K : List V → Hp → Prop} (p : SL c d hd nm σ η es K X) (o : Ok d hd A) (I : Inv c η pr A s) (F : FrameR c s.heap η pr nm env σ) (hs : es.any star? = false)
    (h : ∀ vs η₁ s₁ xs, K vs η₁ → Inv c η₁ pr A s₁ → Rvs c.P s₁.heap η₁ pr vs xs → Step A noOwn η s.heap η₁ s₁.heap → QQ ⟨xs, []⟩ s₁) (hx : ∀ e s', Exc c A noOwn pr η s.heap X e s' → PE e s') :
    wpAny c.M A (evalArgs f true (backTo pos (starEach es env)) []) QQ PE s := by
  have key := p A env s pr pos o I F
  have fin : wpAny c.M A (spliced (backTo pos (starEach es env))) (fun xs s₁ => QQ ⟨xs, []⟩ s₁) PE s := wpAny_mono key (fun xs s₁ ⟨vs, η₁, q, I₁, r, st⟩ => h vs η₁ s₁ xs q I₁ r st) hx
  cases es with
  | nil =>
    show wpAny c.M A (evalArgs f true [] []) QQ PE s
    unfold evalArgs
    refine wpAny_bind (wpAny_mono fin (fun vs s' h' => wpAny_bind (wpAny_pure (wpAny_holding (wpAny_bind (wpAny_pure (wpAny_bind (wpAny_pure (wpAny_pure h')))))))) fun _ _ x => x)
  | cons e es =>
    simp only [List.any_cons, Bool.or_eq_false_iff] at hs
    rw [starEach_cons hs.1] at fin ⊢
    exact Calls.evalArgs_plain fin

/-- a def, a built-in function, a built-in type -/
noncomputable def Callee (c : Cx) (f : Value) : Prop := (∃ id, f = .builtin id) ∨ (∃ T, f = .type T) ∨ ∃ a o fd, f = .ref a ∧ c.base.get? a = some o ∧ o.data = .func fd

theorem noStar {es : List Expr} (hs : es.any star? = false) : (backTo pos (starEach es env)).any (·.1) = false := by
  induction es with
  | nil => rfl
  | cons e es ih =>
    simp only [List.any_cons, Bool.or_eq_false_iff] at hs
    rw [starEach_cons hs.1]
    show ((false, _) :: backTo pos (starEach es env)).any (·.1) = false
    rw [List.any_cons, ih hs.2]; rfl

theorem callWith_type {M : Model} {E : Value → Shared → Prop} {pos : Pos} {T : String} {first : List Value} {args : List (Bool × Sem Value)} {Q : Value → Shared → Prop} (hplain : args.any (·.1) = false)
    (h : wpAny M A (evalArgs (.type T) true args []) (fun a s₁ => wpAny M A (call (.type T) (first ++ a.pos) a.kw) Q E s₁) E s) :
    wpAny M A (callWith pos (.type T) first args []) Q E s := by
  unfold callWith
  refine wpAny_bind (wpAny_holding (wpAny_mono h (fun a s₁ h₁ => wpAny_bind (wpAny_standAt ?_)) fun _ _ x => x))
  simp only [hplain, List.any_nil, Bool.or_false]
  refine wpAny_bind (wpAny_pure ?_)
  exact wpAny_bind (wpAny_mono h₁ (fun r s₂ hr => wpAny_bind (wpAny_holding (wpAny_point (wpAny_pure hr)))) fun _ _ x => x)

theorem callWith_SL {es : List Expr} {f : Value} {first : List Value} {PQ PE : Value → Shared → Prop} {K : List V → Hp → Prop} (cf : Callee c f) (p : SL c d hd nm σ η es K X) (o : Ok d hd A) (I : Inv c η pr A s) (F : FrameR c s.heap η pr nm env σ) (hs : es.any star? = false)
    (h : ∀ vs η₁ s₁ xs, K vs η₁ → Inv c η₁ pr A s₁ → Rvs c.P s₁.heap η₁ pr vs xs → Step A noOwn η s.heap η₁ s₁.heap → wpAny c.M A (call f (first ++ xs)) PQ PE s₁) (hx : ∀ e s', Exc c A noOwn pr η s.heap X e s' → PE e s') :
    wpAny c.M A (callWith pos f first (backTo pos (starEach es env)) []) PQ PE s := by
  rcases cf with ⟨id, rfl⟩ | ⟨T, rfl⟩ | ⟨a, ob, fd, rfl, hb, hdt⟩
  · exact Calls.callWith_builtin (noStar hs) (evalArgs_SL p o I F hs h hx)
  · exact callWith_type (noStar hs) (evalArgs_SL p o I F hs h hx)
  · exact Calls.callWith_function (evalArgs_SL p o I F hs (fun vs η₁ s₁ xs q I₁ r st => ⟨⟨I₁.stays _ _ hb, hdt⟩, h vs η₁ s₁ xs q I₁ r st⟩) hx)

/-- a call by name -/
theorem SE.call {f : Str} {fp : Pos} {es : List Expr} {g : Value} (m : (f, NameKind.globalImplicit) ∈ nm) (gl : Glob c f g) (cf : Callee c g) (p : SL c d hd nm σ η es (fun vs η₁ => SC c d hd g vs η₁ Q X) X)
    (hs : es.any star? = false := by with_unfolding_all rfl) (hn : (f == ("__debug__" : Str)) = false := by decide +kernel) : SE c d hd nm σ η (.Call (.Name f fp) es [] pos) Q X := by
  intro A env s pr o I F
  refine wpAny_Call_ofName (wpAny_mono (SE.glob (Q := fun v η' => v = .glob g ∧ η' = η) (X := X) m gl ⟨rfl, rfl⟩ hn A env s pr o I F) (fun x s₁ hq => ?_) fun _ _ e => e)
  obtain ⟨v, η₁, ⟨rfl, e⟩, I₁, rv, st⟩ := hq
  subst e
  unfold Rv at rv; subst rv
  refine callWith_SL (first := []) cf p o I₁ (F.step I st) hs (fun vs η₂ s₂ xs q I₂ r st₂ => ?_) fun _ _ e => e.older st
  exact wpAny_mono (q A s₂ pr xs o I₂ r) (fun _ _ e => e.older (st.trans st₂)) fun _ _ e => e.older (st.trans st₂)
end
end Mine

namespace Mine
open PySem PyProof.Rows PySem.W

structure Wd (c : Cx) (K : Params → Frag) (gt bt : List (Str × Value)) : Prop where
  kin : (K c.P).In c.base
  glob : ∀ p ∈ gt, c.mg p.1 = some p.2
  bi : ∀ p ∈ bt, c.mg p.1 = none ∧ c.mb p.1 = some p.2

noncomputable def gtOk (K : Frag) (gt : List (Str × Value)) : Bool := gt.all fun p => nsIn K mainGlobals p.1 == some (some p.2)
noncomputable def btOk (K : Frag) (bt : List (Str × Value)) : Bool := bt.all fun p => nsIn K mainGlobals p.1 == some none
noncomputable def btOk' (bt : List (Str × Value)) : Bool := bt.all fun p => bootBuiltins p.1 == some p.2 && p.1 != ("__name__" : Str)
theorem Wd.of {c : Cx} {K : Params → Frag} {gt bt : List (Str × Value)} (kin : (K c.P).In c.base) (h1 : gtOk (K c.P) gt = true) (h2 : btOk (K c.P) bt = true) (h3 : btOk' bt = true) (hb : ∀ x : Str, x ≠ "__name__" → c.mb x = bootBuiltins x) : Wd c K gt bt := by
  refine ⟨kin, fun p m => ?_, fun p m => ?_⟩
  · exact mg_of kin c.g (beq_iff_eq.mp (List.all_eq_true.mp h1 p m))
  · have e1 := beq_iff_eq.mp (List.all_eq_true.mp h2 p m)
    have e2 := List.all_eq_true.mp h3 p m
    simp only [Bool.and_eq_true, beq_iff_eq, bne_iff_ne, ne_eq] at e2
    exact ⟨mg_none_of kin c.g e1, (hb p.1 e2.2).trans e2.1⟩

section
variable {c : Cx} {K : Params → Frag} {gt bt : List (Str × Value)} {η : Hp} {d : Nat} {hd : Bool} {nm : List (Str × NameKind)} {σ : List (Option V)}
  {Q R : V → Hp → Prop} {X : Addr → Hp → Prop} {v w : V} {x : Str} {pos : Pos}

theorem Wd.g (W : Wd c K gt bt) {g : Value} (m : (x, g) ∈ gt) : Glob c x g := .inl (W.glob _ m)
theorem Wd.b (W : Wd c K gt bt) {g : Value} (m : (x, g) ∈ bt) : Glob c x g := .inr (W.bi _ m)

theorem SE.gname (W : Wd c K gt bt) {g : Value} (m : (x, NameKind.globalImplicit) ∈ nm) (mg : (x, g) ∈ gt) (q : Q (.glob g) η) (hn : (x == ("__debug__" : Str)) = false := by decide +kernel) : SE c d hd nm σ η (.Name x pos) Q X := SE.glob m (W.g mg) q hn
theorem SE.bname (W : Wd c K gt bt) {g : Value} (m : (x, NameKind.globalImplicit) ∈ nm) (mg : (x, g) ∈ bt) (q : Q (.glob g) η) (hn : (x == ("__debug__" : Str)) = false := by decide +kernel) : SE c d hd nm σ η (.Name x pos) Q X := SE.glob m (W.b mg) q hn

/-- a def of the top is called -/
theorem SE.gcall (W : Wd c K gt bt) {f : Str} {fp : Pos} {es : List Expr} {a : Addr} (m : (f, NameKind.globalImplicit) ∈ nm) (mg : (f, .ref a) ∈ gt) (hf : fnIn (K c.P) a = true)
    (p : SL c d hd nm σ η es (fun vs η₁ => SC c d hd (.ref a) vs η₁ Q X) X) (hs : es.any star? = false := by with_unfolding_all rfl) (hn : (f == ("__debug__" : Str)) = false := by decide +kernel) : SE c d hd nm σ η (.Call (.Name f fp) es [] pos) Q X := by
  refine SE.call m (W.g mg) (.inr (.inr ?_)) p hs hn
  unfold fnIn at hf
  split at hf
  · rename_i q; exact ⟨a, _, _, rfl, W.kin _ _ q, rfl⟩
  · cases hf
/-- a built-in function or type is called -/
theorem SE.bcall (W : Wd c K gt bt) {f id : String} {fp : Pos} {es : List Expr} (m : (Str.ofString f, NameKind.globalImplicit) ∈ nm) (mg : (Str.ofString f, .builtin id) ∈ bt)
    (p : SL c d hd nm σ η es (fun vs η₁ => SC c d hd (.builtin id) vs η₁ Q X) X) (hs : es.any star? = false := by with_unfolding_all rfl) (hn : ((Str.ofString f) == ("__debug__" : Str)) = false := by decide +kernel) : SE c d hd nm σ η (.Call (.Name (Str.ofString f) fp) es [] pos) Q X :=
  SE.call m (W.b mg) (.inl ⟨_, rfl⟩) p hs hn
theorem SE.tcall (W : Wd c K gt bt) {f id : String} {fp : Pos} {es : List Expr} (m : (Str.ofString f, NameKind.globalImplicit) ∈ nm) (mg : (Str.ofString f, .type id) ∈ bt)
    (p : SL c d hd nm σ η es (fun vs η₁ => SC c d hd (.type id) vs η₁ Q X) X) (hs : es.any star? = false := by with_unfolding_all rfl) (hn : ((Str.ofString f) == ("__debug__" : Str)) = false := by decide +kernel) : SE c d hd nm σ η (.Call (.Name (Str.ofString f) fp) es [] pos) Q X :=
  SE.call m (W.b mg) (.inr (.inl ⟨_, rfl⟩)) p hs hn

theorem SCc.fn (W : Wd c K gt bt) {a : Addr} {as : List Arg} {body : List Stmt} {vs : List V} {oc kV doc pm cdv ct : Value} {od an : Option Addr} {sl : Array (Option Value)} {name qual : Str} {scope : Scope}
    (ho : (K c.P).lookup a = some ⟨oc, od, .func (fnOf name qual (plainArgs as) body scope .none kV doc pm an cdv ct), sl⟩) (hcd : codeIn (K c.P) cdv qual = true) (htab : tabOk scope.names as = true) (hi : InitR (as.map (·.arg)) vs scope.names σ)
    (hb : SS c d hd scope.names σ η body (fun _ η' => Q .none η') Q X)
    (hl : as.length = vs.length := by with_unfolding_all rfl) (hco : scope.isCoroutine = false := by with_unfolding_all rfl) (hgen : scope.isGenerator = false := by with_unfolding_all rfl) (hk : scope.kind = .function := by with_unfolding_all rfl) : SCc c (d + 1) hd (.ref a) vs η Q X :=
  SCc.enter (W.kin _ _ ho) rfl (codeRec_of W.kin hcd) rfl rfl rfl rfl rfl rfl hco hgen hk htab hl hi hb
end
end Mine

namespace Mine
open PySem PyProof.Rows PySem.W

/-- what isinstance says of a built-in type -/
noncomputable def isiT (T : String) : V → Option Bool
  | .none => if T = "int" ∨ T = "bool" ∨ T = "str" ∨ T = "list" ∨ T = "tuple" then some false else none
  | .bool _ => if T = "int" ∨ T = "bool" then some true else if T = "str" ∨ T = "list" ∨ T = "tuple" then some false else none
  | .int _ => if T = "int" then some true else if T = "bool" ∨ T = "str" ∨ T = "list" ∨ T = "tuple" then some false else none
  | .str _ => if T = "str" then some true else if T = "bool" ∨ T = "int" ∨ T = "list" ∨ T = "tuple" then some false else none
  | .tup _ => if T = "tuple" then some true else if T = "bool" ∨ T = "int" ∨ T = "list" ∨ T = "str" then some false else none
  | .lst _ => if T = "list" then some true else if T = "bool" ∨ T = "int" ∨ T = "tuple" ∨ T = "str" then some false else none
  | .dct _ _ => if T = "bool" ∨ T = "int" ∨ T = "tuple" ∨ T = "str" ∨ T = "list" then some false else none
  | _ => none

section
variable {c : Cx} {A : Around} {pr : Pr} {η η' : Hp} {s : Shared} {d : Nat} {hd : Bool} {nm : List (Str × NameKind)} {σ : List (Option V)} {env : Env}
  {Q R : V → Hp → Prop} {B : Bool → Hp → Prop} {X : Addr → Hp → Prop} {v w : V} {x : Str} {pos : Pos}

theorem rvs1 {P : Params} {h : Heap} {a : V} {xs : List Value} (r : Rvs P h η pr [a] xs) : ∃ y, xs = [y] ∧ Rv P h η pr a y := by
  obtain ⟨y, ys, rfl, ry, e⟩ := r; cases e; exact ⟨y, rfl, ry⟩
theorem rvs2 {P : Params} {h : Heap} {a b : V} {xs : List Value} (r : Rvs P h η pr [a, b] xs) : ∃ y z, xs = [y, z] ∧ Rv P h η pr a y ∧ Rv P h η pr b z := by
  obtain ⟨y, ys, rfl, ry, r⟩ := r; obtain ⟨z, rfl, rz⟩ := rvs1 r; exact ⟨y, z, rfl, ry, rz⟩

theorem Post.tok {r : Value} (I : Inv c η pr A s) (t : Nat) (rv : Rv c.P s.heap η pr v r) (q : Q v η) {own : Pr} : Post c A own pr η s.heap Q r { s with toks := t } := Post.pure (h' := s.heap) I (fun _ _ e => e) rv q

theorem SC.isi {T : String} {b : Bool} (h : isiT T v = some b) (q : Q (.bool b) η) : SC c d hd (.builtin "isinstance") [v, .glob (.type T)] η Q X := by
  intro A s pr xs o I r
  obtain ⟨y, z, rfl, ry, rz⟩ := rvs2 r
  unfold Rv at rz; subst rz
  have p0 : Post c A noOwn pr η s.heap Q (.bool b) s := Post.val (v := .bool b) I rfl q
  have p1 : Post c A noOwn pr η s.heap Q (.bool b) { s with toks := s.toks + 1 } := Post.tok (v := .bool b) I _ rfl q
  cases v with
  | none =>
    unfold Rv at ry; subst ry; dsimp only [isiT] at h
    split at h <;> cases h
    rename_i hT
    rcases hT with rfl | rfl | rfl | rfl | rfl
    · exact IsiPair.NoneType_int p1
    · exact IsiPair.NoneType_bool p1
    · exact IsiPair.NoneType_str p1
    · exact IsiPair.NoneType_list p1
    · exact IsiPair.NoneType_tuple p1
  | bool u =>
    unfold Rv at ry; subst ry; dsimp only [isiT] at h
    split at h
    · cases h; rename_i hT
      rcases hT with rfl | rfl
      · exact IsiPair.bool_int p0
      · exact IsiPair.bool_bool p0
    · split at h <;> cases h
      rename_i hT
      rcases hT with rfl | rfl | rfl
      · exact IsiPair.bool_str p1
      · exact IsiPair.bool_list p1
      · exact IsiPair.bool_tuple p1
  | int u =>
    unfold Rv at ry; obtain ⟨t, rfl⟩ := ry; dsimp only [isiT] at h
    split at h
    · cases h; rename_i hT; subst hT; exact IsiPair.int_int p0
    · split at h <;> cases h
      rename_i hT
      rcases hT with rfl | rfl | rfl | rfl
      · exact IsiPair.int_bool p1
      · exact IsiPair.int_str p1
      · exact IsiPair.int_list p1
      · exact IsiPair.int_tuple p1
  | str u =>
    unfold Rv at ry; obtain ⟨t, rfl⟩ := ry; dsimp only [isiT] at h
    split at h
    · cases h; rename_i hT; subst hT; exact IsiPair.str_str p0
    · split at h <;> cases h
      rename_i hT
      rcases hT with rfl | rfl | rfl | rfl
      · exact IsiPair.str_bool p1
      · exact IsiPair.str_int p1
      · exact IsiPair.str_list p1
      · exact IsiPair.str_tuple p1
  | tup u =>
    unfold Rv at ry; obtain ⟨a, ys, n, rfl, ho, _⟩ := ry; dsimp only [isiT] at h
    split at h
    · cases h; rename_i hT; subst hT; exact IsiPair.tuple_tuple ho rfl p0
    · split at h <;> cases h
      rename_i hT
      rcases hT with rfl | rfl | rfl | rfl
      · exact IsiPair.tuple_bool ho rfl p1
      · exact IsiPair.tuple_int ho rfl p1
      · exact IsiPair.tuple_list ho rfl p1
      · exact IsiPair.tuple_str ho rfl p1
  | lst u =>
    unfold Rv at ry; obtain ⟨a, ys, n, rfl, ho, _⟩ := ry; dsimp only [isiT] at h
    split at h
    · cases h; rename_i hT; subst hT; exact IsiPair.list_list ho rfl p0
    · split at h <;> cases h
      rename_i hT
      rcases hT with rfl | rfl | rfl | rfl
      · exact IsiPair.list_bool ho rfl p1
      · exact IsiPair.list_int ho rfl p1
      · exact IsiPair.list_tuple ho rfl p1
      · exact IsiPair.list_str ho rfl p1
  | dct ks u =>
    unfold Rv at ry; obtain ⟨a, ys, es, n, rfl, ho, _⟩ := ry; dsimp only [isiT] at h
    split at h <;> cases h
    rename_i hT
    rcases hT with rfl | rfl | rfl | rfl | rfl
    · exact IsiPair.dict_bool ho rfl p1
    · exact IsiPair.dict_int ho rfl p1
    · exact IsiPair.dict_tuple ho rfl p1
    · exact IsiPair.dict_str ho rfl p1
    · exact IsiPair.dict_list ho rfl p1
  | loc a => cases h
  | glob g => cases h
  | exc C => cases h
  | rng _ _ => cases h
  | obj _ _ _ => cases h

theorem sizeLine_lt : ∀ n : Nat, n ≤ sizeLine → (n : Int) < 2 ^ 63 := fun n h => by
  have : sizeLine = 16777216 := by decide
  omega

theorem SC.len_tup {vs : List V} (q : Q (.int vs.length) η) : SC c d hd (.builtin "len") [.tup vs] η Q X := by
  intro A s pr xs o I r
  obtain ⟨y, rfl, ry⟩ := rvs1 r
  unfold Rv at ry; obtain ⟨a, ys, n, rfl, ho, _, z, rs⟩ := ry
  have hl := rvs_length rs
  refine PyProof.Rows.len_tuple ⟨_, ho, rfl, _, rfl⟩ (by simp only [List.size_toArray, hl]; exact sizeLine_lt _ z) ?_
  exact Post.tok (v := .int vs.length) I _ ⟨s.toks + 1, by simp only [List.size_toArray, hl]⟩ q
theorem SC.len_lst {vs : List V} (q : Q (.int vs.length) η) : SC c d hd (.builtin "len") [.lst vs] η Q X := by
  intro A s pr xs o I r
  obtain ⟨y, rfl, ry⟩ := rvs1 r
  unfold Rv at ry; obtain ⟨a, ys, n, rfl, ho, _, z, rs⟩ := ry
  have hl := rvs_length rs
  refine PyProof.Rows.len_list ⟨_, ho, rfl, _, rfl⟩ (by simp only [List.size_toArray, hl]; exact sizeLine_lt _ z) ?_
  exact Post.tok (v := .int vs.length) I _ ⟨s.toks + 1, by simp only [List.size_toArray, hl]⟩ q
theorem SC.len_loc {a : Addr} {vs : List V} (e : η a = some (.lst vs)) (q : Q (.int vs.length) η) : SC c d hd (.builtin "len") [.loc a] η Q X := by
  intro A s pr xs o I r
  obtain ⟨y, rfl, ry⟩ := rvs1 r
  unfold Rv at ry; obtain ⟨rfl, _⟩ := ry
  obtain ⟨ys, n, ho, z, rs⟩ := I.hrel a _ e
  have hl := rvs_length rs
  refine PyProof.Rows.len_list ⟨_, ho, rfl, _, rfl⟩ (by simp only [List.size_toArray, hl]; exact sizeLine_lt _ z) ?_
  exact Post.tok (v := .int vs.length) I _ ⟨s.toks + 1, by simp only [List.size_toArray, hl]⟩ q
theorem SC.len_str {u : Str} (hz : (u.length : Int) < 2 ^ 63) (q : Q (.int u.length) η) : SC c d hd (.builtin "len") [.str u] η Q X := by
  intro A s pr xs o I r
  obtain ⟨y, rfl, ry⟩ := rvs1 r
  unfold Rv at ry; obtain ⟨t, rfl⟩ := ry
  exact PyProof.Rows.len_str (by omega) (Post.tok (v := .int u.length) I _ ⟨_, rfl⟩ q)
theorem SC.abs {i : Int} (q : Q (.int i.natAbs) η) : SC c d hd (.builtin "abs") [.int i] η Q X := by
  intro A s pr xs o I r
  obtain ⟨y, rfl, ry⟩ := rvs1 r
  unfold Rv at ry; obtain ⟨t, rfl⟩ := ry
  refine PyProof.Rows.call_abs_int fun u tk => Post.tok (v := .int i.natAbs) I _ ⟨u, ?_⟩ q
  have : (if i < 0 then -i else i) = (i.natAbs : Int) := by split <;> omega
  rw [this]
theorem SC.int_bool {b : Bool} (q : Q (.int (if b then 1 else 0)) η) : SC c d hd (.type "int") [.bool b] η Q X := by
  intro A s pr xs o I r
  obtain ⟨y, rfl, ry⟩ := rvs1 r
  unfold Rv at ry; subst ry
  exact call_int_bool (Post.tok (v := .int (if b then 1 else 0)) I _ ⟨_, rfl⟩ q)

-- items
theorem SE.sub {e i : Expr} (p : SE c d hd nm σ η e (fun a η₁ => SE c d hd nm σ η₁ i (fun b η₂ => S2 c d hd (subscriptTail e i) a b η₂ Q X) X) X) : SE c d hd nm σ η (.Subscript e i pos) Q X :=
  fun A env s pr o I F => SE.op2 (tree := fun env => eval (.Subscript e i pos) env) (fun h => PyProof.Rows.Subscript_ h) p o I F

noncomputable def notSlice : Expr → Bool
  | .Slice .. => false
  | _ => true
theorem subscripted_plain {i : Expr} (h : notSlice i = true) (a b : Value) : subscripted i false a b = operate [a, b] (getItem a b) := by
  cases i <;> first | rfl | cases h

theorem rvs_get {P : Params} {h : Heap} : ∀ {vs : List V} {xs : List Value} {k : Nat} {u : V}, Rvs P h η pr vs xs → vs[k]? = some u → ∃ y, xs[k]? = some y ∧ Rv P h η pr u y
  | [], xs, k, u, r, e => by cases e
  | v :: vs, xs, k, u, r, e => by
    unfold Rvs at r
    obtain ⟨y, ys, rfl, ry, rs⟩ := r
    cases k with
    | zero => simp only [List.getElem?_cons_zero, Option.some.injEq] at e; subst e; exact ⟨y, rfl, ry⟩
    | succ k => simp only [List.getElem?_cons_succ] at e ⊢; exact rvs_get rs e

theorem seqIndex_nat {n k : Nat} (h : k < n) : seqIndex? (k : Int) n = some k := by
  unfold seqIndex?
  have : ¬ ((k : Int) < 0) := by omega
  simp only [this, if_false]
  rw [if_pos (by simp; omega)]; simp

theorem S2.item_tup {e i : Expr} {vs : List V} {k : Nat} {u : V} (hu : vs[k]? = some u) (q : Q u η) (hs : notSlice i = true := by with_unfolding_all rfl) : S2 c d hd (subscriptTail e i) (.tup vs) (.int k) η Q X := by
  intro A s pr y z o I r r'
  unfold Rv at r r'; obtain ⟨a, ys, n, rfl, ho, _, zz, rs⟩ := r; obtain ⟨t, rfl⟩ := r'
  have hl := rvs_length rs
  obtain ⟨y, hy, ry⟩ := rvs_get rs hu
  have hk : k < ys.length := by rw [hl]; exact (List.getElem?_eq_some_iff.mp hu).1
  have := sizeLine_lt k (by omega)
  exact PyProof.Rows.item_tupleT ⟨_, ho, rfl, _, rfl⟩ (by omega) this (seqIndex_nat hk) hy (Post.val I ry q) (subscripted_plain hs _ _)
theorem S2.item_lst {e i : Expr} {vs : List V} {k : Nat} {u : V} (hu : vs[k]? = some u) (q : Q u η) (hs : notSlice i = true := by with_unfolding_all rfl) : S2 c d hd (subscriptTail e i) (.lst vs) (.int k) η Q X := by
  intro A s pr y z o I r r'
  unfold Rv at r r'; obtain ⟨a, ys, n, rfl, ho, _, zz, rs⟩ := r; obtain ⟨t, rfl⟩ := r'
  have hl := rvs_length rs
  obtain ⟨y, hy, ry⟩ := rvs_get rs hu
  have hk : k < ys.length := by rw [hl]; exact (List.getElem?_eq_some_iff.mp hu).1
  have := sizeLine_lt k (by omega)
  have hL : s.heap.IsList a ys.toArray := ⟨_, ho, rfl, _, rfl⟩
  exact PyProof.Rows.tail_any hL.typeIs slot_list_getitem.lookup (wpAny_getItem_list hL (by omega) this (by simpa using hy) (Post.val I ry q)) (subscripted_plain hs _ _)
theorem S2.item_loc {e i : Expr} {a : Addr} {vs : List V} {k : Nat} {u : V} (ea : η a = some (.lst vs)) (hu : vs[k]? = some u) (q : Q u η) (hs : notSlice i = true := by with_unfolding_all rfl) : S2 c d hd (subscriptTail e i) (.loc a) (.int k) η Q X := by
  intro A s pr y z o I r r'
  unfold Rv at r r'; obtain ⟨rfl, _⟩ := r; obtain ⟨t, rfl⟩ := r'
  obtain ⟨ys, n, ho, zz, rs⟩ := I.hrel a _ ea
  have hl := rvs_length rs
  obtain ⟨y, hy, ry⟩ := rvs_get rs hu
  have hk : k < ys.length := by rw [hl]; exact (List.getElem?_eq_some_iff.mp hu).1
  have := sizeLine_lt k (by omega)
  have hL : s.heap.IsList a ys.toArray := ⟨_, ho, rfl, _, rfl⟩
  exact PyProof.Rows.tail_any hL.typeIs slot_list_getitem.lookup (wpAny_getItem_list hL (by omega) this (by simpa using hy) (Post.val I ry q)) (subscripted_plain hs _ _)

-- is
-- lists
theorem rvs_append {P : Params} {h : Heap} : ∀ {vs : List V} {xs : List Value} {ws : List V} {ys : List Value}, Rvs P h η pr vs xs → Rvs P h η pr ws ys → Rvs P h η pr (vs ++ ws) (xs ++ ys)
  | [], xs, ws, ys, r, r' => by unfold Rvs at r; subst r; exact r'
  | v :: vs, xs, ws, ys, r, r' => by
    unfold Rvs at r
    obtain ⟨y, zs, rfl, ry, rs⟩ := r
    exact ⟨y, zs ++ ys, rfl, ry, rvs_append rs r'⟩
theorem S2.addL {vs ws : List V} (hz : vs.length + ws.length ≤ sizeLine) (q : Q (.lst (vs ++ ws)) η) : S2 c d hd (binaryOp .Add) (.lst vs) (.lst ws) η Q X := by
  intro A s pr y z o I r r'
  unfold Rv at r r'; obtain ⟨a, ys, n, rfl, ho, _, z1, rs⟩ := r; obtain ⟨b, zs, m, rfl, ho', _, z2, rs'⟩ := r'
  have l1 := rvs_length rs
  have l2 := rvs_length rs'
  have e : ys.toArray ++ zs.toArray = (ys ++ zs).toArray := by simp
  refine PySem.P.add_list (n := n) (n2 := m) ho ho' ?_ (by simp only [List.size_toArray]; omega)
  rw [e]
  exact new_lst (t := s.toks) I (by simpa using hz) (rvs_append rs rs') q
theorem rvs_rep {P : Params} {h : Heap} {vs : List V} {xs : List Value} (r : Rvs P h η pr vs xs) : ∀ k : Nat, Rvs P h η pr (List.replicate k vs).flatten (List.replicate k xs).flatten
  | 0 => rfl
  | k + 1 => by rw [List.replicate_succ, List.replicate_succ, List.flatten_cons, List.flatten_cons]; exact rvs_append r (rvs_rep r k)
theorem foldl_arrays (xs : List Value) : ∀ (k : Nat) (acc : List Value), List.foldl (fun x1 x2 => x1 ++ x2) acc.toArray (List.replicate k xs.toArray) = (acc ++ (List.replicate k xs).flatten).toArray
  | 0, acc => by simp
  | k + 1, acc => by
    rw [List.replicate_succ, List.foldl_cons, List.replicate_succ, List.flatten_cons]
    have e : acc.toArray ++ xs.toArray = (acc ++ xs).toArray := by simp
    rw [e, foldl_arrays xs k (acc ++ xs), List.append_assoc]
theorem S2.mulL {vs : List V} {k : Int} (hk : k < 2 ^ 63) (hk' : -(2 ^ 63) ≤ k) (hz : vs.length * k.toNat ≤ sizeLine) (q : Q (.lst (List.replicate k.toNat vs).flatten) η) : S2 c d hd (binaryOp .Mult) (.lst vs) (.int k) η Q X := by
  intro A s pr y z o I r r'
  unfold Rv at r r'; obtain ⟨a, ys, n, rfl, ho, _, z1, rs⟩ := r; obtain ⟨t, rfl⟩ := r'
  have l1 := rvs_length rs
  have sl : sizeLine = 2 ^ 24 := rfl
  refine wpAny_binaryOp_repeat_ref (T := "list") (U := "int") (by decide) ⟨_, ho, rfl⟩ (fun s' => typeIs_int s' k t) noFill_list_mul F.fills_int_mul F.slot_int_rmul repeat_list F.slot_int_index.lookup
    (call_meets F.slot_int_rmul (typeIs_int s k t) F.entry_int_rmul (F.args_int_rmul_2 _ _) (int___rmul___int_list k t a ys.toArray n)
      ⟨ho, rfl, ⟨_, ho, rfl⟩, call_meets F.slot_list_mul ⟨_, ho, rfl⟩ F.entry_list_mul (F.args_list_mul_2 _ _)
        (AutoListH.list___mul___list_int_3 a ys.toArray n k t (by simp [Builtin.List.listFitsIndex]; omega) (by simp only [List.size_toArray, l1]; omega) (by simp only [Builtin.List.listTooLong, List.size_toArray, l1, decide_eq_true_eq]; omega)) ⟨ho, ?_⟩⟩)
  have e : List.foldl (fun x1 x2 => x1 ++ x2) #[] (List.replicate (if ys.toArray.isEmpty = true then 0 else k.toNat) ys.toArray) = ((List.replicate k.toNat ys).flatten).toArray := by
    cases ys with
    | nil => simp
    | cons y ys =>
      rw [if_neg (by simp)]
      have := foldl_arrays (y :: ys) k.toNat []
      simpa using this
  rw [e]
  refine new_lst (t := s.toks) I ?_ (rvs_rep rs _) q
  rw [List.length_flatten, List.map_replicate, List.sum_replicate_nat, Nat.mul_comm]; exact hz

-- truth
end
end Mine

namespace Mine
open PySem PyProof.Rows PySem.W

mutual
/-- a value as plain data -/
inductive PyR (η : Hp) : V → PyData → Prop
  | none : PyR η .none .none
  | bool {b} : PyR η (.bool b) (.bool b)
  | int {i} : PyR η (.int i) (.int i)
  | str {x} : PyR η (.str x) (.str x)
  | tup {vs ds} : PyRs η vs ds → PyR η (.tup vs) (.tuple ds)
  | lst {vs ds} : PyRs η vs ds → PyR η (.lst vs) (.list ds)
  | loc {a vs ds} : η a = some (.lst vs) → PyRs η vs ds → PyR η (.loc a) (.list ds)
inductive PyRs (η : Hp) : List V → List PyData → Prop
  | nil : PyRs η [] []
  | cons {v d vs ds} : PyR η v d → PyRs η vs ds → PyRs η (v :: vs) (d :: ds)
end

section
variable {c : Cx} {A : Around} {pr : Pr} {η η' : Hp} {s : Shared} {d : Nat} {hd : Bool} {nm : List (Str × NameKind)} {σ : List (Option V)} {env : Env}
  {Q R : V → Hp → Prop} {B : Bool → Hp → Prop} {X : Addr → Hp → Prop} {v w : V} {x : Str} {pos : Pos}

mutual
theorem PyR.reads (I : Inv c η pr A s) : ∀ {v : V} {d : PyData} {y : Value}, PyR η v d → Rv c.P s.heap η pr v y → ∃ as, Reads s.heap y d as
  | _, _, _, .none, r => by unfold Rv at r; subst r; exact ⟨_, .none⟩
  | _, _, _, .bool, r => by unfold Rv at r; subst r; exact ⟨_, .bool _⟩
  | _, _, _, .int, r => by unfold Rv at r; obtain ⟨t, rfl⟩ := r; exact ⟨_, .int _ _⟩
  | _, _, _, .str, r => by unfold Rv at r; obtain ⟨t, rfl⟩ := r; exact ⟨_, .str _ _⟩
  | _, _, _, .tup p, r => by
    unfold Rv at r; obtain ⟨a, xs, n, rfl, ho, _, _, rs⟩ := r
    obtain ⟨as, q⟩ := PyRs.reads I p rs
    exact ⟨_, .tuple ho rfl rfl (by simpa using q)⟩
  | _, _, _, .lst p, r => by
    unfold Rv at r; obtain ⟨a, xs, n, rfl, ho, _, _, rs⟩ := r
    obtain ⟨as, q⟩ := PyRs.reads I p rs
    exact ⟨_, .list ho rfl rfl (by simpa using q)⟩
  | _, _, _, .loc e p, r => by
    unfold Rv at r; obtain ⟨rfl, _⟩ := r
    obtain ⟨xs, n, ho, _, rs⟩ := I.hrel _ _ e
    obtain ⟨as, q⟩ := PyRs.reads I p rs
    exact ⟨_, .list ho rfl rfl (by simpa using q)⟩
theorem PyRs.reads (I : Inv c η pr A s) : ∀ {vs : List V} {ds : List PyData} {ys : List Value}, PyRs η vs ds → Rvs c.P s.heap η pr vs ys → ∃ as, ReadsAll s.heap ys ds as
  | _, _, _, .nil, r => by unfold Rvs at r; subst r; exact ⟨_, .nil⟩
  | _, _, _, .cons p q, r => by
    unfold Rvs at r; obtain ⟨y, ys, rfl, ry, rs⟩ := r
    obtain ⟨as, h1⟩ := PyR.reads I p ry
    obtain ⟨bs, h2⟩ := PyRs.reads I q rs
    exact ⟨_, .cons h1 h2⟩
end

theorem S2.eqD {a b : PyData} (ra : PyR η v a) (rb : PyR η w b) (ha : PySem.SeqAt.shaped a = true) (hb : PySem.SeqAt.shaped b = true) (q : Q (.bool (PyData.eqv a b)) η) : S2 c d hd (compareOp .Eq) v w η Q X := by
  intro A s pr y z o I r r'
  obtain ⟨as, h1⟩ := ra.reads I r
  obtain ⟨bs, h2⟩ := rb.reads I r'
  exact eq_dataH h1 h2 ha hb (by have := o.units; omega) (Post.val (v := .bool (PyData.eqv a b)) I rfl q)
theorem S2.neD {a b : PyData} (ra : PyR η v a) (rb : PyR η w b) (ha : PySem.SeqAt.shaped a = true) (hb : PySem.SeqAt.shaped b = true) (q : Q (.bool (!PyData.eqv a b)) η) : S2 c d hd (compareOp .NotEq) v w η Q X := by
  intro A s pr y z o I r r'
  obtain ⟨as, h1⟩ := ra.reads I r
  obtain ⟨bs, h2⟩ := rb.reads I r'
  exact ne_dataH h1 h2 ha hb (by have := o.units; omega) (Post.val (v := .bool (!PyData.eqv a b)) I rfl q)
end
end Mine

namespace Mine
open PySem PyProof.Rows PySem.W

/-- an iterator over known items, for a target; `J`: what it alone writes -/
structure Itr (c : Cx) (A : Around) (J : Pr) (I : Addr) (t : Expr) (vs : List V) (St : Nat → Heap → Hp → Pr → Prop) (G : Hp → Prop) : Prop where
  inJ : J I
  move : ∀ {i h η pr h' η' pr'}, St i h η pr → Mono pr η h η' pr' h' → (∀ b, J b → ∀ o, h.get? b = some o → h'.get? b = some o) → St i h' η' pr'
  nofr : ∀ {i h η pr b}, St i h η pr → J b → ∃ o, h.get? b = some o
  item : ∀ {i s η pr v} {QQ : Value → Shared → Prop} {E : Value → Shared → Prop}, (∀ b, J b → pr b) → Inv c η pr A s → G η → vs[i]? = some v → St i s.heap η pr →
    (∀ h' tk x, St (i + 1) h' η pr → (∀ b o, ¬ J b → s.heap.get? b = some o → h'.get? b = some o) → Rv c.P h' η pr v x → QQ x { s with heap := h', toks := tk }) →
    wpAny c.M A (pyNext (.ref I)) (fun r s₁ => match r with | some x => wpAny c.M A (letOwnedTupleGo t (.ref I) x) (fun _ s₂ => QQ x s₂) E s₁ | none => False) E s
  done : ∀ {s η pr} {QQ : Option Value → Shared → Prop} {E : Value → Shared → Prop}, Inv c η pr A s → G η → St vs.length s.heap η pr →
    (∀ h' tk, (∀ b o, ¬ J b → s.heap.get? b = some o → h'.get? b = some o) → QQ none { s with heap := h', toks := tk }) → wpAny c.M A (pyNext (.ref I)) QQ E s
  self : ∀ {i s η pr} {QQ : Value → Shared → Prop} {E : Value → Shared → Prop}, St i s.heap η pr → QQ (.ref I) s → wpAny c.M A (pyIter (.ref I)) QQ E s

/-- a value that is iterated for a target -/
noncomputable def SI (c : Cx) (d : Nat) (t : Expr) (v : V) (η : Hp) (vs : List V) : Prop :=
  ∀ A s pr x (QQ : Value → Shared → Prop) (E : Value → Shared → Prop), Ok d true A → Inv c η pr A s → Rv c.P s.heap η pr v x →
    (∀ h' tk J I St, Itr c A J I t vs St (fun _ => True) → (∀ b, J b → s.heap.get? b = none) → (∀ b, J b → ¬ isFr A b) → (∀ b o, s.heap.get? b = some o → h'.get? b = some o) → St 0 h' η (fun b => pr b ∨ J b) → QQ (.ref I) { s with heap := h', toks := tk }) →
    wpAny c.M A (pyIter x) QQ E s

/-- an expression that is iterated for a target -/
noncomputable def SJ (c : Cx) (d : Nat) (nm : List (Str × NameKind)) (σ : List (Option V)) (η : Hp) (it t : Expr) (K : (Hp → Prop) → List V → Hp → Prop) (X : Addr → Hp → Prop) : Prop :=
  ∀ A env s pr (QQ : Value → Shared → Prop) (E : Value → Shared → Prop), Ok d true A → Inv c η pr A s → FrameR c s.heap η pr nm env σ → (∀ r s', Exc c A noOwn pr η s.heap X r s' → E r s') →
    (∀ G vs η₁ s₁ h' tk J I St, K G vs η₁ → Inv c η₁ pr A s₁ → Step A noOwn η s.heap η₁ s₁.heap → Itr c A J I t vs St G → (∀ b, J b → s₁.heap.get? b = none) → (∀ b, J b → ¬ isFr A b) → (∀ b o, s₁.heap.get? b = some o → h'.get? b = some o) → St 0 h' η₁ (fun b => pr b ∨ J b) → QQ (.ref I) { s₁ with heap := h', toks := tk }) →
    wpAny c.M A (eval it env) (fun y s₁ => wpAny c.M A (pyIter y) QQ E s₁) E s
theorem SJ.of {c : Cx} {d : Nat} {nm : List (Str × NameKind)} {σ : List (Option V)} {η : Hp} {it t : Expr} {K : (Hp → Prop) → List V → Hp → Prop} {X : Addr → Hp → Prop} (p : SE c d true nm σ η it (fun v η₁ => ∃ vs, SI c d t v η₁ vs ∧ K (fun _ => True) vs η₁) X) : SJ c d nm σ η it t K X := by
  intro A env s pr QQ E o I F hE hQ
  refine wpAny_mono (p A env s pr o I F) (fun y s₁ hq => ?_) fun r s' e => hE r s' e
  obtain ⟨v, η₁, ⟨vs, si, k⟩, I₁, rv, st⟩ := hq
  exact si A s₁ pr y QQ E o I₁ rv fun h' tk J I₀ St itr hJ hJf keep st0 => hQ _ vs η₁ s₁ h' tk J I₀ St k I₁ st itr hJ hJf keep st0

noncomputable def ownsTuples (n : String) : Bool := ["enumerate", "zip", "dict_itemiterator", "dict_reverseitemiterator", "odict_iterator", "itertools.zip_longest", "itertools.pairwise"].contains n

section
variable {c : Cx} {A : Around} {J pr : Pr} {η η' : Hp} {s : Shared} {d : Nat} {hd : Bool} {nm : List (Str × NameKind)} {σ : List (Option V)} {env : Env} {I₀ : Addr} {vs : List V} {St : Nat → Heap → Hp → Pr → Prop}
  {Q R : V → Hp → Prop} {B : Bool → Hp → Prop} {X : Addr → Hp → Prop} {v w : V} {x : Str} {pos : Pos} {N : List (Option V) → Hp → Prop} {rest : List Stmt} {t : Expr}

theorem letgo_none {E : Value → Shared → Prop} {QQ : Unit → Shared → Prop} {I : Addr} {y : Value} {o : Obj} {n : String} {fs : Array Value} (ho : s.heap.get? I = some o) (hc : o.cls = .type n) (hd : o.data = .fields fs) (hn : ownsTuples n = false) (q : QQ () s) :
    wpAny c.M A (letOwnedTupleGo t (.ref I) y) QQ E s := by
  unfold letOwnedTupleGo
  have fin : wpAny c.M A (do
      let (.ref r, .ref a) := ((.ref I, y) : Value × Value) | return
      let o ← load r
      match o.cls, o.data with
      | .type n, .fields vs =>
        if ["enumerate", "zip", "dict_itemiterator", "dict_reverseitemiterator", "odict_iterator", "itertools.zip_longest", "itertools.pairwise"].contains n && vs[0]? == some (rawInt a) then
          rule "for.unpacks-the-owned-tuple"
          updateField r 0 .none
      | _, _ => pure ()) QQ E s := by
    cases y with
    | ref a =>
      refine wpAny_bind (wpAny_load ho ?_)
      rw [hc, hd]
      dsimp only
      have : (["enumerate", "zip", "dict_itemiterator", "dict_reverseitemiterator", "odict_iterator", "itertools.zip_longest", "itertools.pairwise"].contains n) = false := hn
      rw [this, Bool.false_and]
      exact wpAny_pure q
    | _ => exact wpAny_pure q
  cases t <;> first | exact wpAny_pure q | exact fin

/-- an iterator of the library's over a frozen source -/
theorem itr_walks {fp : List Addr} {n : Nat} {P : Nat → Value → Prop} {S₀ : Nat → Heap → Prop} {K : Nat → Heap → Hp → Pr → Prop} {cls : String} (W : Walks c.prog c.w A I₀ fp [I₀] n P S₀)
    (hn : vs.length = n) (hcls : ownsTuples cls = false)
    (hS : ∀ {i h}, S₀ i h → ∃ o fs, h.get? I₀ = some o ∧ o.cls = .type cls ∧ o.data = .fields fs)
    (hK : ∀ {h η pr h' η' pr'}, K 0 h η pr → Mono pr η h η' pr' h' → K 0 h' η' pr')
    (hfp : ∀ {h η pr b}, K 0 h η pr → b ∈ fp → b = I₀ ∨ ((∃ o, h.get? b = some o) ∧ η b = none ∧ ¬ pr b))
    (hP : ∀ {i y h η pr v}, K 0 h η pr → P i y → vs[i]? = some v → Rv c.P h η pr v y) : Itr c A (fun b => b = I₀) I₀ t vs (fun i h η pr => S₀ i h ∧ K 0 h η pr) (fun _ => True) where
  inJ := rfl
  move := fun {i h η pr h' η' pr'} st m k => by
    refine ⟨W.frame i h h' st.1 fun b hb o e => ?_, hK st.2 m⟩
    rcases hfp st.2 hb with rfl | ⟨_, q1, q2⟩
    · exact k _ rfl o e
    · exact m.same b o e q1 q2
  nofr := fun {i h η pr b} st e => by cases e; obtain ⟨o, _, q, _⟩ := hS st.1; exact ⟨o, q⟩
  item := fun {i s η pr v QQ E} hJ _ _ hv st hQ => by
    have hi : i < n := by rw [← hn]; exact (List.getElem?_eq_some_iff.mp hv).1
    refine W.item i s _ E hi st.1 fun y h' tk hp st' k => ?_
    obtain ⟨o, fs, e1, e2, e3⟩ := hS st'
    refine letgo_none e1 e2 e3 hcls ?_
    have hk : ∀ b ob, ¬ b = I₀ → s.heap.get? b = some ob → h'.get? b = some ob := fun b ob nb e => k b ob (by simpa using nb) e
    have m : Mono pr η s.heap η pr h' := ⟨fun b ob e _ p => hk b ob (fun q => p (hJ b q)) e, fun _ e => e, fun b _ _ n p => ⟨n, p⟩⟩
    exact hQ h' tk y ⟨st', hK st.2 m⟩ hk (hP (hK st.2 m) hp hv)
  done := fun {s η pr QQ E} _ _ st hQ => W.done s QQ E (hn ▸ st.1) fun h' tk k => hQ h' tk fun b ob nb e => k b ob (by simpa using nb) e
  self := fun {i s η pr QQ E} st q => W.self i s QQ E st.1 q

theorem fresh_none (s : Shared) : s.heap.get? s.heap.objs.size = none := by
  cases q : s.heap.get? s.heap.objs.size with
  | none => rfl
  | some o => exact absurd (Heap.lt_size q) (Nat.lt_irrefl _)
theorem fresh_frame (I : Inv c η pr A s) : ∀ b, b = s.heap.objs.size → ¬ isFr A b := fun b e f => by
  subst e
  obtain ⟨o, e⟩ := Option.isSome_iff_exists.mp (I.privs _ (I.frs _ f)).1
  exact absurd (Heap.lt_size e) (Nat.lt_irrefl _)
theorem fresh_ne {a : Addr} {o : Obj} (e : s.heap.get? a = some o) : a ≠ s.heap.objs.size := Nat.ne_of_lt (Heap.lt_size e)

theorem SI.lst : SI c d t (.lst vs) η vs := by
  intro A s pr y QQ E o I r hQ
  unfold Rv at r; obtain ⟨a, xs, n, rfl, ho, ⟨n1, n2⟩, z, rs⟩ := r
  refine wpAny_pyIter_list ⟨_, ho, rfl, _, rfl⟩ ?_
  have keep : ∀ b ob, s.heap.get? b = some ob → (s.heap.push { cls := .type "list_iterator", data := .fields #[.ref a, .int 0 0] }).get? b = some ob := fun b ob e => Heap.get?_push_of_some _ e
  refine hQ _ s.toks (fun b => b = s.heap.objs.size) s.heap.objs.size _
    (itr_walks (P := fun i v => xs.toArray[i]? = some v) (K := fun _ h η pr => h.get? a = some { cls := .type "list", data := .seq xs.toArray n } ∧ (η a = none ∧ ¬ pr a) ∧ Rvs c.P h η pr vs xs) (cls := "list_iterator")
      (Walks.list (o.handled rfl) s.heap.objs.size a (fresh_ne ho) xs.toArray) (by simp [rvs_length rs]) (by decide +kernel) (fun st => by obtain ⟨⟨ob, e, q, w⟩, _⟩ := st; exact ⟨ob, _, e, q, w⟩) ?_ ?_ ?_)
    (fun b e => by cases e; exact fresh_none s) (fresh_frame I) keep ⟨⟨⟨_, Heap.get?_push_size _ rfl, rfl, rfl⟩, _, keep _ _ ho, rfl, _, rfl⟩, keep _ _ ho, ⟨n1, fun q => q.elim n2 (fresh_ne ho)⟩, ?_⟩
  · intro h η pr h' η' pr' st m
    exact ⟨m.same _ _ st.1 st.2.1.1 st.2.1.2, m.new _ _ st.1 st.2.1.1 st.2.1.2, Rvs.mono m _ st.2.2⟩
  · intro h η pr b st hb
    simp only [List.mem_cons, List.not_mem_nil, or_false] at hb
    rcases hb with rfl | rfl
    · exact .inl rfl
    · exact .inr ⟨⟨_, st.1⟩, st.2.1⟩
  · intro i y h η pr v st hp hv
    obtain ⟨y', hy, ry⟩ := rvs_get st.2.2 hv
    simp only [List.getElem?_toArray] at hp; rw [hy] at hp; cases hp; exact ry
  · refine Rvs.mono ⟨fun b ob e _ _ => keep b ob e, fun _ e => e, fun b ob e n p => ⟨n, fun q => q.elim p (fresh_ne e)⟩⟩ _ rs
end
end Mine

namespace Mine
open PySem PyProof.Rows PySem.W

/-- a target is assigned -/
noncomputable def SA (c : Cx) (d : Nat) (nm : List (Str × NameKind)) (σ : List (Option V)) (η : Hp) (t : Expr) (xs : List Str) (v : V) (K : List (Option V) → Prop) : Prop :=
  ∀ A env s pr y (QQ : Unit → Shared → Prop) (E : Value → Shared → Prop), Ok d true A → Inv c η pr A s → FrameR c s.heap η pr nm env σ → Rv c.P s.heap η pr v y →
    (∀ s' σ', K σ' → Inv c η pr A s' → FrameR c s'.heap η pr nm env σ' → Step A (ownX env xs) η s.heap η s'.heap → QQ () s') → wpAny c.M A (assign t env y) QQ E s

/-- a for over known items -/
noncomputable def ForL (c : Cx) (d : Nat) (nm : List (Str × NameKind)) (t : Expr) (xs : List Str) (body : List Stmt) (N : List (Option V) → Hp → Prop) (R : V → Hp → Prop) (X : Addr → Hp → Prop) : List V → List (Option V) → Hp → Prop
  | [], σ, η => N σ η
  | v :: vs, σ, η => SA c d nm σ η t xs v fun σ' => SS c d true nm σ' η body (fun σ'' η' => ForL c d nm t xs body N R X vs σ'' η') R X

/-- a for over known items, under a condition on the mutable objects -/
noncomputable def ForLG (c : Cx) (d : Nat) (nm : List (Str × NameKind)) (t : Expr) (xs : List Str) (body : List Stmt) (N : List (Option V) → Hp → Prop) (R : V → Hp → Prop) (X : Addr → Hp → Prop) (G : Hp → Prop) : List V → List (Option V) → Hp → Prop
  | [], σ, η => G η ∧ N σ η
  | v :: vs, σ, η => G η ∧ SA c d nm σ η t xs v fun σ' => SS c d true nm σ' η body (fun σ'' η' => ForLG c d nm t xs body N R X G vs σ'' η') R X
section
variable {c : Cx} {A : Around} {J pr pr' : Pr} {η η' η₁ : Hp} {s s' : Shared} {d : Nat} {hd : Bool} {nm : List (Str × NameKind)} {σ σ' : List (Option V)} {env : Env} {I₀ : Addr} {vs : List V} {St : Nat → Heap → Hp → Pr → Prop}
  {Q R : V → Hp → Prop} {B : Bool → Hp → Prop} {X : Addr → Hp → Prop} {v w : V} {x : Str} {pos : Pos} {N : List (Option V) → Hp → Prop} {rest : List Stmt} {t : Expr} {h h' h₀ : Heap} {xs : List Str}

theorem SA.mono {P P' : List (Option V) → Prop} (p : SA c d nm σ η t xs v P) (k : ∀ τ, P τ → P' τ) : SA c d nm σ η t xs v P' :=
  fun A env s pr y QQ E o I F r q => p A env s pr y QQ E o I F r fun s' σ' h => q s' σ' (k σ' h)
theorem ForL.toG {body : List Stmt} : ∀ {vs : List V} {σ : List (Option V)} {η : Hp}, ForL c d nm t xs body N R X vs σ η → ForLG c d nm t xs body N R X (fun _ => True) vs σ η
  | [], _, _, p => by unfold ForL at p; unfold ForLG; exact ⟨trivial, p⟩
  | v :: vs, _, _, p => by
    unfold ForL at p; unfold ForLG
    exact ⟨trivial, p.mono fun τ q => q.mono (fun _ _ q => ForL.toG q) (fun _ _ q => q) fun _ _ q => q⟩
theorem ForLG.cond {body : List Stmt} {G : Hp → Prop} : ∀ {vs : List V} {σ : List (Option V)} {η : Hp}, ForLG c d nm t xs body N R X G vs σ η → G η
  | [], _, _, p => by unfold ForLG at p; exact p.1
  | v :: vs, _, _, p => by unfold ForLG at p; exact p.1
theorem SA.name {K : List (Option V) → Prop} (p : Put nm σ x v σ') (k : K σ') : SA c d nm σ η (.Name x pos) [x] v K :=
  fun A env s pr y QQ E o I F r q => wpAny_assign_Name (store_var I F p r fun s' I' F' st _ => q s' σ' k I' F' st)

/-- more is private -/
theorem Inv.more (I : Inv c η pr A s) (k : ∀ b o, s.heap.get? b = some o → h'.get? b = some o) (hJ : ∀ b, J b → s.heap.get? b = none) (he : ∀ b, J b → ∃ o, h'.get? b = some o) (t : Nat) : Inv c η (fun b => pr b ∨ J b) A { s with heap := h', toks := t } := by
  have I' := I.grow k t
  have m : Mono pr η s.heap η (fun b => pr b ∨ J b) h' := ⟨fun b o e _ _ => k b o e, fun _ e => e, fun b o e n p => ⟨n, fun q => q.elim p fun j => by rw [hJ b j] at e; cases e⟩⟩
  refine ⟨I'.stays, fun a o q => (I.hrel a o q).mono m fun o' _ e => k a o' e, I'.apart, fun a p => ?_, I'.frames, fun b f => .inl (I.frs b f), I'.os, I'.gens⟩
  rcases p with p | p
  · exact I'.privs a p
  · obtain ⟨o, e⟩ := he a p
    refine ⟨by show (h'.get? a).isSome = true; rw [e]; rfl, ?_, ?_⟩
    · cases q : η a with
      | none => rfl
      | some mo => obtain ⟨ob, w, _⟩ := (I.hrel a mo q).nofields; rw [hJ a p] at w; cases w
    · cases q : c.base.get? a with
      | none => rfl
      | some ob => have := I.stays a ob q; rw [hJ a p] at this; cases this
theorem FrameR.more (F : FrameR c h η pr nm env σ) (k : ∀ b o, h.get? b = some o → h'.get? b = some o) (hJ : ∀ b, J b → h.get? b = none) : FrameR c h' η (fun b => pr b ∨ J b) nm env σ := by
  have F' := F.keeps (h' := h') k
  have m : Mono pr η h η (fun b => pr b ∨ J b) h' := ⟨fun b o e _ _ => k b o e, fun _ e => e, fun b o e n p => ⟨n, fun q => q.elim p fun j => by rw [hJ b j] at e; cases e⟩⟩
  refine ⟨F'.kind, F'.names, F'.nodup, F'.globals, F'.builtins, F'.ns, .inl F'.nsp, fun x a e => ⟨.inl (F'.cells x a e).1, (F'.cells x a e).2⟩, F'.inj, F'.has, fun x kd v a => ?_⟩
  obtain ⟨val, q, _⟩ := F'.vars x kd v a
  obtain ⟨val', q', r'⟩ := F.vars x kd v a
  refine ⟨val', ?_, Rv.mono m v r'⟩
  cases kd with
  | «local» => obtain ⟨m1, q1, q2⟩ := q'; exact ⟨m1, q1.keeps k, q2⟩
  | cell => obtain ⟨b, q1, q2⟩ := q'; exact ⟨b, q1, q2.keeps k⟩
  | free => obtain ⟨b, q1, q2⟩ := q'; exact ⟨b, q1, q2.keeps k⟩
  | globalImplicit => exact q'
  | globalExplicit => exact q'
/-- less is private -/
theorem Mono.down (k : ∀ b, pr b → pr' b) : Mono pr' η h η pr h := ⟨fun _ _ e _ _ => e, fun _ e => e, fun b _ _ n p => ⟨n, fun q => p (k b q)⟩⟩
theorem Inv.less (I : Inv c η pr' A s) (k : ∀ b, pr b → pr' b) (f : ∀ b, isFr A b → pr b) : Inv c η pr A s :=
  ⟨I.stays, fun a o q => (I.hrel a o q).mono (Mono.down k) fun _ _ e => e, I.apart, fun a p => I.privs a (k a p), I.frames, f, I.os, I.gens⟩
theorem FrameR.down {σ₀ : List (Option V)} {η₀ : Hp} (F₀ : FrameR c h₀ η₀ pr nm env σ₀) (F : FrameR c h η pr' nm env σ) (k : ∀ b, pr b → pr' b) : FrameR c h η pr nm env σ :=
  ⟨F.kind, F.names, F.nodup, F.globals, F.builtins, F.ns, F₀.nsp, fun x a e => ⟨(F₀.cells x a e).1, (F.cells x a e).2⟩, F.inj, F.has, fun x kd v a => let ⟨val, q, r⟩ := F.vars x kd v a; ⟨val, q, Rv.mono (Mono.down k) v r⟩⟩

/-- the iterator alone is written -/
theorem Inv.wr (I : Inv c η pr A s) (k : ∀ b o, ¬ J b → s.heap.get? b = some o → h'.get? b = some o) (hJ : ∀ b, J b → pr b) (he : ∀ b, J b → ∃ o, h'.get? b = some o) (hf : ∀ b, J b → ¬ isFr A b) (t : Nat) : Inv c η pr A { s with heap := h', toks := t } := by
  have m : Mono pr η s.heap η pr h' := ⟨fun b o e _ p => k b o (fun j => p (hJ b j)) e, fun _ e => e, fun b o e n p => ⟨n, p⟩⟩
  obtain ⟨fr, e, ff⟩ := I.frames
  refine ⟨fun b o q => k b o (fun j => ?_) (I.stays b o q), fun a o q => (I.hrel a o q).mono m fun o' _ e => k a o' (fun j => ?_) e, I.apart, fun a p => ?_, ⟨fr, e, ?_⟩, I.frs, I.os, I.gens⟩
  · have := (I.privs b (hJ b j)).2.2; rw [q] at this; cases this
  · have := (I.privs a (hJ a j)).2.1; rw [q] at this; cases this
  · obtain ⟨q1, q2, q3⟩ := I.privs a p
    refine ⟨?_, q2, q3⟩
    show (h'.get? a).isSome = true
    by_cases j : J a
    · obtain ⟨o, w⟩ := he a j; rw [w]; rfl
    · obtain ⟨o, w⟩ := Option.isSome_iff_exists.mp q1; rw [k a o j w]; rfl
  · have isF : ∀ x ∈ fr, ∀ L, x.frame = some L → isFr A L := fun x m L q => ⟨x, by rw [e]; exact m, q⟩
    clear e
    induction fr with
    | nil => trivial
    | cons x r ih =>
      obtain ⟨q, ⟨L, o, q1, q2, q3, q4⟩, r'⟩ := ff
      exact ⟨q, ⟨L, o, q1, q2, k L o (fun j => hf L j (isF x (.head _) L q1)) q3, q4⟩, ih r' fun y m => isF y (.tail _ m)⟩
theorem FrameR.wr (F : FrameR c h η pr nm env σ) (k : ∀ b o, ¬ J b → h.get? b = some o → h'.get? b = some o) (hJ : ∀ b, J b → pr b) (hn : ∀ b, J b → ¬ ownOf env b) : FrameR c h' η pr nm env σ := by
  have m : Mono pr η h η pr h' := ⟨fun b o e _ p => k b o (fun j => p (hJ b j)) e, fun _ e => e, fun b o e n p => ⟨n, p⟩⟩
  have kN : ∀ mm, h.Ns env.locals mm → h'.Ns env.locals mm := fun mm q => ns_upto q fun o e => ⟨o.slots, k _ o (fun j => hn _ j (.inl rfl)) e⟩
  have kC : ∀ y a v, env.cells.lookup y = some a → h.IsCell a v → h'.IsCell a v := fun y a v e q => isCell_upto q fun o e' => ⟨o.slots, k _ o (fun j => hn _ j (.inr ⟨y, e⟩)) e'⟩
  refine ⟨F.kind, F.names, F.nodup, F.globals, F.builtins, let ⟨mm, q⟩ := F.ns; ⟨mm, kN mm q⟩, F.nsp, fun x a e => ⟨(F.cells x a e).1, let ⟨v, q⟩ := (F.cells x a e).2; ⟨v, kC x a v e q⟩⟩, F.inj, F.has, fun x kd v a => ?_⟩
  obtain ⟨val, q, r⟩ := F.vars x kd v a
  refine ⟨val, ?_, Rv.mono m v r⟩
  cases kd with
  | «local» => obtain ⟨m1, q1, q2⟩ := q; exact ⟨m1, kN _ q1, q2⟩
  | cell => obtain ⟨b, q1, q2⟩ := q; exact ⟨b, q1, kC x b _ q1 q2⟩
  | free => obtain ⟨b, q1, q2⟩ := q; exact ⟨b, q1, kC x b _ q1 q2⟩
  | globalImplicit => exact q
  | globalExplicit => exact q
theorem Step.wr (k : ∀ b o, ¬ J b → h.get? b = some o → h'.get? b = some o) (he : ∀ b, J b → ∃ o, h'.get? b = some o) {own : Pr} (hJ : ∀ b, J b → own b) : Step A own η h η h' := by
  refine ⟨fun b o e _ n => ⟨o.slots, k b o (fun j => n (hJ b j)) e⟩, fun b o e _ n _ => k b o (fun j => n (hJ b j)) e, fun b o e => ?_, fun _ e => e, fun b e e' => by rw [e] at e'; cases e'⟩
  by_cases j : J b
  · obtain ⟨o', w⟩ := he b j; rw [w]; rfl
  · rw [k b o j e]; rfl
theorem Step.drop {own : Pr} (st : Step A (fun b => own b ∨ J b) η h η' h') (hJ : ∀ b, J b → h.get? b = Option.none) : Step A own η h η' h' := by
  have n : ∀ b o, h.get? b = some o → ¬ own b → ¬ (own b ∨ J b) := fun b o e n q => q.elim n fun j => by rw [hJ b j] at e; cases e
  exact ⟨fun b o e z w => st.upto b o e z (n b o e w), fun b o e z w => st.same b o e z (n b o e w), st.there, st.dom, st.new⟩

theorem Step.then_keep {own : Pr} {h₁ h₂ : Heap} (st : Step A own η h η' h₁) (k : ∀ b o, ¬ J b → h₁.get? b = some o → h₂.get? b = some o) (hJ : ∀ b, J b → h.get? b = Option.none) : Step A own η h η' h₂ := by
  have n : ∀ b o, h.get? b = some o → ¬ J b := fun b o e j => by rw [hJ b j] at e; cases e
  refine ⟨fun b o e z w => ?_, fun b o e z w f => k b o (n b o e) (st.same b o e z w f), fun b o e => ?_, st.dom, st.new⟩
  · obtain ⟨sl, e'⟩ := st.upto b o e z w; exact ⟨sl, k b _ (n b o e) e'⟩
  · obtain ⟨o', e'⟩ := Option.isSome_iff_exists.mp (st.there b o e); rw [k b o' (n b o e) e']; rfl
/-- the iterator is left behind -/
theorem Inv.end (I : Inv c η (fun b => pr b ∨ J b) A s) (k : ∀ b o, ¬ J b → s.heap.get? b = some o → h'.get? b = some o) (hd : ∀ b, pr b → ¬ J b) (f : ∀ b, isFr A b → pr b) (t : Nat) : Inv c η pr A { s with heap := h', toks := t } := by
  have m : Mono (fun b => pr b ∨ J b) η s.heap η pr h' := ⟨fun b o e _ p => k b o (fun j => p (.inr j)) e, fun _ e => e, fun b o e n p => ⟨n, fun q => p (.inl q)⟩⟩
  obtain ⟨fr, e, ff⟩ := I.frames
  refine ⟨fun b o q => k b o (fun j => ?_) (I.stays b o q), fun a o q => (I.hrel a o q).mono m fun o' _ e => k a o' (fun j => ?_) e, I.apart, fun a p => ?_, ⟨fr, e, ?_⟩, f, I.os, I.gens⟩
  · have := (I.privs b (.inr j)).2.2; rw [q] at this; cases this
  · have := (I.privs a (.inr j)).2.1; rw [q] at this; cases this
  · obtain ⟨q1, q2, q3⟩ := I.privs a (.inl p)
    obtain ⟨o, w⟩ := Option.isSome_iff_exists.mp q1
    exact ⟨by show (h'.get? a).isSome = true; rw [k a o (hd a p) w]; rfl, q2, q3⟩
  · have isF : ∀ x ∈ fr, ∀ L, x.frame = some L → isFr A L := fun x m L q => ⟨x, by rw [e]; exact m, q⟩
    clear e
    induction fr with
    | nil => trivial
    | cons x r ih =>
      obtain ⟨q, ⟨L, o, q1, q2, q3, q4⟩, r'⟩ := ff
      exact ⟨q, ⟨L, o, q1, q2, k L o (hd L (f L (isF x (.head _) L q1))) q3, q4⟩, ih r' fun y m => isF y (.tail _ m)⟩

/-- the exception's note is written as it stands -/
theorem land_same {M : Model} {e : Addr} {cls a0 : Value} {fl : Option Addr} {QQ : Unit → Shared → Prop} {E : Value → Shared → Prop} (t : s.heap.TracedAtW h₀ e cls a0 (fl.elim Value.none fun f => rawInt f))
    (h : ∀ h', (∀ b o, s.heap.get? b = some o → h'.get? b = some o) → QQ () { s with heap := h' }) : wpAny M A (setFlight (.ref e) fl) QQ E s := by
  obtain ⟨oe, vs, T, oT, ts, he, hcls, hdt, h1, hnT, hTe, hT, hdT, h3⟩ := t
  have hsz3 : 3 < ts.size := (Array.getElem?_eq_some_iff.mp h3).1
  unfold setFlight
  refine wpAny_bind (wpAny_field he hdt h1 ?_)
  rw [if_pos (show (Value.ref T != Value.none) = true from by simp)]
  refine wpAny_setField hT hdT hsz3 (h _ fun b o q => ?_)
  by_cases e : b = T
  · subst e
    rw [hT] at q; cases q
    have hd3 := Obj.data_mapFields hdT (·.setIfInBounds 3 (fl.elim Value.none fun f => rawInt f))
    rw [Heap.get?_update_self _ hT (Obj.isFreed_of_fields hd3)]
    congr 1
    obtain ⟨k1, k2, k3, k4⟩ := oT
    dsimp only at hdT
    subst hdT
    have : ts.setIfInBounds 3 (fl.elim Value.none fun f => rawInt f) = ts := by
      apply Array.ext_getElem?
      intro i
      by_cases q : 3 = i
      · subst q; rw [Array.getElem?_setIfInBounds_self_of_lt hsz3]; exact h3.symm
      · rw [Array.getElem?_setIfInBounds_ne q]
    show (⟨k1, k2, .fields (ts.setIfInBounds 3 (fl.elim Value.none fun f => rawInt f)), k4⟩ : Obj) = _
    rw [this]
  · rw [Heap.get?_update_other _ _ (Ne.symm e)]; exact q

/-- a raise inside a loop -/
theorem loop_raise {outer : List Env} {r : Value} {s₅ : Shared} {η₃ : Hp} (I₅ : Inv c η₃ pr' A s₅) (h1 : A.frames = some (env :: outer)) (h2 : env.frame = some env.locals) (hx : Exc c A (ownOf env) pr' η₃ s₅.heap X r s')
    (hk : ∀ {η' : Hp} {h : Heap}, Step A (ownOf env) η₃ s₅.heap η' h → Step A (ownOf env) η s.heap η' h) (hsub : ∀ b, pr b → pr' b) (hf : ∀ b, isFr A b → pr b) :
    notedBy c.M A env (fun e s' => cameBackBy c.M A env (Exc c A (ownOf env) pr η s.heap X) e s') r s' := by
  obtain ⟨ea, C, η', rfl, x, I', st', hnew, thr⟩ := hx
  have hp : ∀ b, pr' b → (s₅.heap.get? b).isSome = true := fun b p => (I₅.privs b p).1
  refine note_thr I' h1 h2 thr hnew hp I₅.stays st'.there fun h₁ a0 nw => ?_
  obtain ⟨tr, I₁, kp⟩ := leave_fin I' h1 h2 thr hnew hp I₅.stays st'.there nw
  have st₁ : Step A (ownOf env) η₃ s₅.heap η' h₁ := by
    refine ⟨fun b ob e n w => ?_, fun b ob e n w f => ?_, fun b ob e => ?_, st'.dom, st'.new⟩
    · obtain ⟨sl, e'⟩ := st'.upto b ob e n w
      obtain ⟨⟨sl', e''⟩, _⟩ := kp b _ e' (.inl (by rw [e]; rfl))
      exact ⟨sl', e''⟩
    · exact (kp b _ (st'.same b ob e n w f) (.inl (by rw [e]; rfl))).2 f
    · obtain ⟨ob', e'⟩ := Option.isSome_iff_exists.mp (st'.there b ob e)
      obtain ⟨⟨sl', e''⟩, _⟩ := kp b _ e' (.inl (by rw [e]; rfl))
      rw [e'']; rfl
  obtain ⟨oe, vs, T, oT, ts, t1, ⟨t2, t2'⟩, t3, t4, t5, t6, t7, t8, t9⟩ := id tr
  unfold cameBackBy
  refine wpAny_bind (wpAny_field (s := { s' with heap := h₁ }) t1 t3 t4 ?_)
  rw [if_neg (show ¬ ((Value.ref T == Value.none) = true) from by simp)]
  rw [h2]
  refine land_same (s := { s' with heap := h₁ }) (h₀ := s₅.heap) (cls := .ref C) (a0 := a0) (fl := some env.locals) tr fun h₂ k₂ => ?_
  have below : ∀ b, exPr pr ea h₂ b → exPr pr' ea h₁ b := fun b q => by
    rcases exPr_fields (k₂ _ _ t1) t3 q with q | q | q
    · exact .inl (hsub b q)
    · exact .inr (.inl q)
    · exact .inr (.inr ⟨oe, vs, t1, t3, q⟩)
  have stA := hk (st₁.trans (Step.of_keeps k₂))
  refine ⟨ea, C, η', rfl, x, (I₁.grow k₂ s'.toks).less below fun b f => .inl (hf b f), stA, ?_, .inr ⟨a0, rawInt env.locals, ⟨oe, vs, T, oT, ts, k₂ _ _ t1, ⟨t2, t2'⟩, t3, t4, ?_, t6, k₂ _ _ t7, t8, t9⟩, .inr ⟨env, outer, env.locals, h1, h2, rfl⟩⟩⟩
  · cases w : s.heap.get? ea with
    | none => rfl
    | some ob => have := (hk (Step.refl A (ownOf env) η₃ s₅.heap)).there ea ob w; rw [hnew] at this; cases this
  · cases w : s.heap.get? T with
    | none => rfl
    | some ob => have := (hk (Step.refl A (ownOf env) η₃ s₅.heap)).there T ob w; rw [t5] at this; cases this

theorem SX.forJ {it : Expr} {body : List Stmt} (p : SJ c d nm σ η it t (fun G vs η₁ => ForLG c d nm t xs body N R X G vs σ η₁) X)
    (hs : ∀ env x, foldedSetIterable it env x = pure x := by intro _ _; with_unfolding_all rfl) : SX c d true nm σ η (.For t it body [] pos) N R X := by
  intro A env s pr outer o I F h1 h2
  refine wpAny_For (p A env s pr _ _ o I F (fun _ _ e => e.weak fun _ q => q.elim) fun G vs η₁ s₁ h₂ tk J I₀ St fl I₁ st₁ itr hJ hJf keep st0 => ?_) (hs env)
  have F₁ := F.step I st₁
  let pr' : Pr := fun b => pr b ∨ J b
  have hJ' : ∀ b, J b → pr' b := fun b j => .inr j
  have notOwn : ∀ b, J b → ¬ ownOf env b := fun b j q => by
    have : (s₁.heap.get? b).isSome = true := by
      rcases q with q | ⟨x, q⟩
      · rw [q]; exact (I₁.privs _ F₁.nsp).1
      · exact (I₁.privs _ (F₁.cells x b q).1).1
    rw [hJ b j] at this; cases this
  have I₂ : Inv c η₁ pr' A { s₁ with heap := h₂, toks := tk } := I₁.more keep hJ (fun b j => itr.nofr st0 j) tk
  have F₂ : FrameR c h₂ η₁ pr' nm env σ := F₁.more keep hJ
  have baseH : ∀ {η' : Hp} {h : Heap}, Step A (fun b => ownOf env b ∨ J b) η₁ h₂ η' h → Step A (ownOf env) η s.heap η' h := fun {η' h} st => by
    have q : Step A (fun b => ownOf env b ∨ J b) η₁ s₁.heap η' h := (Step.of_keeps keep).trans st
    exact st₁.own.trans (q.drop hJ)
  have base : ∀ {η' : Hp} {s' : Shared}, Step A (fun b => ownOf env b ∨ J b) η₁ h₂ η' s'.heap → Step A (ownOf env) η s.heap η' s'.heap := baseH
  refine codeAny_forLoop_any (fun m s' => ∃ i σ' η', m = vs.length + 1 - i ∧ i ≤ vs.length ∧ ForLG c d nm t xs body N R X G (vs.drop i) σ' η' ∧ Inv c η' pr' A s' ∧ FrameR c s'.heap η' pr' nm env σ' ∧ St i s'.heap η' pr' ∧
      Step A (fun b => ownOf env b ∨ J b) η₁ h₂ η' s'.heap) ?_ (vs.length + 1) ⟨0, σ, η₁, rfl, Nat.zero_le _, fl, I₂, F₂, st0, Step.refl ..⟩
  rintro m s₃ ⟨i, σ₃, η₃, rfl, hi, fl₃, I₃, F₃, st₃, stp₃⟩
  by_cases hlt : i < vs.length
  · have hv : vs[i]? = some vs[i] := List.getElem?_eq_getElem hlt
    have hdrop : vs.drop i = vs[i] :: vs.drop (i + 1) := List.drop_eq_getElem_cons hlt
    rw [hdrop] at fl₃
    refine wpAny_mono (itr.item (E := notedBy c.M A env fun e s' => cameBackBy c.M A env (Exc c A (ownOf env) pr η s.heap X) e s') (QQ := fun x s₄ => wpAny c.M A (PySem.assign t env x) (fun _ s₅ => wpAny c.M A (execs body env) (fun f s₆ => match f with
        | .next | .cont => ∃ m, m < vs.length + 1 - i ∧ ∃ i σ' η', m = vs.length + 1 - i ∧ i ≤ vs.length ∧ ForLG c d nm t xs body N R X G (vs.drop i) σ' η' ∧ Inv c η' pr' A s₆ ∧ FrameR c s₆.heap η' pr' nm env σ' ∧ St i s₆.heap η' pr' ∧ Step A (fun b => ownOf env b ∨ J b) η₁ h₂ η' s₆.heap
        | .brk => FPost c A pr nm env η s.heap N R .next s₆
        | .ret v => FPost c A pr nm env η s.heap N R (.ret v) s₆) (notedBy c.M A env fun e s' => cameBackBy c.M A env (Exc c A (ownOf env) pr η s.heap X) e s') s₅) (notedBy c.M A env fun e s' => cameBackBy c.M A env (Exc c A (ownOf env) pr η s.heap X) e s') s₄) hJ' I₃ fl₃.cond hv st₃ fun h₄ tk₄ x st₄ k₄ r₄ => ?_) (fun r s₄ q => ?_) fun _ _ e => e
    · have I₄ := I₃.wr k₄ hJ' (fun b j => itr.nofr st₄ j) hJf tk₄
      have F₄ := F₃.wr k₄ hJ' notOwn
      have stp₄ : Step A (fun b => ownOf env b ∨ J b) η₁ h₂ η₃ h₄ := stp₃.trans (Step.wr k₄ (fun b j => itr.nofr st₄ j) fun b j => .inr j)
      refine fl₃.2 A env _ pr' x _ _ o I₄ F₄ r₄ fun s₅ σ₅ ss₅ I₅ F₅ stp₅ => ?_
      have st₅ : St (i + 1) s₅.heap η₃ pr' := itr.move st₄ (stp₅.toMono (fun b q => by
          rcases ownX_of b q with q | ⟨x, q⟩
          · rw [q]; exact F₄.nsp
          · exact (F₄.cells x b q).1) I₄.frs) fun b j ob e => stp₅.same b ob e (I₄.privs b (hJ' b j)).2.1 (fun q => notOwn b j (ownX_of b q)) (hJf b j)
      refine wpAny_mono (ss₅ A env s₅ pr' outer o I₅ F₅ h1 h2) (fun f s₆ q₆ => ?_) fun _ _ e => loop_raise I₅ h1 h2 e (fun {η' h} st => baseH ((stp₄.trans (stp₅.weak fun b q => .inl (ownX_of b q))).trans (st.weak fun b q => .inl q))) (fun b q => .inl q) I.frs
      cases f with
      | next =>
        obtain ⟨σ₆, η₆, fl₆, I₆, F₆, stp₆⟩ := q₆
        refine ⟨vs.length + 1 - (i + 1), by omega, i + 1, σ₆, η₆, rfl, hlt, fl₆, I₆, F₆, ?_, (stp₄.trans (stp₅.weak fun b q => .inl (ownX_of b q))).trans (stp₆.weak fun b q => .inl q)⟩
        refine itr.move st₅ (stp₆.toMono (fun b q => by
          rcases q with q | ⟨x, q⟩
          · rw [q]; exact F₅.nsp
          · exact (F₅.cells x b q).1) I₅.frs) fun b j ob e => stp₆.same b ob e (I₅.privs b (hJ' b j)).2.1 (notOwn b j) (hJf b j)
      | ret r =>
        obtain ⟨w, η₆, q₆, I₆, r₆, stp₆⟩ := q₆
        exact ⟨w, η₆, q₆, I₆.less (fun b q => .inl q) I.frs, Rv.mono (Mono.down fun b q => .inl q) w r₆, base ((stp₄.trans (stp₅.weak fun b q => .inl (ownX_of b q))).trans (stp₆.weak fun b q => .inl q))⟩
      | brk => exact q₆.elim
      | cont => exact q₆.elim
    · cases r with
      | none => exact q.elim
      | some x => exact q
  · have hin : i = vs.length := by omega
    subst hin
    rw [List.drop_length] at fl₃
    refine itr.done (η := η₃) (pr := pr') I₃ fl₃.cond st₃ fun h₄ tk₄ k₄ => ?_
    refine wpAny_execs_nil ⟨σ₃, η₃, fl₃.2, ?_, ?_, ?_⟩
    · exact I₃.end k₄ (fun b q j => by have := (I₁.privs b q).1; rw [hJ b j] at this; cases this) I.frs tk₄
    · exact F.down (F₃.wr k₄ hJ' notOwn) fun b q => .inl q
    · exact (base stp₃).then_keep k₄ fun b j => by
        cases q : s.heap.get? b with
        | none => rfl
        | some ob => have := st₁.there b ob q; rw [hJ b j] at this; cases this
theorem SX.for {it : Expr} {body : List Stmt} (p : SE c d true nm σ η it (fun v η₁ => ∃ vs, SI c d t v η₁ vs ∧ ForL c d nm t xs body N R X vs σ η₁) X)
    (hs : ∀ env x, foldedSetIterable it env x = pure x := by intro _ _; with_unfolding_all rfl) : SX c d true nm σ η (.For t it body [] pos) N R X := SX.forJ (SJ.of (p.mono (fun _ _ ⟨vs, a, b⟩ => ⟨vs, a, b.toG⟩) fun _ _ q => q)) hs
theorem SS.for {it : Expr} {body : List Stmt} (xs : List Str) (p : SE c d true nm σ η it (fun v η₁ => ∃ vs, SI c d t v η₁ vs ∧ ForL c d nm t xs body (fun σ' η' => SS c d true nm σ' η' rest N R X) R X vs σ η₁) X)
    (hs : ∀ env x, foldedSetIterable it env x = pure x := by intro _ _; with_unfolding_all rfl) : SS c d true nm σ η (.For t it body [] pos :: rest) N R X := SS.cons (SX.for p hs)
theorem SS.forJ {it : Expr} {body : List Stmt} (xs : List Str) (p : SJ c d nm σ η it t (fun G vs η₁ => ForLG c d nm t xs body (fun σ' η' => SS c d true nm σ' η' rest N R X) R X G vs σ η₁) X)
    (hs : ∀ env x, foldedSetIterable it env x = pure x := by intro _ _; with_unfolding_all rfl) : SS c d true nm σ η (.For t it body [] pos :: rest) N R X := SS.cons (SX.forJ p hs)
end
end Mine

namespace Mine
open PySem PyProof.Rows PySem.W

/-- an own class of exceptions below ValueError -/
noncomputable def bmV : List Value := [.type "ValueError", .type "Exception", .type "BaseException", .type "object"]

theorem exc_obj {K : Frag} {h : Heap} {C : Addr} {bmB : List Value} {newId : String} (X : K.In h) (q : excIn K C bmB newId = true) :
    ∃ bm N nm qn bs hdct sn sub ab col dd k0 k1 k2 k3 k5 mN, h.get? C = some (excClassObj nm qn C N bs bm hdct sn sub ab col dd k0 k1 k2 k3 k5 newId) ∧ h.Ns N mN ∧ mN "__init__" = none ∧ OwnTail h bmB bm := by
  unfold excIn at q
  split at q
  case h_2 => cases q
  rename_i dd cd sl ho
  split at q
  case h_2 => cases q
  rename_i C' bm k0 k1 k2 k3 n k5 hm hs
  simp only [Bool.and_eq_true, beq_iff_eq, Bool.not_eq_true'] at q
  obtain ⟨⟨⟨⟨⟨rfl, rfl⟩, hdel⟩, ht⟩, hok⟩, hni⟩ := q
  have e : (⟨.type "type", dd, .cls cd, sl⟩ : Obj) = excClassObj cd.name cd.qualname C' cd.ns cd.bases bm cd.hasDict cd.slotNames cd.subclasses cd.abstract cd.collection dd k0 k1 k2 k3 k5 n := by
    unfold excClassObj
    obtain ⟨l⟩ := sl
    rw [show l = _ from hs]
    rw [← hm, ← hdel]
  exact ⟨bm, cd.ns, _, _, _, _, _, _, _, _, dd, k0, k1, k2, k3, k5, _, e ▸ X _ _ ho, .of_isNs (isNs_of_in X hok), nsMap_none_of_in X hok hni, tail_of_in X ht⟩

section
variable {c : Cx} {A : Around} {pr : Pr} {η η' η₁ : Hp} {s s' : Shared} {d : Nat} {hd : Bool} {nm : List (Str × NameKind)} {σ σ' : List (Option V)} {env : Env} {outer : List Env}
  {Q R R' : V → Hp → Prop} {B : Bool → Hp → Prop} {X X' : Addr → Hp → Prop} {N N' : List (Option V) → Hp → Prop} {v w : V} {x : Str} {pos np cp : Pos} {h₀ h₁ h' : Heap} {rest : List Stmt}
  {K : Params → Frag} {gt bt : List (Str × Value)} {C : Addr}

theorem SX.raise (W : Wd c K gt bt) {es : List Expr} (m : (x, NameKind.globalImplicit) ∈ nm) (mg : (x, .ref C) ∈ gt) (hC : excIn (K c.P) C bmV "ValueError.__new__" = true)
    (p : SL c d true nm σ η es (fun vs η₁ => vs.length ≤ sizeLine ∧ X C η₁) X) (hs : es.any star? = false := by with_unfolding_all rfl) (hn : (x == ("__debug__" : Str)) = false := by decide +kernel) :
    SX c d true nm σ η (.Raise (some (.Call (.Name x np) es [] cp)) none pos) N R X := by
  intro A env s pr outer o I F h1 h2
  obtain ⟨bm, NN, cn, qn, bs, hdct, sn, sub, ab, col, dd, k0, k1, k2, k3, k5, mN, e1, e2, e3, e4⟩ := exc_obj W.kin hC
  refine wpAny_Raise_call_subU (C := C) (N := NN) (bm := bm) (nm := cn) (q := qn) (bs := bs) (hdct := hdct) (sn := sn) (sub := sub) (ab := ab) (col := col) (dd := dd) (k0 := k0) (k1 := k1) (k2 := k2) (k3 := k3) (k5 := k5) (mN := mN) (bmB := bmV)
    (newId := "ValueError.__new__") PySem.F.excBase_ValueError (by rfl) PySem.F.excBase_ValueError (e4.hasType rfl) (o.handled rfl) (noStar hs) e3 ?_
  refine wpAny_mono (SE.glob (Q := fun v η' => v = .glob (.ref C) ∧ η' = η) (X := X) m (W.g mg) ⟨rfl, rfl⟩ hn A env s pr o I F) (fun f s₁ hq => ?_) fun _ _ e => e.weak fun _ q => q.elim
  obtain ⟨v, η₁, ⟨rfl, e⟩, I₁, rv, st⟩ := hq
  subst e
  unfold Rv at rv; subst rv
  refine ⟨rfl, evalArgs_SL p o I₁ (F.step I st) hs (fun vs η₂ s₂ xs q I₂ r st₂ => ?_) fun _ _ e => (e.older st).weak fun _ q => q.elim⟩
  refine ⟨rfl, by rw [rvs_length r]; exact q.1, I₂.stays _ _ e1, e2.keeps I₂.stays, e4.keeps I₂.stays, fun h' e mk => ?_⟩
  obtain ⟨t, he, ht, ht'⟩ := mk.there
  have nofl : ∀ b, exPr pr e h' b → pr b ∨ b = e := fun b q => by
    rcases exPr_fields he rfl q with q | q | q
    · exact .inl q
    · exact .inr q
    · cases q
  have I₃ : Inv c η₂ (fun b => pr b ∨ b = e) A { s₂ with heap := h' } := I₂.more (J := fun b => b = e) mk.keeps (fun b q => q ▸ mk.new) (fun b q => ⟨_, q ▸ he⟩) s₂.toks
  refine ⟨e, C, η₂, rfl, q.2, I₃.less nofl fun b f => .inl (I.frs b f), ((st.trans st₂).trans (Step.of_keeps mk.keeps)).own, ?_, .inl ⟨_, _, _, he, rfl, rfl, rfl, rfl⟩⟩
  cases w : s.heap.get? e with
  | none => rfl
  | some ob =>
    have := (st.trans st₂).there e ob w
    rw [mk.new] at this; cases this
theorem SS.raise (W : Wd c K gt bt) {es : List Expr} (m : (x, NameKind.globalImplicit) ∈ nm) (mg : (x, .ref C) ∈ gt) (hC : excIn (K c.P) C bmV "ValueError.__new__" = true)
    (p : SL c d true nm σ η es (fun vs η₁ => vs.length ≤ sizeLine ∧ X C η₁) X) (hs : es.any star? = false := by with_unfolding_all rfl) (hn : (x == ("__debug__" : Str)) = false := by decide +kernel) :
    SS c d true nm σ η (.Raise (some (.Call (.Name x np) es [] cp)) none pos :: rest) N R X := SS.cons (SX.raise W m mg hC p hs hn)

theorem Inv.mark {hv : Option Value} (I : Inv c η pr A s) : Inv c η pr (A.mark hv) s := ⟨I.stays, I.hrel, I.apart, I.privs, I.frames, I.frs, I.os, I.gens⟩
theorem Inv.unmark {hv : Option Value} (I : Inv c η pr (A.mark hv) s) : Inv c η pr A s := ⟨I.stays, I.hrel, I.apart, I.privs, I.frames, I.frs, I.os, I.gens⟩
theorem Step.unmark {hv : Option Value} {own : Pr} (x : Step (A.mark hv) own η h₀ η' h') : Step A own η h₀ η' h' := ⟨x.upto, x.same, x.there, x.dom, x.new⟩
theorem Ok.mark {hv : Option Value} (o : Ok d hd A) : Ok d false (A.mark hv) := ⟨o.depth, o.units, (fun q => by cases q), o.guards⟩

/-- an exception's class is matched -/
noncomputable def catches (K : Frag) (C W : Addr) : Bool := typeIn K (.ref W) == some (.type "type") && (clsIn K W).isSome && mroIn K W (.type "BaseException") == some true && mroIn K C (.ref W) == some true
theorem exc_matches {M : Model} {K : Frag} {W C e : Addr} {o : Obj} {Q : Bool → Shared → Prop} {E : Value → Shared → Prop} (k : K.In s.heap) (q : catches K C W = true) (ho : s.heap.get? e = some o) (hc : o.cls = .ref C) (h : Q true s) :
    wpAny M A (excMatches (.ref e) (.ref W)) Q E s := by
  unfold catches at q
  simp only [Bool.and_eq_true, beq_iff_eq] at q
  obtain ⟨⟨⟨q1, q2⟩, q3⟩, q4⟩ := q
  have L1 : Looks M s.heap (isInstance (.ref W) (.type "tuple")) false := (looks_typeIn k q1).andThen (looks_subIn k (K := K) (t := .type "type") (by rfl))
  have L2 : Looks M s.heap (isType (.ref W)) true := by
    obtain ⟨cd, q2⟩ := Option.isSome_iff_exists.mp q2
    unfold clsIn at q2
    split at q2
    · rename_i c' d' cd' sl' ho
      intro A' Q' E' s' k' q
      unfold isType loadHead
      exact wpAny_bind (wpAny_loadPart (k' _ _ (k _ _ ho)) (wpAny_pure q))
    · cases q2
  have L3 : Looks M s.heap (typeOf (.ref e)) (.ref C) := hc ▸ (Looks.ld ho).andThen .now
  have L4 := looks_mroIn (M := M) k q3
  have L5 := looks_mroIn (M := M) k q4
  unfold excMatches
  refine wpAny_bind (L1.here ?_)
  simp only [Bool.false_eq_true, if_false]
  refine wpAny_bind (wpAny_pure ?_)
  simp only [List.forIn_cons, List.forIn_nil, bind_assoc, pure_bind]
  unfold isExcClass
  simp only [bind_assoc]
  refine wpAny_bind (L2.here ?_)
  simp only [if_true]
  refine wpAny_bind (L4.here ?_)
  simp only [Bool.not_true, Bool.false_eq_true, if_false, bind_assoc, pure_bind]
  refine wpAny_bind (L3.here ?_)
  refine wpAny_bind (L5.here ?_)
  simp only [if_true, pure_bind]
  exact wpAny_pure h

end

section
open PySem.Calls Builtin Builtin.ObjectAttr Builtin.Getset_descriptor
variable {prog : Program} {w : World} {A : Around} {E : Value → Shared → Prop} {s : Shared} {Kf : Frag} {e C : Addr}
-- isinstance of an exception
theorem exc_find {M : Model} {h : Heap} (X : Kf.In h) {nme : Str} {a g : Value} (ha : findIn Kf (.ref C) nme = some (some a)) (hg : specialIn Kf a "__get__" = some (some g)) (ht : takesIn Kf a = some true) :
    Looks M h (find (.ref e) (.ref C) nme) (.bind g a) := by
  refine (looks_findIn X ha).andThen ((show Looks M h (getOf (some a)) (some g) from looks_specialIn X hg).andThen ?_)
  exact (show Looks M h (dataDescriptor? (some a) (some g)) (some (g, a)) from (looks_takesIn X ht).andThen .now).andThen (Looks.tag .now)

theorem exc_get {R : Result → Shared → Prop} {tp : Value} (X : Kf.In s.heap) (T : Looks (model prog w) s.heap (typeOf (.ref e)) (.ref C)) (hm : mroIn Kf C (.type "object") = some true) (h : R (.ok (.ret (.ref C))) s) :
    codeAny (model prog w) A (.call (.builtin "getset_descriptor.__get__") ⟨[.builtin "object.__class__", .ref e, tp], []⟩) R s := by
  obtain ⟨hh, g, dr, t, os⟩ := s
  have L1 := looks_mroIn (M := model prog w) X hm
  refine codeAny_call_builtin KF.slot_gs.plain KF.entry_gs (KF.slot_gs.check _ _ _ _ _ _ _ _ KF.type_class (KF.args_gs _ _ _) ?_)
  unfold Builtin.«getset_descriptor.__get__» descrGet
  rw [dga_obj]
  refine wpAny_bind (wpAny_pure ?_)
  unfold descrGetter descrCheckInstance descrNameAndClass isInstance
  simp only [KF.owner_class]
  repeat lk
  refine ⟨Code.quiet_builtin _ (by decide +kernel), codeAny_builtin KF.entry_class ?_⟩
  unfold Builtin.«object.__class__» shownTypeOf
  repeat lk
  exact h

theorem exc_class {Q : Option Value → Shared → Prop} (X : Kf.In s.heap) (L0 : Looks (model prog w) s.heap (typeOf (.ref e)) (.ref C)) (hg : plainGet Kf C "__class__" = true) (ha : findIn Kf (.ref C) "__class__" = some (some (.builtin "object.__class__")))
    (hn : specialIn Kf (.builtin "object.__class__") "__get__" = some (some (.builtin "getset_descriptor.__get__"))) (htk : takesIn Kf (.builtin "object.__class__") = some true) (hm : mroIn Kf C (.type "object") = some true)
    (h : Q (some (.ref C)) { s with toks := s.toks + 1 }) : wpAny (model prog w) A (getAttr? (.ref e) "__class__") Q E s := by
  have hh : wpAny (model prog w) A.in1 (Builtin.«proto.getattr_hooked» ⟨[.ref e, .str "__class__" s.toks], []⟩)
      (fun fin s' => match fin with | .done (.ret v) => wpAny (model prog w) A (handedOut v) (fun v s'' => Q (some v) s'') (fun _ _ => False) s' | _ => False) (fun _ _ => False) { s with toks := s.toks + 1 } := by
    obtain ⟨hh, gg, d, t, os⟩ := s
    have L1 := exc_find (M := model prog w) (e := e) X ha hn htk
    have L2 := looks_findIn (M := model prog w) X (plainGet_of hg).2
    refine wpAny_bind (wpAny_pure (wpAny_bind (L0.at (wpAny_bind (L1.at (wpAny_bind (L2.at ?_)))))))
    show wpAny _ _ (holding [_] (call _ [_, .ref e, .ref C]) >>= ret) _ _ _
    exact wpAny_bind (wpAny_holding (wpAny_mono (wpAny_call (exc_get (s := ⟨hh, gg, d, t + 1, os⟩) X L0 hm (handed_on (E := fun _ _ => False) (Q := fun v s'' => Q (some v) s'') rfl h))) (fun v s' z => wpAny_pure z) fun _ _ z => z))
  obtain ⟨h', g, d, t, os⟩ := s
  have L1 := looks_findIn (M := model prog w) X (plainGet_of hg).1
  unfold getAttr? getAttrBy? getAttrBy
  refine wpAny_bind (wpAny_mkText (wpAny_bind (wpAny_attempt (wpAny_holding (wpAny_bind (L0.at (wpAny_bind (L1.at ?_))))))))
  show wpAny _ _ (getAttrEveryday _ _ _) _ _ _
  refine wpAny_bind (wpAny_onRaise (wpAny_runValue (codeAny_builtin F.plainObj_entry_getattr_hooked (wpAny_mono hh (fun fin s' z => ?_) fun _ _ z => z.elim))))
  rcases fin with (_ | _ | _ | _) | _ <;> first | exact wpAny_mono z (fun v s'' hv => wpAny_pure hv) (fun _ _ z => z.elim) | exact z.elim
end
end Mine

namespace Mine
open PySem PyProof.Rows PySem.W

section
open PySem.Calls Builtin Builtin.ObjectAttr Builtin.Getset_descriptor
variable {prog : Program} {w : World} {A : Around} {E : Value → Shared → Prop} {Kf : Frag} {e C : Addr} {o : Obj} {h : Heap} {g : Array GenState} {d : Drawn} {t : Nat} {os : OsState}

theorem exc_entry {tk : Tok} {Q : Fin → Shared → Prop} (X : Kf.In h) (hx : h.get? e = some o) (hc : o.cls = .ref C) (ha : findIn Kf (.ref C) "__class__" = some (some (.builtin "object.__class__")))
    (hn : specialIn Kf (.builtin "object.__class__") "__get__" = some (some (.builtin "getset_descriptor.__get__"))) (htk : takesIn Kf (.builtin "object.__class__") = some true) (hm : mroIn Kf C (.type "object") = some true)
    (hq : Q (.done (.ret (.ref C))) ⟨h, g, d, t, os⟩) :
    wpAny (model prog w) A (Builtin.«object.__getattribute__» ⟨[.ref e, .str "__class__" tk], []⟩) Q E ⟨h, g, d, t, os⟩ := by
  have L0 : Looks (model prog w) h (typeOf (.ref e)) (.ref C) := hc ▸ (Looks.ld hx).andThen .now
  have L1 := exc_find (M := model prog w) (e := e) X ha hn htk
  unfold Builtin.«object.__getattribute__»
  repeat (any_goals (first | assumption | with_reducible refine L0.at ?_ | with_reducible refine L1.at ?_ | wp_step))
  refine exc_get (s := ⟨h, g, d, t, os⟩) X L0 hm ?_
  repeat (any_goals (first | assumption | wp_step))

theorem exc_check {M : Model} {nameV : Value} {Q : Unit → Shared → Prop} (X : Kf.In h) (hx : h.get? e = some o) (hc : o.cls = .ref C) (hb : mroIn Kf C (.type "BaseException") = some true) (hq : Q () ⟨h, g, d, t, os⟩) :
    wpAny M A (checkBuiltinCall "BaseException.__getattribute__" ⟨[.ref e, nameV], []⟩) Q E ⟨h, g, d, t, os⟩ := by
  have hk : builtinKind "BaseException.__getattribute__" = some .slot := by decide +kernel
  have hsplit : splitId "BaseException.__getattribute__" = some ("BaseException", "__getattribute__") := by decide +kernel
  have ha := PySem.F.args_bexc_ga (.ref e) nameV
  have L0 : Looks M h (typeOf (.ref e)) (.ref C) := hc ▸ (Looks.ld hx).andThen .now
  have L1 : Looks M h (isInstance (.ref e) (.type "BaseException")) true := L0.andThen (looks_mroIn X hb)
  simp only [checkBuiltinCall, hk, hsplit]
  refine wpAny_bind (L1.at ?_)
  repeat (first | assumption | wp_step)

theorem exc_classB {Q : Option Value → Shared → Prop} (X : Kf.In h) (hx : h.get? e = some o) (hc : o.cls = .ref C) (hga : findIn Kf (.ref C) "__getattribute__" = some (some (.builtin "BaseException.__getattribute__"))) (hgt : findIn Kf (.ref C) "__getattr__" = some none)
    (ha : findIn Kf (.ref C) "__class__" = some (some (.builtin "object.__class__")))
    (hn : specialIn Kf (.builtin "object.__class__") "__get__" = some (some (.builtin "getset_descriptor.__get__"))) (htk : takesIn Kf (.builtin "object.__class__") = some true) (hm : mroIn Kf C (.type "object") = some true)
    (hb : mroIn Kf C (.type "BaseException") = some true) (hq : Q (some (.ref C)) ⟨h, g, d, t + 1, os⟩) : wpAny (model prog w) A (getAttr? (.ref e) "__class__") Q E ⟨h, g, d, t, os⟩ := by
  have L0 : Looks (model prog w) h (typeOf (.ref e)) (.ref C) := hc ▸ (Looks.ld hx).andThen .now
  have L1 := looks_findIn (M := model prog w) X hga
  have L2 := looks_findIn (M := model prog w) X hgt
  have f3 := PySem.F.excAttr_ValueError.ga.bind (.ref e)
  have hx2 : (Value.builtin "BaseException.__getattribute__" == Value.builtin "object.__getattribute__") = false := by decide +kernel
  have hx1 : (onTheHeap (Value.ref C) && Value.builtin "BaseException.__getattribute__" == Value.builtin "object.__getattribute__") = false := by rw [hx2]; rfl
  unfold getAttr? getAttrBy? getAttrBy
  refine wpAny_bind (wpAny_mkText (wpAny_bind (wpAny_attempt (wpAny_holding (wpAny_bind (L0.at (wpAny_bind (L1.at ?_))))))))
  dsimp only
  rw [if_neg (by rw [hx1]; decide)]
  repeat (any_goals (first | assumption | with_reducible refine L0.at ?_ | with_reducible refine L2.at ?_ | wp_step))
  refine codeAny_call_builtin PySem.F.excAttr_ValueError.ga.plain PySem.F.entry_bexc_ga (exc_check X hx hc hb (exc_entry X hx hc ha hn htk hm ?_))
  exact handed_on rfl (wpAny_pure hq)
end

/-- a class whose instances tell their class as object does -/
noncomputable def clsOk (K : Frag) (C : Addr) : Bool := (clsIn K C).isSome && (plainGet K C "__class__" || (findIn K (.ref C) "__getattribute__" == some (some (.builtin "BaseException.__getattribute__")) && findIn K (.ref C) "__getattr__" == some none && mroIn K C (.type "BaseException") == some true)) &&
  findIn K (.ref C) "__class__" == some (some (.builtin "object.__class__")) &&
  specialIn K (.builtin "object.__class__") "__get__" == some (some (.builtin "getset_descriptor.__get__")) && takesIn K (.builtin "object.__class__") == some true && mroIn K C (.type "object") == some true

theorem kitx_at {K : Frag} {e C : Addr} (q : clsOk K C = true) : KitX K (.ref e) (.ref C) (fun h => ∃ o, h.get? e = some o ∧ o.cls = .ref C) := by
  unfold clsOk at q
  simp only [Bool.and_eq_true, Bool.or_eq_true, beq_iff_eq] at q
  obtain ⟨⟨⟨⟨⟨q0, q1⟩, q2⟩, q3⟩, q4⟩, q5⟩ := q
  obtain ⟨cd, q0⟩ := Option.isSome_iff_exists.mp q0
  unfold clsIn at q0
  split at q0
  case h_2 => cases q0
  rename_i c' d' cd' sl' ho
  have ty : ∀ (M : Model) (h : Heap), (∃ o, h.get? e = some o ∧ o.cls = .ref C) → Looks M h (typeOf (.ref e)) (.ref C) := fun M h ⟨o, w1, w2⟩ => w2 ▸ (Looks.ld w1).andThen .now
  refine ⟨fun M h _ p => ty M h p, fun M h X _ => ?_, fun h tp dd its n sl X htp => ?_, fun {prog w A E Q s} X p k => ?_⟩
  · intro A' Q' E' s' k q
    unfold isType loadHead
    exact wpAny_bind (wpAny_loadPart (k _ _ (X _ _ ho)) (wpAny_pure q))
  · refine Bool.eq_false_iff.mpr fun q => ?_
    have e : C = tp := Value.ref.inj (beq_iff_eq.mp q)
    subst e
    have z := (X _ _ ho).symm.trans htp
    cases z
  · rcases q1 with q1 | ⟨⟨q6, q7⟩, q8⟩
    · exact exc_class X (ty _ _ p) q1 q2 q3 q4 q5 k
    · obtain ⟨o, w1, w2⟩ := p
      obtain ⟨h, g, d, t, os⟩ := s
      exact exc_classB X w1 w2 q6 q7 q2 q3 q4 q5 q8 k

section
variable {c : Cx} {A : Around} {pr : Pr} {η η' η₁ : Hp} {s s' : Shared} {d : Nat} {hd : Bool} {nm : List (Str × NameKind)} {σ σ' : List (Option V)}
  {Q R : V → Hp → Prop} {X : Addr → Hp → Prop} {v w : V} {x : Str} {pos : Pos} {K : Params → Frag} {gt bt : List (Str × Value)} {C : Addr}

theorem SC.isi_exc (W : Wd c K gt bt) {t : Value} {b : Bool} (hC : clsOk (K c.P) C = true) (hb : kitOne (K c.P) (.ref C) t = some b) (q : Q (.bool b) η) : SC c d hd (.builtin "isinstance") [.exc C, .glob t] η Q X := by
  intro A s pr xs o I r
  obtain ⟨y, z, rfl, ry, rz⟩ := rvs2 r
  unfold Rv at ry rz
  subst rz
  obtain ⟨e, ob, fs, rfl, he, hc, _⟩ := ry
  refine kia_one (kitx_at hC) (W.kin.keeps I.stays) ⟨ob, he, hc⟩ hb (by intro q; cases q) fun tk => ?_
  exact Post.pure (v := .bool b) I (fun _ _ e => e) rfl q
end
end Mine

namespace Mine
open PySem PyProof.Rows PySem.W

section
variable {c : Cx} {A : Around} {pr : Pr} {η η' η₁ : Hp} {s s' : Shared} {d : Nat} {hd : Bool} {nm : List (Str × NameKind)} {σ σ' : List (Option V)} {env : Env}
  {Q R : V → Hp → Prop} {X : Addr → Hp → Prop} {v w : V} {x : Str} {pos ap : Pos} {K : Params → Frag} {gt bt : List (Str × Value)} {C : Addr}

/-- a value's method -/
noncomputable def Meth (c : Cx) (v : V) (η : Hp) (name : Str) (f : Value) : Prop :=
  ∀ A s pr y pl (QQ : Value × List Value → Shared → Prop) (E : Value → Shared → Prop), Inv c η pr A s → Rv c.P s.heap η pr v y → (∀ t, QQ (f, [y]) { s with toks := t }) → wpAny c.M A (getMethod y name pl) QQ E s

theorem meth_eq {e : Expr} {name : Str} {es : List Expr} (hs : es.any star? = false) (hn : decide (es.length < 30) = true) (hl : (ap.endLine == pos.line) = true) (hb : ∀ env, attributeBase e name env (eval e env) = eval e env) (env : Env) :
    eval (.Call (.Attribute e name ap) es [] pos) env = (do
      let ov ← eval e env
      standAt ap.atName
      let (f, first) ← holding [ov] (getMethod ov name (do return (← importBound e env).getD true))
      callWith pos f first (backTo pos (starEach es env)) (backToKw pos (keywordEach [] env))) := by
  have h1 : (backTo pos (starEach es env)).all (fun p => !p.1) = true := by
    have := noStar (pos := pos) (env := env) hs
    rw [List.all_eq_true]
    rw [List.any_eq_false] at this
    intro x m
    simpa using this x m
  have hf : methodCallForm (es.length + ([] : List Keyword).length) (backTo pos (starEach es env)) (backToKw pos (keywordEach [] env)) = true := by
    unfold methodCallForm
    rw [h1]
    show (true && true && decide (es.length + 0 + 0 < 30)) = true
    simpa using hn
  rw [arm_eval_Call, hb]
  unfold methodCall calleeOf methodCallPos
  rw [hf, hl]
  rfl

theorem SE.meth {e : Expr} {name : Str} {es : List Expr} (p : SE c d hd nm σ η e (fun v η₁ => ∃ f, Meth c v η₁ name f ∧ Callee c f ∧ SL c d hd nm σ η₁ es (fun vs η₂ => SC c d hd f (v :: vs) η₂ Q X) X) X)
    (hb : ∀ env, attributeBase e name env (eval e env) = eval e env := by intro _; with_unfolding_all rfl) (hs : es.any star? = false := by with_unfolding_all rfl) (hn : decide (es.length < 30) = true := by with_unfolding_all rfl) (hl : (ap.endLine == pos.line) = true := by with_unfolding_all rfl) :
    SE c d hd nm σ η (.Call (.Attribute e name ap) es [] pos) Q X := by
  intro A env s pr o I F
  refine methodCall_KW (wpAny_mono (p A env s pr o I F) (fun y s₁ hq => ?_) fun _ _ e => e) (meth_eq hs hn hl hb env)
  obtain ⟨v, η₁, ⟨f, mt, cf, sl⟩, I₁, rv, st⟩ := hq
  refine mt A s₁ pr y _ _ _ I₁ rv fun t => ?_
  have I₂ := I₁.toks t
  refine callWith_SL (s := { s₁ with toks := t }) cf sl o I₂ (F.step I st) hs (fun vs η₂ s₂ xs q I₂ r st₂ => ?_) fun _ _ e => e.older st
  exact wpAny_mono (q A s₂ pr (y :: xs) o I₂ ⟨y, xs, rfl, Rv.step (s := { s₁ with toks := t }) rv (I₁.toks t) st₂, r⟩) (fun _ _ e => e.older (st.trans st₂)) fun _ _ e => e.older (st.trans st₂)

theorem Callee.bi {id : String} : Callee c (.builtin id) := .inl ⟨_, rfl⟩
theorem Meth.join {u : Str} : Meth c (.str u) η "join" (.builtin "str.join") := fun A s pr y pl QQ E I r q => by
  unfold Rv at r; obtain ⟨t, rfl⟩ := r; exact GM.join (q s.toks)

theorem rvs_strs {P : Params} {h : Heap} : ∀ {ys : List Str} {xs : List Value}, Rvs P h η pr (ys.map V.str) xs → StrsAre xs ys
  | [], _, r => by unfold List.map Rvs at r; subst r; exact .nil
  | y :: ys, _, r => by
    rw [List.map_cons] at r; unfold Rvs at r; obtain ⟨z, zs, rfl, rz, rs⟩ := r
    unfold Rv at rz; obtain ⟨t, rfl⟩ := rz; exact .cons _ _ (rvs_strs rs)
theorem SC.join_lst {u : Str} {ys : List Str} (hz : (ys.map (·.length)).sum + ys.length * u.length ≤ 16777216) (q : Q (.str (Txt.join u ys)) η) : SC c d hd (.builtin "str.join") [.str u, .lst (ys.map V.str)] η Q X := by
  intro A s pr xs o I r
  obtain ⟨y, z, rfl, ry, rz⟩ := rvs2 r
  unfold Rv at ry rz
  obtain ⟨t, rfl⟩ := ry
  obtain ⟨a, zs, n, rfl, ho, _, _, rs⟩ := rz
  exact join_list ⟨_, ho, rfl, _, rfl⟩ (by simpa using rvs_strs rs) hz fun t' k => Post.tok (v := .str _) I k ⟨_, rfl⟩ q

theorem SE.dict0 (q : Q (.dct [] []) η) : SE c d hd nm σ η (.Dict [] [] pos) Q X := fun A env s pr o I F =>
  wpAny_Dict_empty (Post.pure (t := s.toks) (v := .dct [] []) I (fun _ _ e => Heap.get?_push_of_some _ e) ⟨_, [], #[], _, rfl, Heap.get?_push_size _ rfl, Rvs.fresh (vs := []) (xs := []) I, .nil, rfl⟩ q)
end
end Mine

namespace Mine
open PySem PyProof.Rows PySem.W

theorem len_ok {n : Nat} (h : Nat.ble n 10000 = true := by with_unfolding_all rfl) : n ≤ sizeLine := Nat.le_trans (Nat.le_of_ble_eq_true h) (by decide)

theorem iteT {a b : Prop} (h : a) : if true = true then a else b := h
theorem iteF {a b : Prop} (h : b) : if false = true then a else b := h
theorem iteNT {a b : Prop} (h : b) : if (!true) = true then a else b := h
theorem iteNF {a b : Prop} (h : a) : if (!false) = true then a else b := h
theorem iteS {a b : Prop} {u : Bool} (h : u = true → a) (h' : u = false → b) : if u = true then a else b := by cases u <;> simp_all

theorem gcd_step (a b : Int) (hb : 0 < b) : Int.gcd b (a.fmod b) = Int.gcd a b := by
  rw [Int.fmod_eq_emod_of_nonneg _ (by omega), Int.gcd_comm b]
  have := Int.gcd_add_mul_right_left b (a % b) (a / b)
  have e : a % b + a / b * b = a := by rw [Int.mul_comm]; exact Int.emod_add_mul_ediv a b
  rw [e] at this
  exact this.symm

theorem natAbs_log2_lt {a : Int} {k : Nat} (h : a.natAbs < 2 ^ k) (hk : 0 < k) : a.natAbs.log2 < k := by
  by_cases e : a.natAbs = 0
  · rw [e]; simpa using hk
  · exact (Nat.log2_lt e).mpr h
theorem noPylong_pow {a b : Int} (h : b.natAbs < 2 ^ 9000) : Builtin.divisionGoesByPylong a b = false := PyProof.noPylong_of_log2 (natAbs_log2_lt h (by decide))
theorem bits_le {a : Int} {k : Nat} (h : a.natAbs < 2 ^ k) : Builtin.Int.intBits a ≤ k := by
  unfold Builtin.Int.intBits
  split
  · exact Nat.zero_le _
  · rename_i q
    have : a.natAbs ≠ 0 := fun e => q (by simp [Int.natAbs_eq_zero.mp e])
    exact (Nat.log2_lt this).mpr h
theorem mulOk {a b : Int} {k : Nat} (ha : Builtin.Int.intBits a ≤ k) (hb : Builtin.Int.intBits b ≤ k) (hk : k ≤ 2 ^ 20 := by decide) : IntMulOk a b := IntMulOk.of_bits (Nat.le_trans ha hk) (Nat.le_trans hb hk)

section
variable {c : Cx} {A : Around} {pr : Pr} {η η' : Hp} {s : Shared} {d d' : Nat} {hd : Bool}
  {Q R : V → Hp → Prop} {X : Addr → Hp → Prop} {v w : V}
theorem S2.itemI_lst {e i : Expr} {vs : List V} {j : Int} {u : V} (h0 : 0 ≤ j) (hu : vs[j.toNat]? = some u) (q : Q u η) (hs : notSlice i = true := by with_unfolding_all rfl) : S2 c d hd (subscriptTail e i) (.lst vs) (.int j) η Q X := by
  rw [← Int.toNat_of_nonneg h0]; exact S2.item_lst hu q hs
theorem S2.itemI_tup {e i : Expr} {vs : List V} {j : Int} {u : V} (h0 : 0 ≤ j) (hu : vs[j.toNat]? = some u) (q : Q u η) (hs : notSlice i = true := by with_unfolding_all rfl) : S2 c d hd (subscriptTail e i) (.tup vs) (.int j) η Q X := by
  rw [← Int.toNat_of_nonneg h0]; exact S2.item_tup hu q hs
theorem S1.negI {a : Int} (q : Q (.int (-a)) η) : S1 c d hd (unaryOp .USub) (.int a) η Q X := fun _ _ _ _ _ I r => by
  unfold Rv at r; obtain ⟨t, rfl⟩ := r
  exact PySem.P.neg_int (Post.pure (v := .int (-a)) I (fun _ _ e => e) ⟨_, rfl⟩ q)
end
end Mine

namespace Mine
open PySem PyProof.Rows PySem.W

noncomputable def initσ : List V → List (Str × NameKind) → List (Option V)
  | v :: vs, _ :: nm => some v :: initσ vs nm
  | [], _ :: nm => none :: initσ [] nm
  | _, [] => []
noncomputable def prefOk : List Arg → List (Str × NameKind) → Bool
  | a :: as, p :: nm => a.arg == p.1 && prefOk as nm
  | [], _ => true
  | _ :: _, [] => false
theorem initσ_nil (ps : List Str) (ws : List V) : ∀ (nm : List (Str × NameKind)), InitR ps ws nm (initσ [] nm)
  | [] => by unfold initσ; exact .nil
  | p :: nm => by unfold initσ; exact .skip (initσ_nil ps ws nm)
theorem initσ_ok {ps : List Str} {ws : List V} : ∀ (as : List Arg) (vs : List V) (nm : List (Str × NameKind)), prefOk as nm = true → as.length = vs.length → (∀ p ∈ (as.map (·.arg)).zip vs, p ∈ ps.zip ws) → InitR ps ws nm (initσ vs nm)
  | [], [], nm, _, _, _ => initσ_nil ps ws nm
  | [], _ :: _, _, _, e, _ => by cases e
  | _ :: _, [], _, _, e, _ => by cases e
  | a :: as, v :: vs, [], h, _, _ => by cases h
  | a :: as, v :: vs, (x, k) :: nm, h, e, m => by
    unfold prefOk at h
    simp only [Bool.and_eq_true, beq_iff_eq] at h
    unfold initσ
    refine .bind (m (x, v) ?_) (initσ_ok as vs nm h.2 (by simpa using e) fun p q => m p ?_)
    · rw [List.map_cons, List.zip_cons_cons, h.1]; exact .head _
    · rw [List.map_cons, List.zip_cons_cons]; exact .tail _ q

section
variable {c : Cx} {K : Params → Frag} {gt bt : List (Str × Value)} {η : Hp} {d : Nat} {hd : Bool} {Q : V → Hp → Prop} {X : Addr → Hp → Prop}
theorem SCc.def (W : Wd c K gt bt) {a : Addr} {as : List Arg} {body : List Stmt} {vs : List V} {oc kV doc pm cdv ct : Value} {od an : Option Addr} {sl : Array (Option Value)} {name qual : Str} {scope : Scope}
    (ho : (K c.P).lookup a = some ⟨oc, od, .func (fnOf name qual (plainArgs as) body scope .none kV doc pm an cdv ct), sl⟩) (hcd : codeIn (K c.P) cdv qual = true) (htab : (tabOk scope.names as && prefOk as scope.names) = true)
    (hb : SS c d hd scope.names (initσ vs scope.names) η body (fun _ η' => Q .none η') Q X)
    (hl : as.length = vs.length := by with_unfolding_all rfl) (hco : scope.isCoroutine = false := by with_unfolding_all rfl) (hgen : scope.isGenerator = false := by with_unfolding_all rfl) (hk : scope.kind = .function := by with_unfolding_all rfl) : SCc c (d + 1) hd (.ref a) vs η Q X := by
  rw [Bool.and_eq_true] at htab
  exact SCc.fn W ho hcd htab.1 (initσ_ok as vs _ htab.2 hl fun _ q => q) hb hl hco hgen hk
/-- the def's text is looked up in the program -/
theorem SCc.def2 (W : Wd c K gt bt) {a : Addr} {as : List Arg} {body : List Stmt} {vs : List V} {oc kV doc pm cdv ct : Value} {od an : Option Addr} {sl : Array (Option Value)} {name qual : Str} {scope : Scope} {s : Stmt} {r : List Stmt} {p : Str × NameKind} {ps : List (Str × NameKind)}
    (ho : (K c.P).lookup a = some ⟨oc, od, .func (fnOf name qual (plainArgs as) body scope .none kV doc pm an cdv ct), sl⟩) (hcd : codeIn (K c.P) cdv qual = true) (htab : (tabOk scope.names as && prefOk as scope.names) = true) (h1 : body = s :: r) (h2 : scope.names = p :: ps)
    (hb : SS c d hd (p :: ps) (initσ vs (p :: ps)) η (s :: r) (fun _ η' => Q .none η') Q X)
    (hl : as.length = vs.length := by with_unfolding_all rfl) (hco : scope.isCoroutine = false := by with_unfolding_all rfl) (hgen : scope.isGenerator = false := by with_unfolding_all rfl) (hk : scope.kind = .function := by with_unfolding_all rfl) : SCc c (d + 1) hd (.ref a) vs η Q X := by
  subst h1
  exact SCc.def W ho hcd htab (by rw [h2]; exact hb) hl hco hgen hk
theorem SC.def2 (W : Wd c K gt bt) {a : Addr} {as : List Arg} {body : List Stmt} {vs : List V} {oc kV doc pm cdv ct : Value} {od an : Option Addr} {sl : Array (Option Value)} {name qual : Str} {scope : Scope} {s : Stmt} {r : List Stmt} {p : Str × NameKind} {ps : List (Str × NameKind)}
    (ho : (K c.P).lookup a = some ⟨oc, od, .func (fnOf name qual (plainArgs as) body scope .none kV doc pm an cdv ct), sl⟩) (hcd : codeIn (K c.P) cdv qual = true) (htab : (tabOk scope.names as && prefOk as scope.names) = true) (h1 : body = s :: r) (h2 : scope.names = p :: ps)
    (hb : SS c d hd (p :: ps) (initσ vs (p :: ps)) η (s :: r) (fun _ η' => Q .none η') Q X)
    (hl : as.length = vs.length := by with_unfolding_all rfl) (hco : scope.isCoroutine = false := by with_unfolding_all rfl) (hgen : scope.isGenerator = false := by with_unfolding_all rfl) (hk : scope.kind = .function := by with_unfolding_all rfl) : SC c (d + 1) hd (.ref a) vs η Q X := (SCc.def2 W ho hcd htab h1 h2 hb hl hco hgen hk).to
end
end Mine

namespace Mine
open PySem PyProof.Rows PySem.W

/-- what a comprehension's frame takes over -/
inductive CapR (nm : List (Str × NameKind)) (σ : List (Option V)) : List (Str × NameKind) → List (Str × NameKind) → List (Option V) → Prop
  | nil : CapR nm σ [] [] []
  | own {x k r r' τ} : k ≠ .free → CapR nm σ r r' τ → CapR nm σ ((x, k) :: r) ((x, k) :: r') (none :: τ)
  | cap {x v r r' τ} : At nm σ x .cell v → CapR nm σ r r' τ → CapR nm σ ((x, .free) :: r) ((x, .cell) :: r') (some v :: τ)
  | capF {x v r r' τ} : At nm σ x .free v → CapR nm σ r r' τ → CapR nm σ ((x, .free) :: r) ((x, .free) :: r') (some v :: τ)
  | skip {x r r' τ} : (x, NameKind.cell) ∈ nm → CapR nm σ r r' τ → CapR nm σ ((x, .free) :: r) ((x, .cell) :: r') (none :: τ)

section
variable {c : Cx} {A : Around} {pr : Pr} {η : Hp} {h : Heap} {nm : List (Str × NameKind)} {σ τ : List (Option V)} {env : Env} {r r' : List (Str × NameKind)}

theorem CapR.names (F : FrameR c h η pr nm env σ) (p : CapR nm σ r r' τ) :
    r.map (fun (n, k) => if (k == NameKind.free && env.scope.kind == .function && env.kindOf n == some .cell) then (n, NameKind.cell) else (n, k)) = r' := by
  induction p with
  | nil => rfl
  | own hk _ ih =>
    rw [List.map_cons, ih]
    have : (_ == NameKind.free) = false := beq_eq_false_iff_ne.mpr hk
    simp [this]
  | cap a _ ih => rw [List.map_cons, ih]; simp [F.kindOf (mem_fst a), F.kind]
  | capF a _ ih => rw [List.map_cons, ih]; simp [F.kindOf (mem_fst a)]
  | skip a _ ih => rw [List.map_cons, ih]; simp [F.kindOf a, F.kind]
theorem CapR.fsts (p : CapR nm σ r r' τ) : r'.map (·.1) = r.map (·.1) := by
  induction p with
  | nil => rfl
  | own _ _ ih => rw [List.map_cons, List.map_cons, ih]
  | cap _ _ ih => rw [List.map_cons, List.map_cons, ih]
  | capF _ _ ih => rw [List.map_cons, List.map_cons, ih]
  | skip _ _ ih => rw [List.map_cons, List.map_cons, ih]
/-- the cells taken over are there -/
theorem CapR.free (F : FrameR c h η pr nm env σ) (p : CapR nm σ r r' τ) : ∀ x, (x, NameKind.free) ∈ r → (env.cells.lookup x).isSome = true := by
  induction p with
  | nil => intro x m; cases m
  | own hk _ ih =>
    intro x m
    rcases List.mem_cons.mp m with e | m
    · injection e with _ e; exact absurd e.symm hk
    · exact ih x m
  | cap a _ ih =>
    intro x m
    rcases List.mem_cons.mp m with e | m
    · injection e with e _; rw [e]; exact F.has _ .cell (mem_fst a) (.inl rfl)
    · exact ih x m
  | capF a _ ih =>
    intro x m
    rcases List.mem_cons.mp m with e | m
    · injection e with e _; rw [e]; exact F.has _ .free (mem_fst a) (.inr rfl)
    · exact ih x m
  | skip a _ ih =>
    intro x m
    rcases List.mem_cons.mp m with e | m
    · injection e with e _; rw [e]; exact F.has _ .cell a (.inl rfl)
    · exact ih x m
theorem CapR.kinds (p : CapR nm σ r r' τ) : ∀ x k, (x, k) ∈ r' → k = .cell ∨ k = .free → (x, NameKind.cell) ∈ r ∨ (x, NameKind.free) ∈ r := by
  induction p with
  | nil => intro x k m; cases m
  | own hk _ ih =>
    intro x k m q
    rcases List.mem_cons.mp m with e | m
    · injection e with e1 e2
      subst e1 e2
      rcases q with rfl | rfl
      · exact .inl (.head _)
      · exact absurd rfl hk
    · exact (ih x k m q).imp (.tail _) (.tail _)
  | cap _ _ ih =>
    intro x k m q
    rcases List.mem_cons.mp m with e | m
    · injection e with e1 _; subst e1; exact .inr (.head _)
    · exact (ih x k m q).imp (.tail _) (.tail _)
  | capF _ _ ih =>
    intro x k m q
    rcases List.mem_cons.mp m with e | m
    · injection e with e1 _; subst e1; exact .inr (.head _)
    · exact (ih x k m q).imp (.tail _) (.tail _)
  | skip _ _ ih =>
    intro x k m q
    rcases List.mem_cons.mp m with e | m
    · injection e with e1 _; subst e1; exact .inr (.head _)
    · exact (ih x k m q).imp (.tail _) (.tail _)
/-- a known value comes from outside -/
theorem CapR.at {x : Str} {k : NameKind} {v : V} (p : CapR nm σ r r' τ) (a : At r' τ x k v) : (x, NameKind.free) ∈ r ∧ At nm σ x k v ∧ (k = .cell ∨ k = .free) := by
  induction p with
  | nil => cases a
  | own _ _ ih => cases a with | tail a => exact ⟨.tail _ (ih a).1, (ih a).2⟩
  | cap b _ ih =>
    cases a with
    | head => exact ⟨.head _, b, .inl rfl⟩
    | tail a => exact ⟨.tail _ (ih a).1, (ih a).2⟩
  | capF b _ ih =>
    cases a with
    | head => exact ⟨.head _, b, .inr rfl⟩
    | tail a => exact ⟨.tail _ (ih a).1, (ih a).2⟩
  | skip _ _ ih => cases a with | tail a => exact ⟨.tail _ (ih a).1, (ih a).2⟩

noncomputable def closL (env : Env) : List (Str × NameKind) → List (Str × Addr) → List (Str × Addr)
  | [], cs => cs
  | (n, k) :: r, cs => closL env r (if k == .free then (n, (env.cells.lookup n).getD 0) :: cs else cs)
theorem closure_eq {scope : Scope} (hf : ∀ x, (x, NameKind.free) ∈ scope.names → (env.cells.lookup x).isSome = true) : closureFor scope env = pure (closL env scope.names []) := by
  unfold closureFor
  have key : ∀ (l : List (Str × NameKind)) (acc : List (Str × Addr)), (∀ x, (x, NameKind.free) ∈ l → (env.cells.lookup x).isSome = true) →
      (forIn l acc fun (x : Str × NameKind) (cs : List (Str × Addr)) => (match x with | (name, kind) => if (kind == NameKind.free) = true then do let a ← cellOf env name; pure (ForInStep.yield ((name, a) :: cs)) else pure (ForInStep.yield cs) : Sem _)) = pure (closL env l acc) := by
    intro l
    induction l with
    | nil => intro acc _; rfl
    | cons p r ih =>
      intro acc hp
      obtain ⟨n, k⟩ := p
      rw [List.forIn_cons]
      unfold closL
      by_cases hk : (k == NameKind.free) = true
      · have : k = .free := by simpa using hk
        subst this
        obtain ⟨a, ha⟩ := Option.isSome_iff_exists.mp (hp n (.head _))
        have hc : cellOf env n = pure a := by unfold cellOf; rw [ha]
        simp only [beq_self_eq_true, if_true, hc, pure_bind, ha, Option.getD_some]
        exact ih _ fun x m => hp x (.tail _ m)
      · simp only [hk, Bool.false_eq_true, if_false, pure_bind]
        exact ih _ fun x m => hp x (.tail _ m)
  have := key scope.names [] hf
  simp only [bind_pure] at this ⊢
  exact this
theorem closL_mem : ∀ (l : List (Str × NameKind)) (acc : List (Str × Addr)) {x : Str} {a : Addr}, (x, a) ∈ closL env l acc → (x, a) ∈ acc ∨ ((x, NameKind.free) ∈ l ∧ a = (env.cells.lookup x).getD 0)
  | [], _, _, _, m => .inl m
  | (n, k) :: r, acc, x, a, m => by
    unfold closL at m
    rcases closL_mem r _ m with m₂ | ⟨m₂, e⟩
    · by_cases hk : k = .free
      · subst hk
        have m₃ : (x, a) ∈ (n, (env.cells.lookup n).getD 0) :: acc := m₂
        rcases List.mem_cons.mp m₃ with e | m₄
        · cases e; exact .inr ⟨.head _, rfl⟩
        · exact .inl m₄
      · have : (k == NameKind.free) = false := beq_eq_false_iff_ne.mpr hk
        rw [this] at m₂
        exact .inl m₂
    · exact .inr ⟨.tail _ m₂, e⟩
theorem closL_has : ∀ (l : List (Str × NameKind)) (acc : List (Str × Addr)) {x : Str}, (x, NameKind.free) ∈ l ∨ (acc.lookup x).isSome = true → ((closL env l acc).lookup x).isSome = true
  | [], _, _, m => m.elim (fun q => by cases q) id
  | (n, k) :: r, acc, x, m => by
    unfold closL
    refine closL_has r _ ?_
    rcases m with m | m
    · rcases List.mem_cons.mp m with e | m
      · cases e
        refine .inr ?_
        simp [List.lookup_cons]
      · exact .inl m
    · refine .inr ?_
      split
      · rw [List.lookup_cons]; split
        · rfl
        · exact m
      · exact m
theorem cellsFrom_app : ∀ (l : List (Str × NameKind)) (n : Nat) (acc : List (Str × Addr)), cellsFrom n l acc = cellsFrom n l [] ++ acc
  | [], _, _ => rfl
  | (x, k) :: r, n, acc => by
    unfold cellsFrom
    split
    · rw [cellsFrom_app r (n + 1) ((x, n) :: acc), cellsFrom_app r (n + 1) [(x, n)], List.append_assoc]; rfl
    · exact cellsFrom_app r n acc
theorem cellsFrom_names : ∀ (l : List (Str × NameKind)) (n : Nat) {x : Str} {a : Addr}, (x, a) ∈ cellsFrom n l [] → (x, NameKind.cell) ∈ l
  | [], _, _, _, m => by cases m
  | (y, k) :: r, n, x, a, m => by
    unfold cellsFrom at m
    split at m
    · rename_i hk
      have : k = .cell := by simpa using hk
      subst this
      rw [cellsFrom_app] at m
      rcases List.mem_append.mp m with m | m
      · exact .tail _ (cellsFrom_names r _ m)
      · simp at m; rw [m.1]; exact .head _
    · exact .tail _ (cellsFrom_names r n m)

/-- a comprehension's frame is laid -/
theorem comp_env {M : Model} {E : Value → Shared → Prop} {s : Shared} {scope : Scope} {cl : List (Str × Addr)} {QQ : Env → Shared → Prop}
    (h : ∀ h', h' = pushCells (s.heap.push { cls := .type "dict", data := .dict #[] }) scope.names →
      QQ (newEnv scope s.heap.objs.size env.globals (cellsFrom (s.heap.objs.size + 1) scope.names cl) env.qual none .none (some env) builtinsNs) { s with heap := h' }) :
    wpAny M A (newFunctionEnv scope env.globals cl [] env.qual none .none (some env)) QQ E s := by
  simp only [newFunctionEnv, Option.isSome_some, if_true]
  refine wpAny_bind (wpAny_alloc ?_)
  refine wpAny_bind (wpAny_layCells _ (fun name kind cells => by cases hkc : kind == NameKind.cell <;> simp [hkc]) _ _ _ _ ?_)
  rw [show ({ s with heap := s.heap.push { cls := .type "dict", data := .dict #[] } } : Shared).heap.objs.size = s.heap.objs.size + 1 from Heap.size_push ..]
  exact wpAny_bind (wpAny_pure (wpAny_pure (h _ rfl)))
end
end Mine

namespace Mine
open PySem PyProof.Rows PySem.W

/-- a comprehension over known items -/
noncomputable def CompL (c : Cx) (d : Nat) (nm : List (Str × NameKind)) (t : Expr) (xs : List Str) (cnd : Option Expr) (elt : Expr) (K : List V → Hp → Prop) : List V → List V → List (Option V) → Hp → Prop
  | [], ws, _, η => K ws η
  | v :: vs, ws, σ, η => SA c d nm σ η t xs v fun σ' => match cnd with
    | none => SE c d true nm σ' η elt (fun w η' => CompL c d nm t xs cnd elt K vs (ws ++ [w]) σ' η') noX
    | some q => ST c d true nm σ' η q (fun b η₁ => if b = true then SE c d true nm σ' η₁ elt (fun w η' => CompL c d nm t xs cnd elt K vs (ws ++ [w]) σ' η') noX else CompL c d nm t xs cnd elt K vs ws σ' η₁) noX

/-- the same, under a condition on the mutable objects -/
noncomputable def CompLG (c : Cx) (d : Nat) (nm : List (Str × NameKind)) (t : Expr) (xs : List Str) (cnd : Option Expr) (elt : Expr) (K : List V → Hp → Prop) (G : Hp → Prop) : List V → List V → List (Option V) → Hp → Prop
  | [], ws, _, η => G η ∧ K ws η
  | v :: vs, ws, σ, η => G η ∧ SA c d nm σ η t xs v fun σ' => match cnd with
    | none => SE c d true nm σ' η elt (fun w η' => CompLG c d nm t xs cnd elt K G vs (ws ++ [w]) σ' η') noX
    | some q => ST c d true nm σ' η q (fun b η₁ => if b = true then SE c d true nm σ' η₁ elt (fun w η' => CompLG c d nm t xs cnd elt K G vs (ws ++ [w]) σ' η') noX else CompLG c d nm t xs cnd elt K G vs ws σ' η₁) noX

section
variable {prog : Program} {w : World} {A : Around} {R : Result → Shared → Prop} {s : Shared}
theorem compLoop_any {elt target iter : Expr} {ifs : List Expr} {scope : Scope} {pos : Pos} {it acc : Value} {env : Env} (I : Nat → Shared → Prop)
    (turn : ∀ n s, I n s → wpAny (model prog w) A (pyNext it) (fun r s₁ => match r with
      | none => R (.ok .next) s₁
      | some v => wpAny (model prog w) A (letOwnedTupleGo target it v) (fun _ s₁' => wpAny (model prog w) A (assign target env v) (fun _ s₂ =>
          wpAny (model prog w) A (forIn ifs true fun c r => if r = true then do let ok ← isTrue c env (eval c env); pure (ForInStep.yield ok) else pure (ForInStep.yield r)) (fun ok s₃ =>
            if ok = true then wpAny (model prog w) A (eval elt env) (fun x s₄ =>
              wpAny (model prog w) A (call (.builtin "list.append") [acc, x]) (fun _ s₅ => ∃ m, m < n ∧ I m s₅) (notedBy (model prog w) A env fun e s' => R (.error e) s') s₄) (notedBy (model prog w) A env fun e s' => R (.error e) s') s₃
            else ∃ m, m < n ∧ I m s₃) (notedBy (model prog w) A env fun e s' => R (.error e) s') s₂) (notedBy (model prog w) A env fun e s' => R (.error e) s') s₁')
            (notedBy (model prog w) A env fun e s' => R (.error e) s') s₁) (notedBy (model prog w) A env fun e s' => R (.error e) s') s)
    (n : Nat) (h : I n s) : codeAny (model prog w) A (.compLoop (.ListComp elt [⟨target, iter, ifs, 0⟩] scope pos) 0 it acc env) R s := by
  refine codeAny_loop rfl I (fun n s hI => ?_) n h
  show wpAny _ A ((compTurn (.ListComp elt [⟨target, iter, ifs, 0⟩] scope pos) 0 it acc env).onRaise (fun x => do noteFrame x env; theTreesLotGoes x)) _ _ s
  refine wpAny_noted ?_
  rw [compTurn_list]
  refine wpAny_bind (wpAny_standAt (wpAny_bind (wpAny_mono (turn n s hI) (fun r s₁ h₁ => ?_) fun _ _ h' => h')))
  cases r with
  | none => exact wpAny_pure h₁
  | some v =>
    refine wpAny_bind (wpAny_mono h₁ (fun _ s₁' h₁' => ?_) fun _ _ h' => h')
    refine wpAny_bind (wpAny_mono h₁' (fun _ s₂ h₂ => wpAny_bind (wpAny_mono h₂ (fun ok s₃ h₃ => ?_) fun _ _ h' => h')) fun _ _ h' => h')
    cases ok with
    | false => exact wpAny_pure ⟨rfl, h₃⟩
    | true => exact wpAny_bind (wpAny_bind (wpAny_mono h₃ (fun x s₄ h₄ => wpAny_bind (wpAny_mono h₄ (fun _ s₅ h₅ => wpAny_pure (wpAny_pure ⟨rfl, h₅⟩)) fun _ _ h' => h')) fun _ _ h' => h'))
end

noncomputable def ifsOf : Option Expr → List Expr
  | none => []
  | some q => [q]

/-- the names a comprehension's target binds are its own -/
noncomputable def ownNames (names : List (Str × NameKind)) (xs : List Str) : Bool := xs.all fun x => names.any fun p => p.1 == x && p.2 != .free
/-- a comprehension's table, looked at once -/
noncomputable def compOk (scope : Scope) (xs : List Str) : Bool := scope.kind == .function && decide (scope.names.map (·.1)).Nodup && ownNames scope.names xs

section
variable {c : Cx} {A : Around} {J pr pr' : Pr} {η η' η₁ : Hp} {s s₁ : Shared} {d : Nat} {nm nmC : List (Str × NameKind)} {σ τ : List (Option V)} {env : Env} {vs : List V}
  {Q R : V → Hp → Prop} {X : Addr → Hp → Prop} {v w : V} {x : Str} {pos : Pos} {N : List (Option V) → Hp → Prop} {rest : List Stmt} {t elt iter : Expr} {h h' h₀ : Heap} {xs : List Str} {cnd : Option Expr} {scope : Scope} {K : List V → Hp → Prop}

theorem ST.mono {e : Expr} {B B' : Bool → Hp → Prop} {X X' : Addr → Hp → Prop} {hd : Bool} (p : ST c d hd nm σ η e B X) (k : ∀ b η', B b η' → B' b η') (kx : ∀ C η', X C η' → X' C η') : ST c d hd nm σ η e B' X' :=
  fun A env s pr o I F => wpAny_mono (p A env s pr o I F) (fun _ _ ⟨η', q, r⟩ => ⟨η', k _ _ q, r⟩) fun _ _ q => q.mono kx
theorem CompL.toG {vs ws : List V} {σ : List (Option V)} {η : Hp} (p : CompL c d nm t xs cnd elt K vs ws σ η) : CompLG c d nm t xs cnd elt K (fun _ => True) vs ws σ η := by
  induction vs generalizing ws σ η with
  | nil => unfold CompL at p; unfold CompLG; exact ⟨trivial, p⟩
  | cons v vs ih =>
    unfold CompL at p; unfold CompLG
    refine ⟨trivial, p.mono fun τ q => ?_⟩
    cases cnd with
    | none => exact SE.mono q (fun _ _ q => ih q) fun _ _ q => q
    | some e =>
      refine ST.mono q (fun b _ q => ?_) fun _ _ q => q
      cases b with
      | false => exact ih q
      | true => exact SE.mono q (fun _ _ q => ih q) fun _ _ q => q
/-- what a comprehension's frame owns -/
noncomputable def newOf (D C : Addr) (names : List (Str × NameKind)) : Pr := fun b => b = D ∨ b = C ∨ ∃ x, (x, b) ∈ cellsFrom (C + 1) names []

theorem comp_core {use : Option (Value → Sem Unit)} {PQ : Value → Shared → Prop} {E : Value → Shared → Prop} {h₂ : Heap} {tk : Nat} {I₀ : Addr} {St : Nat → Heap → Hp → Pr → Prop} {G : Hp → Prop} (ok : compOk scope xs = true) (o : Ok d true A) (I : Inv c η pr A s) (F : FrameR c s.heap η pr nm env σ)
    (cap : CapR nm σ scope.names nmC τ) (itr : Itr c A J I₀ t vs St G) (hJ : ∀ b, J b → s.heap.get? b = none) (hJf : ∀ b, J b → ¬ isFr A b) (keep : ∀ b o, s.heap.get? b = some o → h₂.get? b = some o) (st0 : St 0 h₂ η (fun b => pr b ∨ J b)) (hz : vs.length ≤ sizeLine) (cl : CompLG c d nmC t xs cnd elt K G vs [] τ η)
    (fin : ∀ ws η' s' D C xs n m, K ws η' → ws.length ≤ sizeLine → Inv c η' (fun b => pr b ∨ b = C ∨ b = D) A s' → s'.heap.get? D = some { cls := .type "list", data := .seq xs.toArray n } → Rvs c.P s'.heap η' (fun b => pr b ∨ b = C ∨ b = D) ws xs → η' D = none → ¬ (pr D ∨ D = C) → c.base.get? D = none →
      s.heap.get? D = none → s.heap.get? C = none → s'.heap.Ns C m → Step A noOwn η s.heap η' s'.heap → compPost c.M A E use PQ (.ref D) C (.ok .next) s') :
    wpAny c.M A (newList []) (fun acc s₃ => wpAny c.M A (newFunctionEnv scope env.globals (closL env scope.names []) [] env.qual none .none (some env)) (fun cenv s₄ =>
      codeAny c.M A (.compStart (.ListComp elt [⟨t, iter, ifsOf cnd, 0⟩] scope pos) 0 (.ref I₀) acc { cenv with scope := relabel scope env }) (compPost c.M A E use PQ acc cenv.locals) s₄) E s₃) E { s with heap := h₂, toks := tk } := by
  unfold compOk at ok
  simp only [Bool.and_eq_true, beq_iff_eq, decide_eq_true_eq] at ok
  obtain ⟨⟨hkind, hnd⟩, hxs⟩ := ok
  refine wpAny_newObj_type (T := "list") (comp_env fun h₄ e₄ => ?_)
  dsimp only at e₄ ⊢
  -- the two addresses
  generalize hD : h₂.objs.size = D
  have szD : (h₂.push { cls := .type "list", dict := none, data := .seq ([] : List Value).toArray }).objs.size = D + 1 := by rw [Heap.size_push, hD]
  rw [szD]
  generalize hC : D + 1 = C
  have szC : ((h₂.push { cls := .type "list", dict := none, data := .seq ([] : List Value).toArray }).push { cls := .type "dict", data := .dict #[] }).objs.size = C + 1 := by rw [Heap.size_push, szD, hC]
  have okC := cellsFrom_ok scope.names ((h₂.push { cls := .type "list", dict := none, data := .seq ([] : List Value).toArray }).push { cls := .type "dict", data := .dict #[] }) (C + 1) [] ⟨fun _ _ hm => (nomatch hm), List.Pairwise.nil⟩ (by rw [szC]; exact Nat.le_refl _)
  rw [szC, ← e₄] at okC
  have push : ∀ b ob, h₂.get? b = some ob → h₄.get? b = some ob := fun b ob e => by rw [e₄]; exact pushCells_keeps _ _ b ob (Heap.get?_push_of_some _ (Heap.get?_push_of_some _ e))
  have gD : h₄.get? D = some { cls := .type "list", data := .seq ([] : List Value).toArray } := by
    rw [e₄]; refine pushCells_keeps _ _ _ _ (Heap.get?_push_of_some _ ?_)
    rw [← hD]; exact Heap.get?_push_size _ rfl
  have nsC : h₄.Ns C (fun _ => none) := by
    rw [e₄, ← hC, ← szD]
    exact (Heap.Ns.new _ (.type "dict")).keeps (pushCells_keeps _ _)
  let NN : Pr := newOf D C scope.names
  have NNlo : ∀ b, NN b → h₂.objs.size ≤ b := by
    rintro b (q | q | ⟨x, q⟩)
    · rw [q, hD]; exact Nat.le_refl _
    · rw [q, ← hC, hD]; exact Nat.le_succ _
    · refine Nat.le_trans ?_ (okC.empty x b q).2
      rw [← hC, hD]; exact Nat.le_add_right D 2
  have h2none : ∀ b, h₂.objs.size ≤ b → h₂.get? b = none := fun b q => by
    cases e : h₂.get? b with
    | none => rfl
    | some ob => exact absurd (Heap.lt_size e) (Nat.not_lt.mpr q)
  have NNnone : ∀ b, NN b → h₂.get? b = none := fun b q => h2none b (NNlo b q)
  have keep4 : ∀ b ob, s.heap.get? b = some ob → h₄.get? b = some ob := fun b ob e => push b ob (keep b ob e)
  have NNs : ∀ b, NN b → s.heap.get? b = none := fun b q => by
    cases e : s.heap.get? b with
    | none => rfl
    | some ob => have := keep b ob e; rw [NNnone b q] at this; cases this
  have NNex : ∀ b, NN b → ∃ ob, h₄.get? b = some ob := by
    rintro b (rfl | rfl | ⟨x, q⟩)
    · exact ⟨_, gD⟩
    · obtain ⟨ob, _, _, e, _⟩ := nsC; exact ⟨ob, e⟩
    · obtain ⟨ob, e, _⟩ := (okC.empty x b q).1; exact ⟨ob, e⟩
  have NNnotJ : ∀ b, NN b → ¬ J b := fun b q j => by
    obtain ⟨ob, e⟩ := itr.nofr st0 j
    rw [NNnone b q] at e; cases e
  let pr' : Pr := fun b => (pr b ∨ NN b) ∨ J b
  have prs : ∀ b, pr b → (s.heap.get? b).isSome = true := fun b q => (I.privs b q).1
  have nfrNN : ∀ b, NN b → ¬ isFr A b := fun b q f => by have := prs b (I.frs b f); rw [NNs b q] at this; cases this
  have I₄ : Inv c η pr' A { s with heap := h₄, toks := tk } := by
    have := I.more (J := fun b => NN b ∨ J b) keep4 (fun b q => q.elim (NNs b) (hJ b)) (fun b q => q.elim (NNex b) fun j => by
      obtain ⟨ob, e⟩ := itr.nofr st0 j; exact ⟨ob, push b ob e⟩) tk
    exact this.less (fun b q => q.elim (fun q => q.elim .inl fun q => .inr (.inl q)) fun q => .inr (.inr q)) fun b f => .inl (.inl (I.frs b f))
  have hJ' : ∀ b, J b → pr' b := fun b j => .inr j
  have st4 : St 0 h₄ η pr' := itr.move st0 ⟨fun b ob e _ _ => push b ob e, fun _ e => e, fun b ob e n p => ⟨n, fun q => by
    rcases q with (q | q) | q
    · exact p (.inl q)
    · rw [NNnone b q] at e; cases e
    · exact p (.inr q)⟩⟩ fun b j ob e => push b ob e
  -- the frame
  have hfree := cap.free F
  generalize hcenv : ({ newEnv scope C env.globals (cellsFrom (C + 1) scope.names (closL env scope.names [])) env.qual none .none (some env) builtinsNs with scope := relabel scope env } : Env) = cenv
  have eL : cenv.locals = C := by rw [← hcenv]; rfl
  have eC : cenv.cells = cellsFrom (C + 1) scope.names [] ++ closL env scope.names [] := by rw [← hcenv, ← cellsFrom_app]; rfl
  have eS : cenv.scope = relabel scope env := by rw [← hcenv]
  have eN : cenv.scope.names = nmC := by rw [eS]; exact cap.names F
  have lk : ∀ x, cenv.cells.lookup x = ((cellsFrom (C + 1) scope.names []).lookup x).or ((closL env scope.names []).lookup x) := fun x => by rw [eC, List.lookup_append]
  have clm : ∀ {x a}, (closL env scope.names []).lookup x = some a → (x, NameKind.free) ∈ scope.names ∧ env.cells.lookup x = some a := fun {x a} e => by
    rcases closL_mem _ _ (mem_of_lookup e) with q | ⟨q, e'⟩
    · cases q
    · obtain ⟨a', ha'⟩ := Option.isSome_iff_exists.mp (hfree x q)
      rw [ha'] at e'; exact ⟨q, by rw [ha', e']; rfl⟩
  have oneKind : ∀ {x k k'}, (x, k) ∈ scope.names → (x, k') ∈ scope.names → k = k' := fun {x k k'} a b => by
    have e1 := lookup_of_mem hnd a
    have e2 := lookup_of_mem hnd b
    rw [e1] at e2; cases e2; rfl
  have cellCase : ∀ {x a}, cenv.cells.lookup x = some a → ((x, a) ∈ cellsFrom (C + 1) scope.names []) ∨ ((x, NameKind.free) ∈ scope.names ∧ env.cells.lookup x = some a) := fun {x a} e => by
    rw [lk] at e
    cases q : (cellsFrom (C + 1) scope.names []).lookup x with
    | some a' => rw [q] at e; cases e; exact .inl (mem_of_lookup q)
    | none => rw [q] at e; exact .inr (clm e)
  have F₄ : FrameR c h₄ η pr' nmC cenv τ := by
    refine ⟨by rw [eS]; exact hkind, eN, by rw [cap.fsts]; exact hnd, by rw [← hcenv]; exact F.globals, by rw [← hcenv]; exact F.builtins, ⟨_, by rw [eL]; exact nsC⟩, by rw [eL]; exact .inl (.inr (.inr (.inl rfl))), fun x a e => ?_, fun x y a e1 e2 => ?_, fun x k m q => ?_, fun x k u at' => ?_⟩
    · rcases cellCase e with q | ⟨q, e'⟩
      · exact ⟨.inl (.inr (.inr (.inr ⟨x, q⟩))), _, (okC.empty x a q).1⟩
      · obtain ⟨p1, u, p2⟩ := F.cells x a e'
        exact ⟨.inl (.inl p1), u, p2.keeps keep4⟩
    · rcases cellCase e1 with q1 | ⟨q1, f1⟩ <;> rcases cellCase e2 with q2 | ⟨q2, f2⟩
      · exact name_of_addr okC.apart q1 q2
      · have := prs a (F.cells y a f2).1; rw [NNs a (.inr (.inr ⟨x, q1⟩))] at this; cases this
      · have := prs a (F.cells x a f1).1; rw [NNs a (.inr (.inr ⟨y, q2⟩))] at this; cases this
      · exact F.inj x y a f1 f2
    · rw [lk]
      rcases cap.kinds x k m q with q | q
      · have := cellsFrom_has (x := x) scope.names (C + 1) [] (.inl q)
        obtain ⟨a, e⟩ := Option.isSome_iff_exists.mp this
        rw [e]; rfl
      · have := closL_has (env := env) scope.names [] (.inl q)
        cases e : (cellsFrom (C + 1) scope.names []).lookup x with
        | some a => rfl
        | none => exact this
    · obtain ⟨q1, q2, q3⟩ := cap.at at'
      obtain ⟨val, w1, w2⟩ := F.vars x k u q2
      refine ⟨val, ?_, Rv.mono ⟨fun b ob e _ _ => keep4 b ob e, fun _ e => e, fun b ob e n p => ⟨n, fun q => ?_⟩⟩ u w2⟩
      · have cellsX : ∀ a, env.cells.lookup x = some a → cenv.cells.lookup x = some a := fun a e => by
          rw [lk]
          have hno : (cellsFrom (C + 1) scope.names []).lookup x = none := by
            cases e' : (cellsFrom (C + 1) scope.names []).lookup x with
            | none => rfl
            | some a' => have := oneKind (cellsFrom_names _ _ (mem_of_lookup e')) q1; cases this
          rw [hno]
          obtain ⟨a', ha'⟩ := Option.isSome_iff_exists.mp (closL_has (env := env) scope.names [] (.inl q1))
          have := (clm ha').2
          rw [e] at this; cases this
          exact ha'
        rcases q3 with rfl | rfl
        · obtain ⟨a, g1, g2⟩ := w1; exact ⟨a, cellsX a g1, g2.keeps keep4⟩
        · obtain ⟨a, g1, g2⟩ := w1; exact ⟨a, cellsX a g1, g2.keeps keep4⟩
      · rcases q with (q | q) | q
        · exact p q
        · rw [NNs b q] at e; cases e
        · rw [hJ b q] at e; cases e
  have ownN : ∀ b, ownX cenv xs b → NN b := by
    rintro b (q | ⟨x, m, q⟩)
    · rw [q, eL]; exact .inr (.inl rfl)
    · rcases cellCase q with q | ⟨q, _⟩
      · exact .inr (.inr ⟨x, q⟩)
      · exfalso
        have := List.all_eq_true.mp hxs x m
        obtain ⟨⟨y, k⟩, m', e'⟩ := List.any_eq_true.mp this
        simp only [Bool.and_eq_true, beq_iff_eq, bne_iff_ne, ne_eq] at e'
        obtain ⟨rfl, e''⟩ := e'
        exact e'' (oneKind m' q)
  have ownPr : ∀ b, ownX cenv xs b → pr' b := fun b q => .inl (.inr (ownN b q))
  have JnotOwn : ∀ b, J b → ¬ ownX cenv xs b := fun b j q => NNnotJ b (ownN b q) j
  have JnotAll : ∀ b, J b → ¬ ownOf cenv b := fun b j q => by
    rcases q with q | ⟨x, q⟩
    · rw [eL] at q; exact NNnotJ b (.inr (.inl q)) j
    · rcases cellCase q with q | ⟨_, q⟩
      · exact NNnotJ b (.inr (.inr ⟨x, q⟩)) j
      · have := prs b (F.cells x b q).1; rw [hJ b j] at this; cases this
  have DneC : D ≠ C := by rw [← hC]; exact Nat.ne_of_lt (Nat.lt_succ_self D)
  have DnotCell : ∀ x, (x, D) ∉ cellsFrom (C + 1) scope.names [] := fun x q => by
    have := (okC.empty x D q).2
    rw [← hC] at this
    exact Nat.not_succ_le_self D (Nat.le_trans (Nat.le_succ (D + 1)) this)
  have DnotOwn : ¬ ownOf cenv D := fun q => by
    rcases q with q | ⟨x, q⟩
    · rw [eL] at q; exact DneC q
    · rcases cellCase q with q | ⟨_, q⟩
      · exact DnotCell x q
      · have := prs D (F.cells x D q).1; rw [NNs D (.inl rfl)] at this; cases this
  have prD : pr' D := .inl (.inr (.inl rfl))
  have start : ∀ (it' : Value), it' = .ref I₀ → codeAny c.M A (.compLoop (.ListComp elt [⟨t, iter, ifsOf cnd, 0⟩] scope pos) 0 it' (.ref D) cenv) (compPost c.M A E use PQ (.ref D) C) { s with heap := h₄, toks := tk } := by
    rintro _ rfl
    refine compLoop_any (fun m s' => ∃ i ws τ' η' its n, m = vs.length + 1 - i ∧ i ≤ vs.length ∧ ws.length ≤ i ∧ CompLG c d nmC t xs cnd elt K G (vs.drop i) ws τ' η' ∧ Inv c η' pr' A s' ∧ FrameR c s'.heap η' pr' nmC cenv τ' ∧ St i s'.heap η' pr' ∧
        s'.heap.get? D = some { cls := .type "list", data := .seq (its : List Value).toArray n } ∧ Rvs c.P s'.heap η' pr' ws its ∧ Step A (fun b => NN b ∨ J b) η h₄ η' s'.heap) ?_ (vs.length + 1)
      ⟨0, [], τ, η, [], 0, rfl, Nat.zero_le _, Nat.le_refl _, cl, I₄, F₄, st4, gD, rfl, Step.refl ..⟩
    rintro m s₅ ⟨i, ws, τ₅, η₅, its, n, rfl, hi, hws, cl₅, I₅, F₅, st₅, gD₅, rs₅, stp₅⟩
    by_cases hlt : i < vs.length
    · have hv : vs[i]? = some vs[i] := List.getElem?_eq_getElem hlt
      have hdrop : vs.drop i = vs[i] :: vs.drop (i + 1) := List.drop_eq_getElem_cons hlt
      rw [hdrop] at cl₅
      unfold CompLG at cl₅
      have gg := cl₅.1
      refine wpAny_mono (itr.item (E := notedBy c.M A cenv fun e s' => compPost c.M A E use PQ (.ref D) C (.error e) s') (QQ := fun x s₆ => wpAny c.M A (PySem.assign t cenv x) (fun _ s₂ =>
          wpAny c.M A (forIn (ifsOf cnd) true fun c r => if r = true then do let ok ← isTrue c cenv (eval c cenv); pure (ForInStep.yield ok) else pure (ForInStep.yield r)) (fun ok s₃ =>
            if ok = true then wpAny c.M A (eval elt cenv) (fun x s₄ =>
              wpAny c.M A (call (.builtin "list.append") [.ref D, x]) (fun _ s₅ => ∃ m, m < vs.length + 1 - i ∧ ∃ i ws τ' η' its n, m = vs.length + 1 - i ∧ i ≤ vs.length ∧ ws.length ≤ i ∧ CompLG c d nmC t xs cnd elt K G (vs.drop i) ws τ' η' ∧ Inv c η' pr' A s₅ ∧ FrameR c s₅.heap η' pr' nmC cenv τ' ∧ St i s₅.heap η' pr' ∧
                s₅.heap.get? D = some { cls := .type "list", data := .seq (its : List Value).toArray n } ∧ Rvs c.P s₅.heap η' pr' ws its ∧ Step A (fun b => NN b ∨ J b) η h₄ η' s₅.heap) (notedBy c.M A cenv fun e s' => compPost c.M A E use PQ (.ref D) C (.error e) s') s₄) (notedBy c.M A cenv fun e s' => compPost c.M A E use PQ (.ref D) C (.error e) s') s₃
            else ∃ m, m < vs.length + 1 - i ∧ ∃ i ws τ' η' its n, m = vs.length + 1 - i ∧ i ≤ vs.length ∧ ws.length ≤ i ∧ CompLG c d nmC t xs cnd elt K G (vs.drop i) ws τ' η' ∧ Inv c η' pr' A s₃ ∧ FrameR c s₃.heap η' pr' nmC cenv τ' ∧ St i s₃.heap η' pr' ∧
                s₃.heap.get? D = some { cls := .type "list", data := .seq (its : List Value).toArray n } ∧ Rvs c.P s₃.heap η' pr' ws its ∧ Step A (fun b => NN b ∨ J b) η h₄ η' s₃.heap) (notedBy c.M A cenv fun e s' => compPost c.M A E use PQ (.ref D) C (.error e) s') s₂) (notedBy c.M A cenv fun e s' => compPost c.M A E use PQ (.ref D) C (.error e) s') s₆) hJ' I₅ gg hv st₅ fun h₆ tk₆ x st₆ k₆ r₆ => ?_) (fun r s₆ q => ?_) fun _ _ e => e
      · have I₆ := I₅.wr k₆ hJ' (fun b j => itr.nofr st₆ j) hJf tk₆
        have F₆ := F₅.wr k₆ hJ' JnotAll
        have gD₆ := k₆ D _ (NNnotJ D (.inl rfl)) gD₅
        have m₆ : Mono pr' η₅ s₅.heap η₅ pr' h₆ := ⟨fun b ob e _ p => k₆ b ob (fun j => p (hJ' b j)) e, fun _ e => e, fun b ob e n p => ⟨n, p⟩⟩
        have rs₆ := Rvs.mono m₆ _ rs₅
        have stp₆ : Step A (fun b => NN b ∨ J b) η h₄ η₅ h₆ := stp₅.trans (Step.wr k₆ (fun b j => itr.nofr st₆ j) fun b j => .inr j)
        refine cl₅.2 A cenv _ pr' x _ _ o I₆ F₆ r₆ fun s₇ τ₇ k₇ I₇ F₇ stp₇ => ?_
        have ηD₆ := (I₆.privs D prD).2.1
        have gD₇ := stp₇.same D _ gD₆ ηD₆ (fun q => DnotOwn (ownX_of D q)) (nfrNN D (.inl rfl))
        have m₇ := stp₇.toMono ownPr I₆.frs
        have rs₇ := Rvs.mono m₇ _ rs₆
        have st₇ : St (i + 1) s₇.heap η₅ pr' := itr.move st₆ m₇ fun b j ob e => stp₇.same b ob e (I₆.privs b (hJ' b j)).2.1 (JnotOwn b j) (hJf b j)
        have stp₇' : Step A (fun b => NN b ∨ J b) η h₄ η₅ s₇.heap := stp₆.trans (stp₇.weak fun b q => .inl (ownN b q))
        -- the element is made and laid on
        have app : ∀ s₈ η₈, SE c d true nmC τ₇ η₈ elt (fun w η' => CompLG c d nmC t xs cnd elt K G (vs.drop (i + 1)) (ws ++ [w]) τ₇ η') noX → Inv c η₈ pr' A s₈ → FrameR c s₈.heap η₈ pr' nmC cenv τ₇ → St (i + 1) s₈.heap η₈ pr' →
            s₈.heap.get? D = some { cls := .type "list", data := .seq its.toArray n } → Rvs c.P s₈.heap η₈ pr' ws its → Step A (fun b => NN b ∨ J b) η h₄ η₈ s₈.heap →
            ∀ {EE : Value → Shared → Prop}, wpAny c.M A (eval elt cenv) (fun x s₄ => wpAny c.M A (call (.builtin "list.append") [.ref D, x]) (fun _ s₅ => ∃ m, m < vs.length + 1 - i ∧ ∃ i ws τ' η' its n, m = vs.length + 1 - i ∧ i ≤ vs.length ∧ ws.length ≤ i ∧ CompLG c d nmC t xs cnd elt K G (vs.drop i) ws τ' η' ∧ Inv c η' pr' A s₅ ∧ FrameR c s₅.heap η' pr' nmC cenv τ' ∧ St i s₅.heap η' pr' ∧
                s₅.heap.get? D = some { cls := .type "list", data := .seq (its : List Value).toArray n } ∧ Rvs c.P s₅.heap η' pr' ws its ∧ Step A (fun b => NN b ∨ J b) η h₄ η' s₅.heap) EE s₄) EE s₈ := by
          intro s₈ η₈ se I₈ F₈ st₈ gD₈ rs₈ stp₈ EE
          refine wpAny_mono (se A cenv s₈ pr' o I₈ F₈) (fun x₉ s₉ hq => ?_) fun _ _ e => e.absurd
          obtain ⟨w₉, η₉, cl₉, I₉, rw₉, stp₉⟩ := hq
          have m₉ := stp₉.toMono (pr := pr') (fun _ q => q.elim) I₈.frs
          have gD₉ := stp₉.same D _ gD₈ (I₈.privs D prD).2.1 (fun q => q) (nfrNN D (.inl rfl))
          have hsz : its.toArray.size ≤ sizeLine := by
            simp only [List.size_toArray, rvs_length rs₈]; exact Nat.le_trans hws (Nat.le_trans hi hz)
          refine wpAny_list_append_plain (l := D) (items := its.toArray) ⟨n, gD₉⟩ (fun h' pl sb => ?_) hsz
          obtain ⟨n', pl⟩ := pl
          have kD : ∀ b ob, ¬ b = D → s₉.heap.get? b = some ob → h'.get? b = some ob := fun b ob nb e => (sb.2 b nb).trans e
          have exD : ∀ b, b = D → ∃ ob, h'.get? b = some ob := fun b e => ⟨_, e ▸ pl⟩
          have inD : ∀ b, b = D → pr' b := fun b e => e ▸ prD
          have mD : Mono pr' η₉ s₉.heap η₉ pr' h' := ⟨fun b ob e _ p => kD b ob (fun q => p (inD b q)) e, fun _ e => e, fun b ob e n p => ⟨n, p⟩⟩
          have F₉ := F₈.step I₈ stp₉
          have st₉ : St (i + 1) s₉.heap η₉ pr' := itr.move st₈ m₉ fun b j ob e => stp₉.same b ob e (I₈.privs b (hJ' b j)).2.1 (fun q => q) (hJf b j)
          refine ⟨vs.length + 1 - (i + 1), by omega, i + 1, ws ++ [w₉], τ₇, η₉, its ++ [x₉], n', rfl, hlt, by rw [List.length_append]; simp only [List.length_singleton]; omega, cl₉, I₉.wr (J := fun b => b = D) kD inD exD (fun b e => e ▸ nfrNN D (.inl rfl)) s₉.toks,
            F₉.wr (J := fun b => b = D) kD inD (fun b e => e ▸ DnotOwn), itr.move st₉ mD fun b j ob e => kD b ob (fun q => NNnotJ D (.inl rfl) (q ▸ j)) e, ?_, ?_, (stp₈.trans stp₉.own).trans (Step.wr (J := fun b => b = D) kD exD fun b e => .inl (.inl e))⟩
          · show h'.get? D = _
            rw [pl]; simp
          · exact rvs_append (Rvs.mono mD _ (Rvs.mono m₉ _ rs₈)) ⟨x₉, [], rfl, Rv.mono mD _ rw₉, rfl⟩
        cases cnd with
        | none =>
          refine wpAny_tests_nil ?_
          rw [if_pos rfl]
          exact app s₇ η₅ k₇ I₇ F₇ st₇ gD₇ rs₇ stp₇'
        | some cq =>
          refine wpAny_tests_one (wpAny_mono (k₇ A cenv s₇ pr' o I₇ F₇) (fun b s₈ hq => ?_) fun _ _ e => e.absurd)
          obtain ⟨η₈, hb, I₈, stp₈⟩ := hq
          have m₈ := stp₈.toMono (pr := pr') (fun _ q => q.elim) I₇.frs
          have gD₈ := stp₈.same D _ gD₇ (I₇.privs D prD).2.1 (fun q => q) (nfrNN D (.inl rfl))
          have F₈ := F₇.step I₇ stp₈
          have st₈ : St (i + 1) s₈.heap η₈ pr' := itr.move st₇ m₈ fun b j ob e => stp₈.same b ob e (I₇.privs b (hJ' b j)).2.1 (fun q => q) (hJf b j)
          cases b with
          | true =>
            rw [if_pos rfl]
            exact app s₈ η₈ hb I₈ F₈ st₈ gD₈ (Rvs.mono m₈ _ rs₇) (stp₇'.trans stp₈.own)
          | false =>
            rw [if_neg (by decide)]
            exact ⟨vs.length + 1 - (i + 1), by omega, i + 1, ws, τ₇, η₈, its, n, rfl, hlt, by omega, hb, I₈, F₈, st₈, gD₈, Rvs.mono m₈ _ rs₇, stp₇'.trans stp₈.own⟩
      · cases r with
        | none => exact q.elim
        | some x => exact q
    · have hin : i = vs.length := by omega
      subst hin
      rw [List.drop_length] at cl₅
      unfold CompLG at cl₅
      refine itr.done (η := η₅) (pr := pr') I₅ cl₅.1 st₅ fun h₆ tk₆ k₆ => ?_
      obtain ⟨mC, nsC₅⟩ := F₅.ns
      rw [eL] at nsC₅
      have gD₆ := k₆ D _ (NNnotJ D (.inl rfl)) gD₅
      have I₆ : Inv c η₅ (fun b => pr b ∨ NN b) A { s₅ with heap := h₆, toks := tk₆ } := I₅.end k₆ (fun b q j => by
        rcases q with q | q
        · have := prs b q; rw [hJ b j] at this; cases this
        · exact NNnotJ b q j) (fun b f => .inl (I.frs b f)) tk₆
      have stAll : Step A noOwn η s.heap η₅ s₅.heap := ((Step.of_keeps keep4).trans (stp₅.weak (own' := fun b => noOwn b ∨ (NN b ∨ J b)) fun b q => .inr q)).drop fun b q => q.elim (NNs b) (hJ b)
      refine fin ws η₅ _ D C its n mC cl₅.2 (Nat.le_trans hws hz) (I₆.less (fun b q => q.imp id fun e => e.elim (fun e => .inr (.inl e)) .inl) fun b f => .inl (I.frs b f)) gD₆ ?_ (I₅.privs D prD).2.1 (fun q => ?_) (I₅.privs D prD).2.2 (NNs D (.inl rfl)) (NNs C (.inr (.inl rfl))) ?_ ?_
      · refine Rvs.mono ⟨fun b ob e _ p => k₆ b ob (fun j => p (hJ' b j)) e, fun _ e => e, fun b ob e n p => ⟨n, fun q => p ?_⟩⟩ _ rs₅
        rcases q with q | q
        · exact .inl (.inl q)
        · rcases q with q | q
          · exact .inl (.inr (.inr (.inl q)))
          · exact .inl (.inr (.inl q))
      · rcases q with q | q
        · have := prs D q; rw [NNs D (.inl rfl)] at this; cases this
        · exact DneC q
      · exact ns_upto nsC₅ fun ob e => ⟨ob.slots, k₆ C ob (NNnotJ C (.inr (.inl rfl))) e⟩
      · exact stAll.then_keep k₆ hJ
  exact codeAny_compStart_list (hcenv ▸ start _ rfl) (itr.self (η := η) (pr := pr') st4 (hcenv ▸ start _ rfl))

theorem compNames (ok : compOk scope xs = true) : scope.kind = .function ∧ ∀ y ∈ scope.names, y.2 = .local → scope.names.lookup y.1 = some .local := by
  unfold compOk at ok
  simp only [Bool.and_eq_true, beq_iff_eq, decide_eq_true_eq] at ok
  obtain ⟨⟨hkind, hnd⟩, _⟩ := ok
  refine ⟨hkind, fun y m e => ?_⟩
  obtain ⟨n, k⟩ := y
  dsimp only at e
  subst e
  exact lookup_of_mem hnd m

/-- a comprehension: a new list that nothing changes -/
theorem SE.compJ (xs : List Str) (cnd : Option Expr) (cap : CapR nm σ scope.names nmC τ)
    (p : SJ c d nm σ η iter t (fun G vs η₁ => vs.length ≤ sizeLine ∧ CompLG c d nmC t xs cnd elt (fun ws η₂ => Q (.lst ws) η₂) G vs [] τ η₁) X)
    (ok : compOk scope xs = true := by decide +kernel) (hs : ∀ env x, foldedSetIterable iter env x = pure x := by intro _ _; with_unfolding_all rfl) :
    SE c d true nm σ η (.ListComp elt [⟨t, iter, ifsOf cnd, 0⟩] scope pos) Q X := by
  intro A env s pr o I F
  rw [eval_ListComp]
  obtain ⟨hkind, hnames⟩ := compNames ok
  refine wpAny_comprehension_free (use := Option.none) (e := .ListComp elt [⟨t, iter, ifsOf cnd, 0⟩] scope pos) (g := ⟨t, iter, ifsOf cnd, 0⟩) (gs := []) rfl (hs env) (closure_eq (cap.free F)) hkind hnames (p A env s pr _ _ o I F (fun _ _ e => e) fun G vs η₁ s₁ h₂ tk J I₀ St k I₁ st itr hJ hJf keep st0 => ?_)
  obtain ⟨hz, cl⟩ := k
  refine comp_core ok o I₁ (F.step I st) cap itr hJ hJf keep st0 hz cl fun ws η' s' D C its n m k hl I' gD rs ηD nD bD sD sC ns stp => ?_
  have I' := I'.less (pr := fun b => pr b ∨ b = C) (fun b q => q.imp id .inl) fun b f => .inl (I.frs b f)
  have rs := Rvs.mono (Mono.down (pr := fun b => pr b ∨ b = C) fun b q => q.imp id .inl) _ rs
  refine ⟨m, ns, fun h' sb => ?_⟩
  have kC : ∀ b ob, ¬ b = C → s'.heap.get? b = some ob → h'.get? b = some ob := fun b ob nb e => (sb.2 b nb).trans e
  have nCpr : ∀ b, pr b → ¬ b = C := fun b q e => by
    subst e
    have := (I₁.privs _ q).1; rw [sC] at this; cases this
  have DneC : ¬ D = C := fun e => nD (.inr e)
  refine ⟨.lst ws, η', k, I'.end (J := fun b => b = C) kC nCpr I.frs s'.toks, ?_, (st.trans stp).then_keep (J := fun b => b = C) kC fun b e => ?_⟩
  · unfold Rv
    exact ⟨D, its, n, rfl, kC D _ DneC gD, ⟨ηD, fun q => nD (.inl q)⟩, hl, Rvs.mono ⟨fun b ob e _ p => kC b ob (fun q => p (.inr q)) e, fun _ e => e, fun b ob e n p => ⟨n, fun q => p (.inl q)⟩⟩ _ rs⟩
  · subst e
    cases q : s.heap.get? b with
    | none => rfl
    | some ob => have := st.there b ob q; rw [sC] at this; cases this

theorem SE.comp (xs : List Str) (cnd : Option Expr) (cap : CapR nm σ scope.names nmC τ)
    (p : SE c d true nm σ η iter (fun v η₁ => ∃ vs, SI c d t v η₁ vs ∧ vs.length ≤ sizeLine ∧ CompL c d nmC t xs cnd elt (fun ws η₂ => Q (.lst ws) η₂) vs [] τ η₁) X)
    (ok : compOk scope xs = true := by decide +kernel) (hs : ∀ env x, foldedSetIterable iter env x = pure x := by intro _ _; with_unfolding_all rfl) :
    SE c d true nm σ η (.ListComp elt [⟨t, iter, ifsOf cnd, 0⟩] scope pos) Q X := SE.compJ xs cnd cap (SJ.of (p.mono (fun _ _ ⟨vs, a, b, e⟩ => ⟨vs, a, b, e.toG⟩) fun _ _ q => q)) ok hs
/-- a comprehension that a name takes -/
theorem SX.assignComp {x : Str} {px : Pos} {spos : Pos} (xs : List Str) (cnd : Option Expr) (cap : CapR nm σ scope.names nmC τ) (hk : (x, NameKind.local) ∈ nm ∨ (x, NameKind.cell) ∈ nm)
    (p : SE c d true nm σ η iter (fun v η₁ => ∃ vs, SI c d t v η₁ vs ∧ vs.length ≤ sizeLine ∧ CompL c d nmC t xs cnd elt (fun ws η₂ => ∃ σ', Put nm σ x (.lst ws) σ' ∧ N σ' η₂) vs [] τ η₁) X)
    (hl : (px.line == pos.line) = true := by with_unfolding_all rfl) (hn : (scope.names.any fun (n, k) => n == x && (k == .local || k == .cell)) = false := by decide +kernel)
    (ok : compOk scope xs = true := by decide +kernel) (hs : ∀ env x, foldedSetIterable iter env x = pure x := by intro _ _; with_unfolding_all rfl) :
    SX c d true nm σ η (.Assign [.Name x px] (.ListComp elt [⟨t, iter, ifsOf cnd, 0⟩] scope pos) spos) N R X := by
  rcases hk with hk | hk
  · intro A env s pr outer o I F h1 h2
    have kb : env.blockKind = .function := by unfold Env.blockKind; rw [F.kind]; rfl
    have hsw : swapsWith (.ListComp elt [⟨t, iter, ifsOf cnd, 0⟩] scope pos) (some (.Name x px)) spos.line env = pure true := by
      unfold swapsWith
      have e1 : ((Expr.ListComp elt [⟨t, iter, ifsOf cnd, 0⟩] scope pos).pos.line) = pos.line := rfl
      simp only [pure_bind, kb, F.kindOf hk, e1, hl, hn, beq_self_eq_true, Bool.and_self, Bool.not_false]
    rw [exec_Assign_Name_used _ _ _ _ hsw]
    obtain ⟨hkind, hnames⟩ := compNames ok
    refine wpAny_bind (wpAny_standAt (wpAny_bind ?_))
    show wpAny _ A (do let _ ← comprehension (.ListComp elt [⟨t, iter, ifsOf cnd, 0⟩] scope pos) scope env _ (newList []) false (eval iter env) (some (PySem.assign (.Name x px) env))) _ _ s
    refine wpAny_bind (wpAny_mono (wpAny_comprehension_free (use := some (PySem.assign (.Name x px) env)) (Q := fun _ s' => FPost c A pr nm env η s.heap N R .next s') (e := .ListComp elt [⟨t, iter, ifsOf cnd, 0⟩] scope pos) (g := ⟨t, iter, ifsOf cnd, 0⟩) (gs := []) rfl (hs env) (closure_eq (cap.free F)) hkind hnames
      ((SJ.of (K := fun G vs η₁ => vs.length ≤ sizeLine ∧ CompLG c d nmC t xs cnd elt (fun ws η₂ => ∃ σ', Put nm σ x (.lst ws) σ' ∧ N σ' η₂) G vs [] τ η₁) (p.mono (fun _ _ ⟨vs, a, b, e⟩ => ⟨vs, a, b, e.toG⟩) fun _ _ q => q)) A env s pr _ _ o I F (fun _ _ e => e.weak fun _ q => q.elim) fun G vs η₁ s₁ h₂ tk J I₀ St k I₁ st itr hJ hJf keep st0 => ?_)) (fun _ s' hq => wpAny_pure (wpAny_pure hq)) fun _ _ e => e)
    obtain ⟨hz, cl⟩ := k
    have F₁ := F.step I st
    refine comp_core ok o I₁ F₁ cap itr hJ hJf keep st0 hz cl fun ws η' s' D C its n m k hlen I' gD rs ηD nD bD sD sC ns stp => ?_
    have I' := I'.less (pr := fun b => pr b ∨ b = C) (fun b q => q.imp id .inl) fun b f => .inl (I.frs b f)
    have rs := Rvs.mono (Mono.down (pr := fun b => pr b ∨ b = C) fun b q => q.imp id .inl) _ rs
    obtain ⟨σ', put, hN⟩ := k
    have nCpr : ∀ b, pr b → ¬ b = C := fun b q e => by
      subst e
      have := (I₁.privs _ q).1; rw [sC] at this; cases this
    have F₁' : FrameR c s₁.heap η₁ (fun b => pr b ∨ b = C) nm env σ := F₁.more (J := fun b => b = C) (fun _ _ e => e) fun b e => e ▸ sC
    have F' : FrameR c s'.heap η' (fun b => pr b ∨ b = C) nm env σ := by
      refine F₁'.move (stp.toMono (fun _ q => q.elim) fun b f => .inl (I.frs b f)) fun b q ob e => ?_
      rcases q with q | q
      · exact stp.upto b ob e (I₁.privs b q).2.1 fun q => q
      · rw [q, sC] at e; cases e
    have rD : Rv c.P s'.heap η' (fun b => pr b ∨ b = C) (.lst ws) (.ref D) := by
      unfold Rv; exact ⟨D, its, n, rfl, gD, ⟨ηD, nD⟩, hlen, rs⟩
    refine wpAny_assign_Name (store_var I' F' put rD fun s₂ I₂ F₂ st₂ _ => ?_)
    have ownC : ¬ ownOf env C := fun q => by
      rcases q with q | ⟨z, q⟩
      · exact nCpr _ F.nsp q.symm
      · exact nCpr _ (F.cells z C q).1 rfl
    obtain ⟨oC, eC⟩ : ∃ ob, s'.heap.get? C = some ob := by obtain ⟨ob, _, _, e, _⟩ := ns; exact ⟨ob, e⟩
    have nfC : ¬ isFr A C := fun f => nCpr C (I.frs C f) rfl
    have ns₂ : s₂.heap.Ns C m := ns_upto ns fun ob e => ⟨ob.slots, st₂.same C ob e (I'.privs C (.inr rfl)).2.1 (fun q => ownC (ownX_of C q)) nfC⟩
    refine ⟨m, ns₂, fun h' sb => ?_⟩
    have kC : ∀ b ob, ¬ b = C → s₂.heap.get? b = some ob → h'.get? b = some ob := fun b ob nb e => (sb.2 b nb).trans e
    refine ⟨σ', η', hN, I₂.end (J := fun b => b = C) kC nCpr I.frs s₂.toks, F.down (F₂.wr (J := fun b => b = C) kC (fun b e => .inr e) fun b e => e ▸ ownC) fun b q => .inl q,
      ((st.own.trans stp.own).trans (st₂.weak ownX_of)).then_keep (J := fun b => b = C) kC fun b e => ?_⟩
    subst e
    cases q : s.heap.get? b with
    | none => rfl
    | some ob => have := st.there b ob q; rw [sC] at this; cases this
  · intro A env s pr outer o I F h1 h2
    have hsw : swapsWith (.ListComp elt [⟨t, iter, ifsOf cnd, 0⟩] scope pos) (some (.Name x px)) spos.line env = pure false := by
      unfold swapsWith
      have : (some NameKind.cell == some NameKind.local) = false := by decide
      simp only [pure_bind, F.kindOf hk, this, Bool.and_false, Bool.false_and]
    refine wpAny_Assign_Name (wpAny_mono ((SE.comp (Q := fun v η₁ => ∃ σ', Put nm σ x v σ' ∧ N σ' η₁) xs cnd cap p ok hs) A env s pr o I F) (fun y s₁ hq => ?_) fun _ _ e => e.weak fun _ q => q.elim) hsw
    obtain ⟨v, η₁, ⟨σ', pt, q⟩, I₁, rv, st⟩ := hq
    exact store_var I₁ (F.step I st) pt rv fun s₂ I₂ F₂ st₂ _ => ⟨σ', η₁, q, I₂, F₂, st.own.trans (st₂.weak ownX_of)⟩
theorem SS.assignComp {x : Str} {px : Pos} {spos : Pos} (xs : List Str) (cnd : Option Expr) (cap : CapR nm σ scope.names nmC τ) (hk : (x, NameKind.local) ∈ nm ∨ (x, NameKind.cell) ∈ nm)
    (p : SE c d true nm σ η iter (fun v η₁ => ∃ vs, SI c d t v η₁ vs ∧ vs.length ≤ sizeLine ∧ CompL c d nmC t xs cnd elt (fun ws η₂ => ∃ σ', Put nm σ x (.lst ws) σ' ∧ SS c d true nm σ' η₂ rest N R X) vs [] τ η₁) X)
    (hl : (px.line == pos.line) = true := by with_unfolding_all rfl) (hn : (scope.names.any fun (n, k) => n == x && (k == .local || k == .cell)) = false := by decide +kernel)
    (ok : compOk scope xs = true := by decide +kernel) (hs : ∀ env x, foldedSetIterable iter env x = pure x := by intro _ _; with_unfolding_all rfl) :
    SS c d true nm σ η (.Assign [.Name x px] (.ListComp elt [⟨t, iter, ifsOf cnd, 0⟩] scope pos) spos :: rest) N R X := SS.cons (SX.assignComp xs cnd cap hk p hl hn ok hs)
end
end Mine

namespace Mine
open PySem PyProof.Rows PySem.W

/-- the items of a range -/
noncomputable def rngL (lo hi : Int) : List V := (List.range (hi - lo).toNat).map fun k => V.int (lo + (k : Nat))
section
variable {c : Cx} {A : Around} {pr : Pr} {η : Hp} {s : Shared} {d : Nat} {hd : Bool} {Q : V → Hp → Prop} {X : Addr → Hp → Prop} {t : Expr}

theorem SC.range1 {n : Int} (q : Q (.rng 0 n) η) : SC c d hd (.type "range") [.int n] η Q X := by
  intro A s pr xs o I r
  obtain ⟨y, rfl, ry⟩ := rvs1 r
  unfold Rv at ry; obtain ⟨u, rfl⟩ := ry
  refine call_range_1 ?_
  exact Post.pure (v := .rng 0 n) I (fun _ _ e => Heap.get?_push_of_some _ e) ⟨_, _, _, _, rfl, Heap.get?_push_size _ rfl, Rvs.fresh (vs := []) (xs := []) I⟩ q
theorem SI.rng {lo hi : Int} (h1 : -(2 ^ 60) ≤ lo) (h2 : hi < 2 ^ 60) (h3 : lo < 2 ^ 60) (h4 : -(2 ^ 60) ≤ hi) : SI c d t (.rng lo hi) η (rngL lo hi) := by
  intro A s pr y QQ E o I r hQ
  unfold Rv at r; obtain ⟨a, t1, t2, t3, rfl, ho, n1, n2⟩ := r
  have hsize : Builtin.Range.rangeSize lo hi 1 = ((hi - lo).toNat : Int) := by
    unfold Builtin.Range.rangeSize
    rw [if_pos (by decide)]
    split <;> omega
  have fit : ∀ x : Int, -(2 ^ 61) ≤ x → x < 2 ^ 61 → Builtin.Range.rangeFitsLong x = true := fun x a b => by
    unfold Builtin.Range.rangeFitsLong; simp; omega
  have small : Builtin.Range.small lo hi 1 = true := by
    unfold Builtin.Range.small
    rw [hsize, fit lo (by omega) (by omega), fit hi (by omega) (by omega), fit 1 (by omega) (by omega), fit _ (by omega) (by omega), if_pos (by decide), fit _ (by omega) (by omega)]
    simp
  refine wpAny_pyIter_range ho small ?_
  have keep : ∀ b ob, s.heap.get? b = some ob → (s.heap.push { cls := .type "range_iterator", data := .fields #[rawInt lo, rawInt (Builtin.Range.rangeSize lo hi 1), rawInt 1] }).get? b = some ob := fun b ob e => Heap.get?_push_of_some _ e
  refine hQ _ s.toks (fun b => b = s.heap.objs.size) s.heap.objs.size _
    (itr_walks (P := fun i v => ∃ t, v = .int (lo + i * 1) t) (K := fun _ h η pr => True) (cls := "range_iterator")
      (Walks.range (o.handled rfl) s.heap.objs.size lo 1 (hi - lo).toNat) (by simp [rngL]) (by decide +kernel) (fun st => ⟨_, _, st, rfl, rfl⟩) (fun _ _ => trivial) ?_ ?_)
    (fun b e => by cases e; exact fresh_none s) (fresh_frame I) keep ⟨?_, trivial⟩
  · intro h η pr b st hb
    simp only [List.mem_cons, List.not_mem_nil, or_false] at hb
    exact .inl hb
  · intro i y h η pr v st hp hv
    obtain ⟨tk, rfl⟩ := hp
    unfold rngL at hv
    rw [List.getElem?_map] at hv
    obtain ⟨k, hk, rfl⟩ := Option.map_eq_some_iff.mp hv
    have : k = i := by
      rw [List.getElem?_eq_some_iff] at hk
      obtain ⟨hl, e⟩ := hk
      simpa using e.symm
    subst this
    exact ⟨tk, by rw [Int.mul_one]⟩
  · show IsRangeIter _ _ _ _ _
    have := Heap.get?_push_size s.heap (o := { cls := .type "range_iterator", data := .fields #[rawInt lo, rawInt (Builtin.Range.rangeSize lo hi 1), rawInt 1] }) rfl
    rw [hsize] at this
    rw [hsize]
    simpa using this
end
end Mine

namespace Mine
open PySem PyProof.Rows PySem.W
section
variable {c : Cx} {η : Hp} {d : Nat} {nm : List (Str × NameKind)} {σ τ : List (Option V)} {t elt : Expr} {xs : List Str} {cnd : Option Expr} {K : List V → Hp → Prop} {x y : Str} {px py tp : Pos}

theorem SA.forget {v : V} {KK : List (Option V) → Prop} (l : Less τ σ) (p : SA c d nm τ η t xs v KK) : SA c d nm σ η t xs v KK :=
  fun A env s pr y QQ E o I F r q => p A env s pr y QQ E o I (F.less l) r q
theorem CompL.forget (l : Less τ σ) : ∀ {vs ws : List V}, CompL c d nm t xs cnd elt K vs ws τ η → CompL c d nm t xs cnd elt K vs ws σ η
  | [], _, p => by unfold CompL at p ⊢; exact p
  | v :: vs, _, p => by unfold CompL at p ⊢; exact SA.forget l p

end
end Mine

namespace Mine
open PySem PyProof.Rows PySem.W

noncomputable def byOf (t b : Int) : Int := if b < 0 then 0 - (Int.gcd t b : Int) else Int.gcd t b
noncomputable def shareOf (t b : Int) : V := .tup [.int (t.fdiv (byOf t b)), .int (b.fdiv (byOf t b))]
theorem byOf_ne {t b : Int} (h : b ≠ 0) : byOf t b ≠ 0 := by
  have : 0 < Int.gcd t b := Int.gcd_pos_of_ne_zero_right _ h
  unfold byOf; split <;> omega
theorem byOf_small {t b : Int} (h : b ≠ 0) : (byOf t b).natAbs ≤ b.natAbs := by
  have : Int.gcd t b ≤ b.natAbs := Int.gcd_le_natAbs_right _ h
  unfold byOf; split <;> omega
theorem byOf_abs {t b : Int} : (byOf t b).natAbs = Int.gcd t b := by unfold byOf; split <;> omega
theorem byOf_dvd_left {t b : Int} : byOf t b ∣ t := by
  rw [← Int.natAbs_dvd_natAbs, byOf_abs]; exact Int.ofNat_dvd.mp (by rw [Int.dvd_natAbs]; exact Int.gcd_dvd_left ..)
theorem byOf_dvd_right {t b : Int} : byOf t b ∣ b := by
  rw [← Int.natAbs_dvd_natAbs, byOf_abs]; exact Int.ofNat_dvd.mp (by rw [Int.dvd_natAbs]; exact Int.gcd_dvd_right ..)

/-- the normal form of a share -/
structure Normal (t b p q : Int) : Prop where
  pos : 1 ≤ q
  cop : Int.gcd p q = 1
  eq : p * b = t * q
  top : p.natAbs ≤ t.natAbs
  bot : q.natAbs ≤ b.natAbs
theorem shareOf_normal {t b : Int} (h : b ≠ 0) : Normal t b (t.fdiv (byOf t b)) (b.fdiv (byOf t b)) := by
  have hg := @byOf_ne t b h
  have d1 := @byOf_dvd_left t b
  have d2 := @byOf_dvd_right t b
  have ab := @byOf_abs t b
  rw [Int.fdiv_eq_ediv_of_dvd d1, Int.fdiv_eq_ediv_of_dvd d2]
  generalize hG : byOf t b = g at *
  obtain ⟨p, hp⟩ := d1
  obtain ⟨q, hq⟩ := d2
  have e1 : t / g = p := by rw [hp]; exact Int.mul_ediv_cancel_left _ hg
  have e2 : b / g = q := by rw [hq]; exact Int.mul_ediv_cancel_left _ hg
  rw [e1, e2]
  have gpos : 0 < g.natAbs := Int.natAbs_pos.mpr hg
  have cop : Int.gcd p q = 1 := by
    have : Int.gcd (g * p) (g * q) = g.natAbs * Int.gcd p q := Int.gcd_mul_left ..
    rw [← hp, ← hq, ← ab] at this
    have e3 : g.natAbs * 1 = g.natAbs * Int.gcd p q := by omega
    exact (Nat.eq_of_mul_eq_mul_left gpos e3).symm
  refine ⟨?_, cop, by rw [hp, hq]; simp only [Int.mul_comm, Int.mul_left_comm, Int.mul_assoc], ?_, ?_⟩
  · have q0 : q ≠ 0 := fun e => h (by rw [hq, e, Int.mul_zero])
    by_cases hb : b < 0
    · have hgn : g < 0 := by
        have : 0 < Int.gcd t b := Int.gcd_pos_of_ne_zero_right _ h
        rw [← hG]; unfold byOf; rw [if_pos hb]; omega
      by_cases hq0 : q < 0
      · have := Int.mul_pos_of_neg_of_neg hgn hq0; omega
      · omega
    · have hgn : 0 < g := by
        have : 0 < Int.gcd t b := Int.gcd_pos_of_ne_zero_right _ h
        rw [← hG]; unfold byOf; rw [if_neg hb]; omega
      by_cases hq0 : q < 0
      · have := Int.mul_neg_of_pos_of_neg hgn hq0; omega
      · omega
  · rw [hp, Int.natAbs_mul]; exact Nat.le_mul_of_pos_left _ gpos
  · rw [hq, Int.natAbs_mul]; exact Nat.le_mul_of_pos_left _ gpos

section
variable {c : Cx} {η : Hp} {d : Nat} {hd : Bool} {Q : V → Hp → Prop} {X : Addr → Hp → Prop} {v : V}
theorem S2.mulB {vs : List V} {b : Bool} (hz : vs.length ≤ sizeLine) (q : Q (.lst (if b then vs else [])) η) : S2 c d hd (binaryOp .Mult) (.lst vs) (.int (if b then 1 else 0)) η Q X := by
  cases b with
  | true => exact S2.mulL (by decide) (by decide) (by simpa using hz) (by simpa using q)
  | false => exact S2.mulL (by decide) (by decide) (by simp) (by simpa using q)
theorem SC.join_of {u : Str} {vs : List V} {ys : List Str} (e : vs = ys.map V.str) (hz : (ys.map (·.length)).sum + ys.length * u.length ≤ 16777216) (q : Q (.str (Txt.join u ys)) η) : SC c d hd (.builtin "str.join") [.str u, .lst vs] η Q X := by
  subst e; exact SC.join_lst hz q
end
end Mine

namespace Mine
open PySem PyProof.Rows PySem.W
section
variable {c : Cx} {K : Params → Frag} {gt bt : List (Str × Value)} {η : Hp} {d : Nat} {hd : Bool} {nm : List (Str × NameKind)} {σ : List (Option V)}
  {Q R : V → Hp → Prop} {X : Addr → Hp → Prop} {v w : V} {x : Str} {pos : Pos}

theorem A.var {kd : NameKind} (q : Q v η) (a : At nm σ x kd v := by with_reducible (repeat (first | exact At.head | apply At.tail))) (hn : (x == ("__debug__" : Str)) = false := by decide +kernel) (hc : (x == ("__classdict__" : Str)) = false := by decide +kernel) :
    SE c d hd nm σ η (.Name x pos) Q X := SE.var a q hn hc
theorem A.gname {g : Value} (q : Q (.glob g) η) (W : Wd c K gt bt := by assumption) (m : (x, NameKind.globalImplicit) ∈ nm := by with_reducible (repeat (first | exact List.mem_cons_self | apply List.mem_cons_of_mem)))
    (mg : (x, g) ∈ gt := by with_reducible (repeat (first | exact List.mem_cons_self | apply List.mem_cons_of_mem))) (hn : (x == ("__debug__" : Str)) = false := by decide +kernel) : SE c d hd nm σ η (.Name x pos) Q X := SE.gname W m mg q hn
theorem A.bname {g : Value} (q : Q (.glob g) η) (W : Wd c K gt bt := by assumption) (m : (x, NameKind.globalImplicit) ∈ nm := by with_reducible (repeat (first | exact List.mem_cons_self | apply List.mem_cons_of_mem)))
    (mg : (x, g) ∈ bt := by with_reducible (repeat (first | exact List.mem_cons_self | apply List.mem_cons_of_mem))) (hn : (x == ("__debug__" : Str)) = false := by decide +kernel) : SE c d hd nm σ η (.Name x pos) Q X := SE.bname W m mg q hn
theorem A.gcall {f : Str} {fp : Pos} {es : List Expr} {a : Addr} (p : SL c d hd nm σ η es (fun vs η₁ => SC c d hd (.ref a) vs η₁ Q X) X) (W : Wd c K gt bt := by assumption)
    (m : (f, NameKind.globalImplicit) ∈ nm := by with_reducible (repeat (first | exact List.mem_cons_self | apply List.mem_cons_of_mem))) (mg : (f, .ref a) ∈ gt := by with_reducible (repeat (first | exact List.mem_cons_self | apply List.mem_cons_of_mem)))
    (hf : fnIn (K c.P) a = true := by kernel_rfl) (hs : es.any star? = false := by with_unfolding_all rfl) (hn : (f == ("__debug__" : Str)) = false := by decide +kernel) : SE c d hd nm σ η (.Call (.Name f fp) es [] pos) Q X := SE.gcall W m mg hf p hs hn
theorem A.bcall {f id : String} {fp : Pos} {es : List Expr} (p : SL c d hd nm σ η es (fun vs η₁ => SC c d hd (.builtin id) vs η₁ Q X) X) (W : Wd c K gt bt := by assumption)
    (m : (Str.ofString f, NameKind.globalImplicit) ∈ nm := by with_reducible (repeat (first | exact List.mem_cons_self | apply List.mem_cons_of_mem))) (mg : (Str.ofString f, .builtin id) ∈ bt := by with_reducible (repeat (first | exact List.mem_cons_self | apply List.mem_cons_of_mem)))
    (hs : es.any star? = false := by with_unfolding_all rfl) (hn : ((Str.ofString f) == ("__debug__" : Str)) = false := by decide +kernel) : SE c d hd nm σ η (.Call (.Name (Str.ofString f) fp) es [] pos) Q X := SE.bcall W m mg p hs hn
theorem A.tcall {f id : String} {fp : Pos} {es : List Expr} (p : SL c d hd nm σ η es (fun vs η₁ => SC c d hd (.type id) vs η₁ Q X) X) (W : Wd c K gt bt := by assumption)
    (m : (Str.ofString f, NameKind.globalImplicit) ∈ nm := by with_reducible (repeat (first | exact List.mem_cons_self | apply List.mem_cons_of_mem))) (mg : (Str.ofString f, .type id) ∈ bt := by with_reducible (repeat (first | exact List.mem_cons_self | apply List.mem_cons_of_mem)))
    (hs : es.any star? = false := by with_unfolding_all rfl) (hn : ((Str.ofString f) == ("__debug__" : Str)) = false := by decide +kernel) : SE c d hd nm σ η (.Call (.Name (Str.ofString f) fp) es [] pos) Q X := SE.tcall W m mg p hs hn
theorem A.itup {e i : Expr} {vs : List V} {j : Int} {u : V} (q : Q u η) (h0 : 0 ≤ j := by decide) (hu : vs[j.toNat]? = some u := by with_unfolding_all rfl) (hs : notSlice i = true := by with_unfolding_all rfl) : S2 c d hd (subscriptTail e i) (.tup vs) (.int j) η Q X := S2.itemI_tup h0 hu q hs
theorem A.ilst {e i : Expr} {vs : List V} {j : Int} {u : V} (q : Q u η) (h0 : 0 ≤ j := by decide) (hu : vs[j.toNat]? = some u := by with_unfolding_all rfl) (hs : notSlice i = true := by with_unfolding_all rfl) : S2 c d hd (subscriptTail e i) (.lst vs) (.int j) η Q X := S2.itemI_lst h0 hu q hs
theorem A.put {y : Str} {P : List (Option V) → Prop} {σ' : List (Option V)} (k : P σ') (p : Put nm σ y v σ' := by with_reducible (repeat (first | exact Put.loc | exact Put.cell | apply Put.tail))) : ∃ σ', Put nm σ y v σ' ∧ P σ' := ⟨σ', p, k⟩
theorem A.len {n : Nat} {P : Prop} (k : P) (h : Nat.ble n 10000 = true := by with_unfolding_all rfl) : n ≤ sizeLine ∧ P := ⟨len_ok h, k⟩
end
end Mine

namespace Mine
open PySem PyProof.Rows PySem.W

theorem ints_rvs {P : Params} {h : Heap} {η : Hp} {pr : Pr} : ∀ {ns : List Int} {vs : List Value}, WellAll P h vs (ofPys (ns.map PyData.int)) → Rvs P h η pr (ns.map V.int) vs
  | [], _, w => by
    unfold List.map ofPys at w
    cases w; rfl
  | n :: ns, _, w => by
    rw [List.map_cons] at w
    unfold ofPys at w
    cases w with
    | cons a b =>
      unfold ofPy at a
      cases a
      exact ⟨_, _, rfl, ⟨_, rfl⟩, ints_rvs b⟩
theorem weight_ints : ∀ (ns : List Int) (n : Int), n ∈ ns → Builtin.Int.intBits n ≤ PyData.weightAll (ns.map PyData.int)
  | [], _, m => by cases m
  | k :: ns, n, m => by
    rw [List.map_cons]; unfold PyData.weightAll
    rcases List.mem_cons.mp m with rfl | m
    · have : PyData.weight (.int n) = Builtin.Int.intBits n := by unfold PyData.weight Builtin.Int.intBits; rfl
      omega
    · have := weight_ints ns n m
      omega
theorem bits_of_layable {ns : List Int} (h : (PyData.list (ns.map PyData.int)).layable0 = true) : ∀ n ∈ ns, Builtin.Int.intBits n ≤ 2 ^ 20 := by
  intro n m
  unfold PyData.layable0 at h
  simp only [Bool.and_eq_true, decide_eq_true_eq] at h
  have e : PyData.weight (.list (ns.map PyData.int)) = PyData.weightAll (ns.map PyData.int) := by unfold PyData.weight; rfl
  have := weight_ints ns n m
  omega

theorem law_end {claim : ClaimW} {cl : Str → Option Addr} {mean : ExcName → Option Value} {args : List WData} {prog : Program} {w : World} {s₁ : Shared} {mg mb : Str → Option Value} {p : Program} {loose : List Str} {mean' : ExcName → Option Value}
    {K : Params → Frag} {gt bt : List (Str × Value)} {ns : List Int} {l a fa : Addr} (T : Top p loose mean' mg mb s₁.heap) (KX : (K w.params).In s₁.heap) (hg : s₁.gens = #[])
    (h1 : gtOk (K w.params) gt = true) (h2 : btOk (K w.params) bt = true) (h3 : btOk' bt = true) (w1 : Well w.params s₁.heap (.ref l) (ofPy (.list (ns.map .int)))) (hlen : ns.length ≤ 63) (hL : (PyData.list (ns.map PyData.int)).layable0 = true)
    (hmg : mg (Str.ofString "law") = some (.ref fa)) (hma : (Str.ofString "law", .ref a) ∈ gt) (hr : ∀ cls, claim.raises args cls = false) (hp : claim.post args (.bool true) args = true)
    (hlaw : ∀ c : Cx, Wd c K gt bt → SC c 50 true (.ref a) [.lst (ns.map V.int)] (fun _ => none) (fun v _ => v = .bool true) noX) :
    wpAny (model prog w) callerA ((fun f vs => call f vs) (.ref fa) [.ref l]) (fun v s' => GoodWG claim cl mean args s₁ (.ok (.ret v)) s') (fun e s' => GoodWG claim cl mean args s₁ (.error e) s') s₁ := by
  let c : Cx := ⟨prog, w, s₁.heap, s₁.os, mg, mb, T.g, T.b, T.nolimit, T.nodigits⟩
  have W : Wd c K gt bt := Wd.of (c := c) KX h1 h2 h3 T.builtins
  have e : a = fa := by
    have := W.glob _ hma
    have q : mg (Str.ofString "law") = some (.ref a) := this
    rw [hmg] at q; injection q with q; injection q with q; exact q.symm
  subst e
  have I : Inv c (fun _ => none) (fun _ => False) callerA s₁ := by
    refine ⟨fun _ _ e => e, (fun a o e => by cases e), (fun a e => by cases e), (fun _ e => e.elim), ⟨[], rfl, trivial⟩, fun b f => ?_, rfl, hg⟩
    obtain ⟨env, m, _⟩ := f
    cases m
  have ok : Ok 50 true callerA := ⟨by decide, by decide, fun _ => rfl, rfl⟩
  have r : Rvs c.P s₁.heap (fun _ => none) (fun _ => False) [V.lst (ns.map V.int)] [.ref l] := by
    unfold ofPy at w1
    cases w1 with
    | list ho wa =>
      refine ⟨_, _, rfl, ?_, rfl⟩
      unfold Rv
      exact ⟨l, _, _, rfl, ho, ⟨rfl, fun q => q⟩, by rw [List.length_map]; exact Nat.le_trans hlen (by decide), ints_rvs wa⟩
  refine wpAny_mono (hlaw c W callerA s₁ (fun _ => False) [.ref l] ok I r) (fun v s' hq => ?_) fun _ _ e => e.absurd
  obtain ⟨u, η', rfl, I', rv, st⟩ := hq
  unfold Rv at rv; subst rv
  refine ⟨.inl ⟨_, .bool true, [], rfl, hr, ?_, hp, fun _ => ⟨List.nodup_nil, fun _ m => by cases m⟩⟩, ?_, I'.os, .of_eq I'.gens⟩
  · exact ReadsW.bool true
  · exact .of_keep fun b o e => st.same b o e rfl (fun q => q) fun f => by
      obtain ⟨env, m, _⟩ := f
      cases m
end Mine



namespace Mine
open PySem PyProof.Rows PySem.W

/-- one sign; the first signs, the others -/
noncomputable abbrev sgn (k : Nat) : Str := ⟨#[k]⟩
noncomputable def takeS (k : Nat) (x : Str) : Str := ⟨(x.cps.toList.take k).toArray⟩
noncomputable def dropS (k : Nat) (x : Str) : Str := ⟨(x.cps.toList.drop k).toArray⟩
noncomputable def repS (x : Str) (k : Nat) : Str := ⟨(List.replicate k x.cps).foldl (· ++ ·) #[]⟩

theorem takeS_eq (k : Nat) (x : Str) : StrLaws.sliceText x none (some (k : Int)) = takeS k x := by
  have e : StrLaws.sliceText x none (some (k : Int)) = StrLaws.sliceText x (some ((0 : Nat) : Int)) (some ((min k x.length : Nat) : Int)) := by
    unfold StrLaws.sliceText
    rw [StrLaws.sliceIdx_none_lo]
    by_cases h : k ≤ x.length
    · rw [Nat.min_eq_left h]; rfl
    · have h' : x.length ≤ k := by omega
      rw [Nat.min_eq_right h']
      have := PyProof.Rows.sliceIdx_hi_beyond x.length (j := (k : Int)) (by omega)
      rw [StrLaws.sliceIdx_none_lo, StrLaws.sliceIdx_none_lo] at this
      rw [this]; rfl
  rw [e, StrLaws.sliceText_nat x (Nat.zero_le _) (Nat.min_le_right _ _)]
  unfold takeS
  congr 2
  rw [List.drop_zero, Nat.sub_zero]
  have hl : x.length = x.cps.toList.length := by simp [Str.length]
  rw [hl]
  by_cases h : k ≤ x.cps.toList.length
  · rw [Nat.min_eq_left h]
  · rw [Nat.min_eq_right (by omega), List.take_length, List.take_of_length_le (by omega)]
theorem dropS_eq (k : Nat) (x : Str) : StrLaws.sliceText x (some (k : Int)) none = dropS k x := by
  have e : StrLaws.sliceText x (some (k : Int)) none = StrLaws.sliceText x (some ((min k x.length : Nat) : Int)) (some ((x.length : Nat) : Int)) := by
    unfold StrLaws.sliceText
    by_cases h : k ≤ x.length
    · rw [Nat.min_eq_left h, StrLaws.sliceIdx_none_hi]
    · have h' : x.length ≤ k := by omega
      rw [Nat.min_eq_right h', PyProof.Rows.sliceIdx_lo_beyond x.length (i := (k : Int)) (by omega), StrLaws.sliceIdx_none_hi]
  rw [e, StrLaws.sliceText_nat x (Nat.min_le_right _ _) (Nat.le_refl _)]
  unfold dropS
  congr 1
  have hl : x.length = x.cps.toList.length := by simp [Str.length]
  rw [hl]
  by_cases h : k ≤ x.cps.toList.length
  · rw [Nat.min_eq_left h, List.take_of_length_le (by simp)]
  · rw [Nat.min_eq_right (by omega), List.drop_length, List.drop_of_length_le (by omega)]; simp
theorem sliceText_le (x : Str) (l u : Option Int) : (StrLaws.sliceText x l u).length ≤ x.length := by
  unfold StrLaws.sliceText
  split
  · exact Nat.le_refl _
  · refine Nat.le_trans ?_ (PySem.sliceIndices_le l u x.length)
    simp only [Str.length, List.size_toArray]
    exact List.length_filterMap_le ..
theorem takeS_le (k : Nat) (x : Str) : (takeS k x).length ≤ x.length := by rw [← takeS_eq]; exact sliceText_le ..
theorem dropS_le (k : Nat) (x : Str) : (dropS k x).length ≤ x.length := by rw [← dropS_eq]; exact sliceText_le ..

section
variable {c : Cx} {A : Around} {pr : Pr} {η η' : Hp} {s : Shared} {d : Nat} {hd : Bool} {nm : List (Str × NameKind)} {σ : List (Option V)} {env : Env}
  {Q R : V → Hp → Prop} {B : Bool → Hp → Prop} {X : Addr → Hp → Prop} {v w : V} {x : Str} {pos p' : Pos} {K : Params → Frag} {gt bt : List (Str × Value)} {a b : Str} {t : Expr}

theorem Made.strPost {y : Str} {z : Made} (I : Inv c η pr A s) (h : (∃ t, z = .val (.str y t)) ∨ (z = .str y ∧ y.length ≤ sizeLine)) (q : Q (.str y) η) : z.post (Post c A noOwn pr η s.heap Q) s := by
  rcases h with ⟨t, rfl⟩ | ⟨rfl, h⟩
  · exact Post.val (v := .str y) I ⟨_, rfl⟩ q
  · exact ⟨h, Post.tok (v := .str y) I _ ⟨_, rfl⟩ q⟩
theorem str_nil (h : (a.length == 0) = true) : a = Str.empty := by
  have : a.cps.size = 0 := by simpa [Str.length] using h
  exact Str.ext' (Array.eq_empty_of_size_eq_zero this)
theorem S2.addS (hz : a.length + b.length ≤ sizeLine) (q : Q (.str (a ++ b)) η) : S2 c d hd (binaryOp .Add) (.str a) (.str b) η Q X := fun _ _ _ _ _ _ I r r' => by
  unfold Rv at r r'; obtain ⟨t, rfl⟩ := r; obtain ⟨u, rfl⟩ := r'
  refine PySem.P.add_str (Made.strPost (y := a ++ b) I ?_ q)
  split
  · rename_i h; exact .inl ⟨u, by rw [str_nil h, Str.empty_append]⟩
  · split
    · rename_i h; exact .inl ⟨t, by rw [str_nil h, Str.append_empty]⟩
    · exact .inr ⟨rfl, by rw [Str.length_append]; exact hz⟩
theorem S2.inS {k : Nat} (q : Q (.bool (decide (k ∈ a.cps.toList))) η) : S2 c d hd (compareOp .In) (.str (sgn k)) (.str a) η Q X := fun _ _ _ _ _ _ I r r' => by
  unfold Rv at r r'; obtain ⟨t, rfl⟩ := r; obtain ⟨u, rfl⟩ := r'
  refine PySem.P.in_str ?_
  rw [StrLaws.found_one]
  exact Post.val (v := .bool _) I rfl q
theorem S2.notInS {k : Nat} (q : Q (.bool (!decide (k ∈ a.cps.toList))) η) : S2 c d hd (compareOp .NotIn) (.str (sgn k)) (.str a) η Q X := fun _ _ _ _ _ _ I r r' => by
  unfold Rv at r r'; obtain ⟨t, rfl⟩ := r; obtain ⟨u, rfl⟩ := r'
  refine PySem.P.notIn_str ?_
  rw [StrLaws.found_one]
  exact Post.val (v := .bool _) I rfl q
theorem S2.item_str {e i : Expr} {k u : Nat} (hu : a.cps[k]? = some u) (hz : a.length ≤ sizeLine) (q : Q (.str (sgn u)) η) (hs : notSlice i = true := by with_unfolding_all rfl) : S2 c d hd (subscriptTail e i) (.str a) (.int k) η Q X := by
  intro A s pr y z o I r r'
  unfold Rv at r r'; obtain ⟨t, rfl⟩ := r; obtain ⟨t', rfl⟩ := r'
  have hk : k < a.length := (Array.getElem?_eq_some_iff.mp hu).1
  have := sizeLine_lt k (by omega)
  refine PyProof.Rows.tail_any (typeIs_str s a t) PySem.F.slot_str_getitem.lookup (PySem.P.getItem_str (i := (k : Int)) (c := u) ?_ ?_ (Post.tok (v := .str (sgn u)) I _ ⟨_, rfl⟩ q)) (subscripted_plain hs _ _)
  · rw [decide_eq_false (by omega), decide_eq_false (by omega)]; rfl
  · rw [seqIndex_nat hk]; exact hu

-- slices
theorem SE.sliceTo {e u : Expr} (p : SE c d hd nm σ η e (fun a η₁ => SE c d hd nm σ η₁ u (fun b η₂ => ∃ x k, a = .str x ∧ b = .int ((k : Nat) : Int) ∧ x.length ≤ sizeLine ∧ Q (.str (takeS k x)) η₂) X) X)
    (ht : ∀ o r, letTemporaryGo e o r = pure () := by intro _ _; with_unfolding_all rfl) : SE c d hd nm σ η (.Subscript e (.Slice Option.none (some u) Option.none p') pos) Q X := by
  intro A env s pr o I F
  refine wpAny_Subscript_str_slice (wpAny_mono (p A env s pr o I F) (fun y s₁ hq => ?_) fun _ _ e => e) ht
  obtain ⟨v, η₁, q, I₁, rv, st⟩ := hq
  rw [evalPart_none]
  refine wpAny_pure (wpAny_mono (q A env s₁ pr o I₁ (F.step I st)) (fun z s₂ hq => ?_) fun _ _ e => e.older st)
  obtain ⟨w, η₂, ⟨x, k, rfl, rfl, hz, q₂⟩, I₂, rw', st₂⟩ := hq
  unfold Rv at rv rw'
  obtain ⟨tx, rfl⟩ := rv
  obtain ⟨tk, rfl⟩ := rw'
  refine ⟨x, tx, Option.none, some ((k : Int), tk), rfl, rfl, rfl, ?_⟩
  have key : sliceMade x tx Option.none (some ((k : Int), tk)) Option.none = if ((1 : Int) == 1 && (Builtin.Str.strSliceIndices Option.none (some (k : Int)) 1 x.length).length == x.length) = true then Made.val (.str x tx) else Made.str ⟨((Builtin.Str.strSliceIndices Option.none (some (k : Int)) 1 x.length).filterMap (x.cps[·]?)).toArray⟩ := rfl
  have e2 := takeS_eq k x
  unfold StrLaws.sliceText at e2
  have keep : ∀ b o, s₂.heap.get? b = some o → (s₂.heap.push { cls := .type "slice", data := .fields #[Value.none, Value.int k tk, .none] }).get? b = some o := fun b o e => Heap.get?_push_of_some _ e
  rw [key]
  have fin : ∀ (tt : Tok) (n : Nat), Post c A noOwn pr η s.heap Q (.str (takeS k x) tt) { s₂ with heap := s₂.heap.push { cls := .type "slice", data := .fields #[Value.none, Value.int k tk, .none] }, toks := n } := fun tt n =>
    (Post.pure (v := .str (takeS k x)) I₂ keep ⟨_, rfl⟩ q₂).older (st.trans st₂)
  split
  · rename_i h; rw [if_pos h] at e2; rw [e2]; exact fin tx s₂.toks
  · rename_i h; rw [if_neg h] at e2; rw [e2]; exact ⟨Nat.le_trans (takeS_le k x) hz, fin _ _⟩
theorem SE.sliceFrom {e u : Expr} (p : SE c d hd nm σ η e (fun a η₁ => SE c d hd nm σ η₁ u (fun b η₂ => ∃ x k, a = .str x ∧ b = .int ((k : Nat) : Int) ∧ x.length ≤ sizeLine ∧ Q (.str (dropS k x)) η₂) X) X)
    (ht : ∀ o r, letTemporaryGo e o r = pure () := by intro _ _; with_unfolding_all rfl) : SE c d hd nm σ η (.Subscript e (.Slice (some u) Option.none Option.none p') pos) Q X := by
  intro A env s pr o I F
  refine wpAny_Subscript_str_slice (wpAny_mono (p A env s pr o I F) (fun y s₁ hq => ?_) fun _ _ e => e) ht
  obtain ⟨v, η₁, q, I₁, rv, st⟩ := hq
  refine wpAny_mono (q A env s₁ pr o I₁ (F.step I st)) (fun z s₂ hq => ?_) fun _ _ e => e.older st
  obtain ⟨w, η₂, ⟨x, k, rfl, rfl, hz, q₂⟩, I₂, rw', st₂⟩ := hq
  unfold Rv at rv rw'
  obtain ⟨tx, rfl⟩ := rv
  obtain ⟨tk, rfl⟩ := rw'
  rw [evalPart_none]
  refine wpAny_pure ⟨x, tx, some ((k : Int), tk), Option.none, rfl, rfl, rfl, ?_⟩
  have key : sliceMade x tx (some ((k : Int), tk)) Option.none Option.none = if ((1 : Int) == 1 && (Builtin.Str.strSliceIndices (some (k : Int)) Option.none 1 x.length).length == x.length) = true then Made.val (.str x tx) else Made.str ⟨((Builtin.Str.strSliceIndices (some (k : Int)) Option.none 1 x.length).filterMap (x.cps[·]?)).toArray⟩ := rfl
  have e2 := dropS_eq k x
  unfold StrLaws.sliceText at e2
  have keep : ∀ b o, s₂.heap.get? b = some o → (s₂.heap.push { cls := .type "slice", data := .fields #[Value.int k tk, Value.none, .none] }).get? b = some o := fun b o e => Heap.get?_push_of_some _ e
  rw [key]
  have fin : ∀ (tt : Tok) (n : Nat), Post c A noOwn pr η s.heap Q (.str (dropS k x) tt) { s₂ with heap := s₂.heap.push { cls := .type "slice", data := .fields #[Value.int k tk, Value.none, .none] }, toks := n } := fun tt n =>
    (Post.pure (v := .str (dropS k x)) I₂ keep ⟨_, rfl⟩ q₂).older (st.trans st₂)
  split
  · rename_i h; rw [if_pos h] at e2; rw [e2]; exact fin tx s₂.toks
  · rename_i h; rw [if_neg h] at e2; rw [e2]; exact ⟨Nat.le_trans (dropS_le k x) hz, fin _ _⟩

-- calls
theorem Meth.index : Meth c (.str a) η "index" (.builtin "str.index") := fun A s pr y pl QQ E I r q => by
  unfold Rv at r; obtain ⟨t, rfl⟩ := r; exact GM.index (q s.toks)
theorem SC.index {i : Nat} {rest : List Nat} (h : Builtin.Str.occurrences a b 0 a.length 1 = i :: rest) (q : Q (.int i) η) : SC c d hd (.builtin "str.index") [.str a, .str b] η Q X := by
  intro A s pr xs o I r
  obtain ⟨y, z, rfl, ry, rz⟩ := rvs2 r
  unfold Rv at ry rz; obtain ⟨t, rfl⟩ := ry; obtain ⟨u, rfl⟩ := rz
  exact PySem.SC.index h (Post.tok (v := .int _) I _ ⟨_, rfl⟩ q)
-- a text's signs
theorem SI.str : SI c d t (.str a) η (a.cps.toList.map fun k => V.str (sgn k)) := by
  intro A s pr y QQ E o I r hQ
  unfold Rv at r; obtain ⟨tx, rfl⟩ := r
  have core : ∀ cls : String, ownsTuples cls = false → Walks c.prog c.w A s.heap.objs.size [s.heap.objs.size] [s.heap.objs.size] a.cps.size (SignAt a) (fun i h => h.IsStrIter s.heap.objs.size cls a tx i) →
      QQ (.ref s.heap.objs.size) { s with heap := s.heap.push { cls := .type cls, data := .fields #[.str a tx, .int 0 0] } } := fun cls hc W => by
    have keep : ∀ b ob, s.heap.get? b = some ob → (s.heap.push { cls := .type cls, data := .fields #[.str a tx, .int 0 0] }).get? b = some ob := fun b ob e => Heap.get?_push_of_some _ e
    refine hQ _ s.toks (fun b => b = s.heap.objs.size) s.heap.objs.size _ (itr_walks (K := fun _ _ _ _ => True) (cls := cls) W (by simp) hc (fun st => by obtain ⟨ob, e, q, w⟩ := st; exact ⟨ob, _, e, q, w⟩) (fun _ _ => trivial) ?_ ?_)
      (fun b e => by cases e; exact fresh_none s) (fresh_frame I) keep ⟨⟨_, Heap.get?_push_size _ rfl, rfl, rfl⟩, trivial⟩
    · intro h η pr b _ hb
      simp only [List.mem_cons, List.not_mem_nil, or_false] at hb
      exact .inl hb
    · intro i y h η pr v _ hp hv
      obtain ⟨k, u, e1, rfl⟩ := hp
      have e2 : a.cps.toList[i]? = some k := by simpa using e1
      rw [List.getElem?_map, e2] at hv
      cases hv
      exact ⟨u, rfl⟩
  cases ha : a.cps.all (· < 128) with
  | true => exact wpAny_pyIter_ascii ha (core "str_ascii_iterator" (by decide +kernel) (Walks.strAscii (o.handled rfl) _ a tx))
  | false => exact wpAny_pyIter_wide ha (core "str_iterator" (by decide +kernel) (Walks.strWide (o.handled rfl) _ a tx))

-- two tests in a chain
-- plain values of the top
theorem SE.gint (W : Wd c K gt bt) {i : Int} {tk : Tok} (m : (x, NameKind.globalImplicit) ∈ nm) (mg : (x, Value.int i tk) ∈ gt) (q : Q (.int i) η) (hn : (x == ("__debug__" : Str)) = false := by decide +kernel) : SE c d hd nm σ η (.Name x pos) Q X := fun A env s pr o I F => by
  refine wpAny_mono (SE.glob (Q := fun v η' => v = .glob (.int i tk) ∧ η' = η) (X := X) m (W.g mg) ⟨rfl, rfl⟩ hn A env s pr o I F) (fun y s₁ hq => ?_) fun _ _ e => e
  obtain ⟨v, η₁, ⟨rfl, rfl⟩, I₁, rv, st⟩ := hq
  unfold Rv at rv; subst rv
  exact ⟨.int i, η₁, q, I₁, ⟨_, rfl⟩, st⟩
theorem SE.gstr (W : Wd c K gt bt) {i : Str} {tk : Tok} (m : (x, NameKind.globalImplicit) ∈ nm) (mg : (x, Value.str i tk) ∈ gt) (q : Q (.str i) η) (hn : (x == ("__debug__" : Str)) = false := by decide +kernel) : SE c d hd nm σ η (.Name x pos) Q X := fun A env s pr o I F => by
  refine wpAny_mono (SE.glob (Q := fun v η' => v = .glob (.str i tk) ∧ η' = η) (X := X) m (W.g mg) ⟨rfl, rfl⟩ hn A env s pr o I F) (fun y s₁ hq => ?_) fun _ _ e => e
  obtain ⟨v, η₁, ⟨rfl, rfl⟩, I₁, rv, st⟩ := hq
  unfold Rv at rv; subst rv
  exact ⟨.str i, η₁, q, I₁, ⟨_, rfl⟩, st⟩
end
end Mine

namespace Mine
open PySem PyProof.Rows PySem.W

section
variable {c : Cx} {η η' : Hp} {d : Nat} {hd : Bool} {nm : List (Str × NameKind)} {σ σ' τ : List (Option V)}
  {Q R : V → Hp → Prop} {B : Bool → Hp → Prop} {X : Addr → Hp → Prop} {v w : V} {x : Str} {pos p' : Pos} {K : Params → Frag} {gt bt : List (Str × Value)} {t : Expr} {N : List (Option V) → Hp → Prop} {rest : List Stmt} {xs : List Str}

/-- tests whose outcome is known and that touch nothing -/
noncomputable abbrev TP (c : Cx) (d : Nat) (hd : Bool) (nm : List (Str × NameKind)) (σ : List (Option V)) (η : Hp) (e : Expr) (u : Bool) (X : Addr → Hp → Prop) : Prop := ST c d hd nm σ η e (fun b η' => b = u ∧ η' = η) X
theorem TP.to {e : Expr} {u : Bool} (p : TP c d hd nm σ η e u X) (k : B u η) : ST c d hd nm σ η e B X := p.mono (fun b η' q => by obtain ⟨rfl, rfl⟩ := q; exact k) fun _ _ q => q
theorem TP.and {e₁ e₂ : Expr} {u₁ u₂ : Bool} (p : TP c d hd nm σ η e₁ u₁ X) (p₂ : u₁ = true → TP c d hd nm σ η e₂ u₂ X) : TP c d hd nm σ η (.BoolOp .And [e₁, e₂] pos) (u₁ && u₂) X := by
  refine ST.boolop (STs.and_cons (p.to ?_))
  cases u₁ with
  | false => exact ⟨rfl, rfl⟩
  | true =>
    refine STs.and_cons ((p₂ rfl).to ?_)
    cases u₂ with
    | false => exact ⟨rfl, rfl⟩
    | true => exact STs.and_nil ⟨rfl, rfl⟩
theorem TP.or {e₁ e₂ : Expr} {u₁ u₂ : Bool} (p : TP c d hd nm σ η e₁ u₁ X) (p₂ : u₁ = false → TP c d hd nm σ η e₂ u₂ X) : TP c d hd nm σ η (.BoolOp .Or [e₁, e₂] pos) (u₁ || u₂) X := by
  refine ST.boolop (STs.or_cons (p.to ?_))
  cases u₁ with
  | true => exact ⟨rfl, rfl⟩
  | false =>
    refine STs.or_cons ((p₂ rfl).to ?_)
    cases u₂ with
    | true => exact ⟨rfl, rfl⟩
    | false => exact STs.or_nil ⟨rfl, rfl⟩
theorem TP.or3 {e₁ e₂ e₃ : Expr} {u₁ u₂ u₃ : Bool} (p : TP c d hd nm σ η e₁ u₁ X) (p₂ : u₁ = false → TP c d hd nm σ η e₂ u₂ X) (p₃ : u₁ = false → u₂ = false → TP c d hd nm σ η e₃ u₃ X) : TP c d hd nm σ η (.BoolOp .Or [e₁, e₂, e₃] pos) (u₁ || u₂ || u₃) X := by
  refine ST.boolop (STs.or_cons (p.to ?_))
  cases u₁ with
  | true => exact ⟨rfl, rfl⟩
  | false =>
    refine STs.or_cons ((p₂ rfl).to ?_)
    cases u₂ with
    | true => exact ⟨rfl, rfl⟩
    | false =>
      refine STs.or_cons ((p₃ rfl rfl).to ?_)
      cases u₃ with
      | true => exact ⟨rfl, rfl⟩
      | false => exact STs.or_nil ⟨rfl, rfl⟩
theorem TP.not {e : Expr} {u : Bool} (p : TP c d hd nm σ η e u X) : TP c d hd nm σ η (.UnaryOp .Not e pos) (!u) X := ST.not (p.to ⟨rfl, rfl⟩)

/-- expressions whose value is known and that touch nothing -/
noncomputable abbrev EP (c : Cx) (d : Nat) (hd : Bool) (nm : List (Str × NameKind)) (σ : List (Option V)) (η : Hp) (e : Expr) (v : V) (X : Addr → Hp → Prop) : Prop := SE c d hd nm σ η e (fun w η' => w = v ∧ η' = η) X
/-- an if that leaves one state behind -/
theorem SS.ifJ {a : List Stmt} (u : Bool) (σ' : List (Option V)) (p : TP c d hd nm σ η t u X) (ha : u = true → SS c d hd nm σ η a (fun τ η' => Less σ' τ ∧ η' = η) R X) (hb : u = false → Less σ' σ) (k : SS c d hd nm σ' η rest N R X) :
    SS c d hd nm σ η (.If t a [] pos :: rest) N R X := by
  refine SS.if (p.to ?_)
  cases u with
  | true => exact (ha rfl).mono (fun τ η' q => by obtain ⟨l, rfl⟩ := q; exact SS.forget l k) (fun _ _ q => q) fun _ _ q => q
  | false => exact SS.nil (SS.forget (hb rfl) k)
/-- an if that leaves the block or does nothing -/
theorem SS.ifX {a : List Stmt} (u : Bool) (p : TP c d hd nm σ η t u X) (ha : u = true → SS c d hd nm σ η a (fun _ _ => False) R X) (k : u = false → SS c d hd nm σ η rest N R X) : SS c d hd nm σ η (.If t a [] pos :: rest) N R X := by
  refine SS.if (p.to ?_)
  cases u with
  | true => exact (ha rfl).mono (fun τ η' q => q.elim) (fun _ _ q => q) fun _ _ q => q
  | false => exact SS.nil (k rfl)

/-- a loop that looks at each item -/
theorem ForL.check {body : List Stmt} (g : V → Bool) (T : List (Option V)) {vs : List V} (hb : ∀ v ∈ vs, SA c d nm T η t xs v fun τ => SS c d true nm τ η body (fun τ' η' => g v = true ∧ Less T τ' ∧ η' = η) R X)
    (hN : (∀ v ∈ vs, g v = true) → ∀ σ', Less T σ' → N σ' η) {σ : List (Option V)} (l : Less T σ) : ForL c d nm t xs body N R X vs σ η := by
  induction vs generalizing σ with
  | nil => unfold ForL; exact hN (fun _ m => by cases m) σ l
  | cons v vs ih =>
    unfold ForL
    refine SA.forget l ((hb v (.head _)).mono fun τ p => p.mono (fun τ' η' q => ?_) (fun _ _ q => q) fun _ _ q => q)
    obtain ⟨hv, l', rfl⟩ := q
    exact ih (fun u m => hb u (.tail _ m)) (fun h => hN fun u m => by
      rcases List.mem_cons.mp m with rfl | m
      · exact hv
      · exact h u m) l'
theorem A.gint {i : Int} {tk : Tok} (q : Q (.int i) η) (W : Wd c K gt bt := by assumption) (m : (x, NameKind.globalImplicit) ∈ nm := by with_reducible (repeat (first | exact List.mem_cons_self | apply List.mem_cons_of_mem)))
    (mg : (x, Value.int i tk) ∈ gt := by with_reducible (repeat (first | exact List.mem_cons_self | apply List.mem_cons_of_mem))) (hn : (x == ("__debug__" : Str)) = false := by decide +kernel) : SE c d hd nm σ η (.Name x pos) Q X := SE.gint W m mg q hn
theorem A.gstr {i : Str} {tk : Tok} (q : Q (.str i) η) (W : Wd c K gt bt := by assumption) (m : (x, NameKind.globalImplicit) ∈ nm := by with_reducible (repeat (first | exact List.mem_cons_self | apply List.mem_cons_of_mem)))
    (mg : (x, Value.str i tk) ∈ gt := by with_reducible (repeat (first | exact List.mem_cons_self | apply List.mem_cons_of_mem))) (hn : (x == ("__debug__" : Str)) = false := by decide +kernel) : SE c d hd nm σ η (.Name x pos) Q X := SE.gstr W m mg q hn
end
end Mine

namespace Mine
open PySem PyProof.Rows PySem.W

mutual
/-- the mutable objects of a value are known -/
def Lin (η : Hp) : V → Prop
  | .loc a => (η a).isSome = true
  | .tup vs => Lins η vs
  | .lst vs => Lins η vs
  | .dct _ vs => Lins η vs
  | .obj _ _ vs => Lins η vs
  | _ => True
def Lins (η : Hp) : List V → Prop
  | [] => True
  | v :: vs => Lin η v ∧ Lins η vs
end
noncomputable def Ext (η η₁ : Hp) : Prop := ∀ b o, η b = some o → η₁ b = some o
theorem Ext.none {η η₁ : Hp} (x : Ext η η₁) {b : Addr} (e : η₁ b = none) : η b = none := by
  cases q : η b with
  | none => rfl
  | some o => rw [x b o q] at e; cases e
theorem Ext.refl (η : Hp) : Ext η η := fun _ _ e => e

section
variable {P : Params} {pr : Pr} {η η₁ : Hp} {h h' : Heap}
mutual
theorem Rv.lin : ∀ (v : V) {x : Value}, Rv P h η pr v x → Lin η v
  | .none, _, e => trivial
  | .bool _, _, e => trivial
  | .int _, _, e => trivial
  | .str _, _, e => trivial
  | .glob _, _, e => trivial
  | .exc _, _, e => trivial
  | .rng _ _, _, e => trivial
  | .loc a, _, e => by unfold Rv at e; exact e.2
  | .tup vs, _, e => by unfold Rv at e; obtain ⟨_, _, _, _, _, _, _, r⟩ := e; exact Rvs.lin vs r
  | .lst vs, _, e => by unfold Rv at e; obtain ⟨_, _, _, _, _, _, _, r⟩ := e; exact Rvs.lin vs r
  | .dct ks vs, _, e => by unfold Rv at e; obtain ⟨_, _, _, _, _, _, _, _, r⟩ := e; exact Rvs.lin vs r
  | .obj C ks vs, _, e => by unfold Rv at e; obtain ⟨_, _, _, _, _, _, _, _, _, _, _, r⟩ := e; exact Rvs.lin vs r
theorem Rvs.lin : ∀ (vs : List V) {xs : List Value}, Rvs P h η pr vs xs → Lins η vs
  | [], _, _ => trivial
  | v :: vs, _, e => by unfold Rvs at e; obtain ⟨_, _, _, r, rs⟩ := e; exact ⟨Rv.lin v r, Rvs.lin vs rs⟩
end
mutual
/-- fewer mutable objects -/
theorem Rv.frz (x : Ext η η₁) : ∀ (v : V) {y : Value}, Lin η v → Rv P h η₁ pr v y → Rv P h η pr v y
  | .none, _, _, e => by unfold Rv at e ⊢; exact e
  | .bool _, _, _, e => by unfold Rv at e ⊢; exact e
  | .int _, _, _, e => by unfold Rv at e ⊢; exact e
  | .str _, _, _, e => by unfold Rv at e ⊢; exact e
  | .glob _, _, _, e => by unfold Rv at e ⊢; exact e
  | .exc C, _, _, e => by
    unfold Rv at e ⊢
    obtain ⟨a, o, fs, e1, e2, e3, e4, n, p⟩ := e
    exact ⟨a, o, fs, e1, e2, e3, e4, x.none n, p⟩
  | .rng lo hi, _, _, e => by
    unfold Rv at e ⊢
    obtain ⟨a, t, u, k, e1, ho, n, p⟩ := e
    exact ⟨a, t, u, k, e1, ho, x.none n, p⟩
  | .loc a, _, l, e => by unfold Rv at e ⊢; exact ⟨e.1, l⟩
  | .tup vs, _, l, e => by
    unfold Rv at e ⊢
    obtain ⟨a, xs, n', e1, ho, ⟨n, p⟩, z, r⟩ := e
    exact ⟨a, xs, n', e1, ho, ⟨x.none n, p⟩, z, Rvs.frz x vs l r⟩
  | .lst vs, _, l, e => by
    unfold Rv at e ⊢
    obtain ⟨a, xs, n', e1, ho, ⟨n, p⟩, z, r⟩ := e
    exact ⟨a, xs, n', e1, ho, ⟨x.none n, p⟩, z, Rvs.frz x vs l r⟩
  | .dct ks vs, _, l, e => by
    unfold Rv at e ⊢
    obtain ⟨a, xs, es, n', e1, ho, ⟨n, p⟩, q, r⟩ := e
    exact ⟨a, xs, es, n', e1, ho, ⟨x.none n, p⟩, q, Rvs.frz x vs l r⟩
  | .obj C ks vs, _, l, e => by
    unfold Rv at e ⊢
    obtain ⟨a, dd, xs, es, n', e1, ho, hd, ⟨n, p⟩, ⟨n2, p2⟩, q, r⟩ := e
    exact ⟨a, dd, xs, es, n', e1, ho, hd, ⟨x.none n, p⟩, ⟨x.none n2, p2⟩, q, Rvs.frz x vs l r⟩
theorem Rvs.frz (x : Ext η η₁) : ∀ (vs : List V) {xs : List Value}, Lins η vs → Rvs P h η₁ pr vs xs → Rvs P h η pr vs xs
  | [], _, _, e => by unfold Rvs at e ⊢; exact e
  | v :: vs, _, l, e => by
    unfold Rvs at e ⊢
    obtain ⟨y, ys, e1, r, rs⟩ := e
    exact ⟨y, ys, e1, Rv.frz x v l.1 r, Rvs.frz x vs l.2 rs⟩
end

mutual
/-- mutable objects that are left alone from now on -/
inductive Frz (η η₁ : Hp) : V → V → Prop
  | keep {v} : Lin η v → Frz η η₁ v v
  | lst {a vs₁ vs} : η₁ a = some (.lst vs₁) → η a = none → Frzs η η₁ vs₁ vs → Frz η η₁ (.loc a) (.lst vs)
  | obj {a dd C ks vs₁ vs} : η₁ a = some (.inst C dd) → η₁ dd = some (.idict ks vs₁) → η a = none → η dd = none → Frzs η η₁ vs₁ vs → Frz η η₁ (.loc a) (.obj C ks vs)
  | tup {vs₁ vs} : Frzs η η₁ vs₁ vs → Frz η η₁ (.tup vs₁) (.tup vs)
  | lst' {vs₁ vs} : Frzs η η₁ vs₁ vs → Frz η η₁ (.lst vs₁) (.lst vs)
inductive Frzs (η η₁ : Hp) : List V → List V → Prop
  | nil : Frzs η η₁ [] []
  | cons {v₁ v vs₁ vs} : Frz η η₁ v₁ v → Frzs η η₁ vs₁ vs → Frzs η η₁ (v₁ :: vs₁) (v :: vs)
end
theorem Frzs.keep : ∀ {vs : List V}, Lins η vs → Frzs η η₁ vs vs
  | [], _ => .nil
  | _ :: _, l => .cons (.keep l.1) (Frzs.keep l.2)
end

section
variable {c : Cx} {A : Around} {pr : Pr} {η η₁ : Hp} {s s' : Shared} {d : Nat} {hd : Bool} {Q : V → Hp → Prop} {X : Addr → Hp → Prop} {vs : List V} {f : Value}
theorem Frzs.len : ∀ {vs₁ vs : List V}, Frzs η η₁ vs₁ vs → vs.length = vs₁.length
  | _, _, .nil => rfl
  | _, _, .cons _ r => by rw [List.length_cons, List.length_cons, Frzs.len r]
mutual
theorem Frz.rv (I : Inv c η₁ pr A s) (x : Ext η η₁) : ∀ {v₁ v : V} {y : Value}, Frz η η₁ v₁ v → Rv c.P s.heap η₁ pr v₁ y → Rv c.P s.heap η pr v y
  | _, _, _, .keep l, r => Rv.frz x _ l r
  | _, _, _, .lst e n fs, r => by
    unfold Rv at r ⊢
    obtain ⟨rfl, _⟩ := r
    obtain ⟨xs, k, ho, z, rs⟩ := I.hrel _ _ e
    exact ⟨_, xs, k, rfl, ho, ⟨n, fun p => by have := (I.privs _ p).2.1; rw [e] at this; cases this⟩, by rw [Frzs.len fs]; exact z, Frzs.rv I x fs rs⟩
  | _, _, _, .obj e e2 n n2 fs, r => by
    unfold Rv at r ⊢
    obtain ⟨rfl, _⟩ := r
    obtain ⟨ho, _⟩ := I.hrel _ _ e
    obtain ⟨xs, es, k, hd, en, rs⟩ := I.hrel _ _ e2
    exact ⟨_, _, xs, es, k, rfl, ho, hd, ⟨n, fun p => by have := (I.privs _ p).2.1; rw [e] at this; cases this⟩, ⟨n2, fun p => by have := (I.privs _ p).2.1; rw [e2] at this; cases this⟩, en, Frzs.rv I x fs rs⟩
  | _, _, _, .tup fs, r => by
    unfold Rv at r ⊢
    obtain ⟨a, xs, n', e1, ho, ⟨n, p⟩, z, r⟩ := r
    exact ⟨a, xs, n', e1, ho, ⟨x.none n, p⟩, by rw [Frzs.len fs]; exact z, Frzs.rv I x fs r⟩
  | _, _, _, .lst' fs, r => by
    unfold Rv at r ⊢
    obtain ⟨a, xs, n', e1, ho, ⟨n, p⟩, z, r⟩ := r
    exact ⟨a, xs, n', e1, ho, ⟨x.none n, p⟩, by rw [Frzs.len fs]; exact z, Frzs.rv I x fs r⟩
theorem Frzs.rv (I : Inv c η₁ pr A s) (x : Ext η η₁) : ∀ {vs₁ vs : List V} {ys : List Value}, Frzs η η₁ vs₁ vs → Rvs c.P s.heap η₁ pr vs₁ ys → Rvs c.P s.heap η pr vs ys
  | _, _, _, .nil, r => by unfold Rvs at r ⊢; exact r
  | _, _, _, .cons g gs, r => by
    unfold Rvs at r ⊢
    obtain ⟨y, ys, rfl, r1, rs⟩ := r
    exact ⟨y, ys, rfl, Frz.rv I x g r1, Frzs.rv I x gs rs⟩
end
theorem Inv.frz {A₀ : Around} {pr₀ : Pr} {s₀ : Shared} (I₀ : Inv c η pr₀ A₀ s₀) (I : Inv c η₁ pr A s) (x : Ext η η₁) : Inv c η pr A s := by
  refine ⟨I.stays, fun a o e => ?_, fun a e => I₀.apart a e, fun a p => ⟨(I.privs a p).1, x.none (I.privs a p).2.1, (I.privs a p).2.2⟩, I.frames, I.frs, I.os, I.gens⟩
  have r₀ := I₀.hrel a o e
  have r := I.hrel a o (x a o e)
  cases o with
  | lst vs =>
    obtain ⟨_, _, _, _, q⟩ := r₀
    obtain ⟨xs, n, ho, z, rs⟩ := r
    exact ⟨xs, n, ho, z, Rvs.frz x vs (Rvs.lin vs q) rs⟩
  | inst C dd =>
    obtain ⟨ho, _⟩ := r
    exact ⟨ho, r₀.2⟩
  | idict ks vs =>
    obtain ⟨_, _, _, _, _, q⟩ := r₀
    obtain ⟨xs, es, n, ho, en, rs⟩ := r
    exact ⟨xs, es, n, ho, en, Rvs.frz x vs (Rvs.lin vs q) rs⟩
theorem Step.frz {own : Pr} {h h' : Heap} (st : Step A own η h η₁ h') : Step A own η h η h' := ⟨st.upto, st.same, st.there, fun _ e => e, fun b e e' => by rw [e] at e'; cases e'⟩
/-- a call whose new mutable objects are left alone from now on -/
theorem SC.frz (p : SC c d hd f vs η (fun v₁ η₁ => Ext η η₁ ∧ ∃ v, Frz η η₁ v₁ v ∧ Q v η) (fun C η₁ => Ext η η₁ ∧ X C η)) : SC c d hd f vs η Q X := by
  intro A s pr xs o I r
  refine wpAny_mono (p A s pr xs o I r) (fun y s' hq => ?_) fun y s' hx => ?_
  · obtain ⟨v₁, η₁, ⟨x, v, fz, q⟩, I₁, rv, st⟩ := hq
    exact ⟨v, η, q, I.frz I₁ x, fz.rv I₁ x rv, st.frz⟩
  · obtain ⟨e, C, η₁, rfl, ⟨x, q⟩, I₁, st, n, t⟩ := hx
    exact ⟨e, C, η, rfl, q, I.frz I₁ x, st.frz, n, t⟩

-- mutable lists
theorem Ext.set {a : Addr} {o : MObj} (n : η a = Option.none) : Ext η (η.set a o) := fun b o' e => by
  rw [Hp.set_ne]
  · exact e
  · rintro rfl; rw [n] at e; cases e
theorem Ext.trans {η₂ : Hp} (x : Ext η η₁) (y : Ext η₁ η₂) : Ext η η₂ := fun b o e => y b o (x b o e)
end
end Mine

namespace Mine
open PySem PyProof.Rows PySem.W

section
variable {c : Cx} {A : Around} {pr pr' : Pr} {η η' : Hp} {s : Shared} {d : Nat} {hd : Bool} {nm : List (Str × NameKind)} {σ : List (Option V)} {env : Env}
  {Q R : V → Hp → Prop} {X : Addr → Hp → Prop} {v w : V} {x : Str} {pos : Pos} {N : List (Option V) → Hp → Prop} {rest : List Stmt} {h h' : Heap} {a : Addr} {mo : MObj}

theorem MRel.mono2 {o : MObj} (m : Mono pr η h η' pr' h') (ki : ∀ d ks vs, η d = some (.idict ks vs) → ∃ ks vs, η' d = some (.idict ks vs)) (k : ∀ o, (∀ vs, o.data ≠ .fields vs) → h.get? a = some o → h'.get? a = some o) (r : MRel c.P h η pr a o) : MRel c.P h' η' pr' a o := by
  cases o with
  | lst vs => obtain ⟨xs, n, e, z, q⟩ := r; exact ⟨xs, n, k _ (fun _ q => by cases q) e, z, Rvs.mono m vs q⟩
  | inst C dd => obtain ⟨e, ks, vs, q⟩ := r; exact ⟨k _ (fun _ q => by cases q) e, ki dd ks vs q⟩
  | idict ks vs => obtain ⟨xs, es, n, e, en, q⟩ := r; exact ⟨xs, es, n, k _ (fun _ q => by cases q) e, en, Rvs.mono m vs q⟩

/-- a new mutable object -/
theorem Mono.newM (n : h.get? a = none) (k : ∀ b o, h.get? b = some o → h'.get? b = some o) : Mono pr η h (η.set a mo) pr h' := by
  refine ⟨fun b o e _ _ => k b o e, fun b e => ?_, fun b o e n' p => ⟨?_, p⟩⟩
  · by_cases q : b = a
    · subst q; rw [Hp.set_self]; rfl
    · rw [Hp.set_ne _ _ q]; exact e
  · rw [Hp.set_ne]
    · exact n'
    · rintro rfl; rw [n] at e; cases e
theorem Step.newM (n : h.get? a = Option.none) (k : ∀ b o, h.get? b = some o → h'.get? b = some o) : Step A noOwn η h (η.set a mo) h' := by
  refine ⟨fun b o e _ _ => ⟨o.slots, k b o e⟩, fun b o e _ _ _ => k b o e, fun b o e => by rw [k b o e]; rfl, fun b e => ?_, fun b e e' => ?_⟩
  · by_cases q : b = a
    · subst q; rw [Hp.set_self]; rfl
    · rw [Hp.set_ne _ _ q]; exact e
  · by_cases q : b = a
    · subst q; exact n
    · rw [Hp.set_ne _ _ q, e] at e'; cases e'
theorem Inv.fresh_none (I : Inv c η pr A s) (n : s.heap.get? a = none) : η a = none := by
  cases q : η a with
  | none => rfl
  | some o => obtain ⟨b, e, _⟩ := (I.hrel a o q).nofields; rw [n] at e; cases e
theorem Inv.newM {t : Nat} (I : Inv c η pr A s) (n : s.heap.get? a = none) (k : ∀ b o, s.heap.get? b = some o → h'.get? b = some o) (r : MRel c.P h' (η.set a mo) pr a mo) : Inv c (η.set a mo) pr A { s with heap := h', toks := t } := by
  have I' := I.grow k t
  have na := I.fresh_none n
  refine ⟨I'.stays, fun b o e => ?_, fun b e => ?_, fun b p => ?_, I'.frames, I'.frs, I'.os, I'.gens⟩
  · by_cases q : b = a
    · subst q; rw [Hp.set_self] at e; cases e; exact r
    · rw [Hp.set_ne _ _ q] at e
      refine (I.hrel b o e).mono2 (Mono.newM n k) (fun dd ks vs qd => ?_) fun o' _ e => k b o' e
      refine ⟨ks, vs, ?_⟩
      rw [Hp.set_ne]
      · exact qd
      · rintro rfl; rw [na] at qd; cases qd
  · by_cases q : b = a
    · subst q
      cases w : c.base.get? b with
      | none => rfl
      | some o => have := I.stays b o w; rw [n] at this; cases this
    · rw [Hp.set_ne _ _ q] at e; exact I.apart b e
  · obtain ⟨q1, q2, q3⟩ := I'.privs b p
    refine ⟨q1, ?_, q3⟩
    rw [Hp.set_ne]
    · exact q2
    · rintro rfl
      have := (I.privs _ p).1; rw [n] at this; cases this

/-- a mutable object is changed -/
theorem Mono.updM (e : η a = some mo) {mo' : MObj} (k : Heap.SameBut a h h') : Mono pr η h (η.set a mo') pr h' := by
  refine ⟨fun b o e' n _ => ?_, fun b e' => ?_, fun b o e' n p => ⟨?_, p⟩⟩
  · rw [k.2 b (by rintro rfl; rw [e] at n; cases n)]; exact e'
  · by_cases q : b = a
    · subst q; rw [Hp.set_self]; rfl
    · rw [Hp.set_ne _ _ q]; exact e'
  · rw [Hp.set_ne]
    · exact n
    · rintro rfl; rw [e] at n; cases n
theorem Step.updM (e : η a = some mo) {mo' : MObj} (k : Heap.SameBut a h h') (hx : (h'.get? a).isSome = true) : Step A noOwn η h (η.set a mo') h' := by
  have ne : ∀ b, η b = Option.none → b ≠ a := fun b n q => by subst q; rw [e] at n; cases n
  refine ⟨fun b o e' n _ => ⟨o.slots, by rw [k.2 b (ne b n)]; exact e'⟩, fun b o e' n _ _ => by rw [k.2 b (ne b n)]; exact e', fun b o e' => ?_, fun b e' => ?_, fun b n e' => ?_⟩
  · by_cases q : b = a
    · subst q; exact hx
    · rw [k.2 b q, e']; rfl
  · by_cases q : b = a
    · subst q; rw [Hp.set_self]; rfl
    · rw [Hp.set_ne _ _ q]; exact e'
  · rw [Hp.set_ne _ _ (ne b n), n] at e'; cases e'
theorem Inv.updM {t : Nat} (I : Inv c η pr A s) (e : η a = some mo) {mo' : MObj} (hk : ∀ ks vs, mo = .idict ks vs → ∃ ks vs, mo' = .idict ks vs) (k : Heap.SameBut a s.heap h') (r : MRel c.P h' (η.set a mo') pr a mo') :
    Inv c (η.set a mo') pr A { s with heap := h', toks := t } := by
  obtain ⟨fr, ef, ff⟩ := I.frames
  have na : ¬ pr a := fun p => by have := (I.privs a p).2.1; rw [e] at this; cases this
  have ba := I.apart a (by rw [e]; rfl)
  refine ⟨fun b o q => ?_, fun b o q => ?_, fun b q => ?_, fun b p => ?_, ⟨fr, ef, funFrames_but ff k fun _ _ => r.nofields⟩, I.frs, I.os, I.gens⟩
  · rw [k.2 b (by rintro rfl; rw [ba] at q; cases q)]; exact I.stays b o q
  · by_cases z : b = a
    · subst z; rw [Hp.set_self] at q; cases q; exact r
    · rw [Hp.set_ne _ _ z] at q
      refine (I.hrel b o q).mono2 (Mono.updM e k) (fun dd ks vs q => ?_) fun o' _ e' => (k.2 b z).trans e'
      by_cases z : dd = a
      · subst z
        rw [e] at q; cases q
        obtain ⟨ks', vs', w⟩ := hk ks vs rfl
        exact ⟨ks', vs', by rw [Hp.set_self, w]⟩
      · exact ⟨ks, vs, by rw [Hp.set_ne _ _ z]; exact q⟩
  · by_cases z : b = a
    · subst z; exact ba
    · rw [Hp.set_ne _ _ z] at q; exact I.apart b q
  · have z : b ≠ a := by rintro rfl; exact na p
    obtain ⟨q1, q2, q3⟩ := I.privs b p
    exact ⟨by show (h'.get? b).isSome = true; rw [k.2 b z]; exact q1, by rw [Hp.set_ne _ _ z]; exact q2, q3⟩

/-- a list that will be changed -/
theorem SE.lstM {es : List Expr} (p : SL c d hd nm σ η es (fun vs η₁ => vs.length ≤ sizeLine ∧ ∀ a, η₁ a = Option.none → Q (.loc a) (η₁.set a (.lst vs))) X) : SE c d hd nm σ η (.List es pos) Q X :=
  fun A env s pr o I F => wpAny_List (wpAny_mono (p A env s pr pos o I F) (fun xs s₁ ⟨vs, η₁, ⟨hl, q⟩, I₁, r, st⟩ => ⟨by rw [rvs_length r]; exact hl, by
    have fr := fresh_none s₁
    have keep : ∀ b ob, s₁.heap.get? b = some ob → (s₁.heap.push { cls := .type "list", data := .seq xs.toArray }).get? b = some ob := fun b ob e => Heap.get?_push_of_some _ e
    refine ⟨.loc s₁.heap.objs.size, _, q _ (I₁.fresh_none fr), I₁.newM (t := s₁.toks) fr keep ⟨xs, _, Heap.get?_push_size _ rfl, hl, Rvs.mono (Mono.newM fr keep) vs r⟩, ⟨rfl, by rw [Hp.set_self]; rfl⟩, st.trans (Step.newM fr keep)⟩⟩) fun _ _ e => e)
theorem Meth.append {vs : List V} (e : η a = some (.lst vs)) : Meth c (.loc a) η "append" (.builtin "list.append") := fun A s pr y pl QQ E I r q => by
  unfold Rv at r; obtain ⟨rfl, _⟩ := r
  obtain ⟨xs, n, ho, _, _⟩ := I.hrel _ _ e
  exact PySem.Calls.getMethod_list_append ho rfl rfl (q s.toks)
theorem SC.append {vs : List V} (e : η a = some (.lst vs)) (hz : vs.length + 1 ≤ sizeLine) (q : Q .none (η.set a (.lst (vs ++ [v])))) : SC c d hd (.builtin "list.append") [.loc a, v] η Q X := by
  intro A s pr xs o I r
  obtain ⟨y, z, rfl, ry, rz⟩ := rvs2 r
  unfold Rv at ry; obtain ⟨rfl, _⟩ := ry
  obtain ⟨its, n, ho, hl, rs⟩ := I.hrel _ _ e
  have hle := rvs_length rs
  refine wpAny_list_append_plain (l := a) (items := its.toArray) ⟨n, ho⟩ (fun h' pl sb => ?_) (by simp only [List.size_toArray, hle]; omega)
  obtain ⟨n', pl⟩ := pl
  have mD : Mono pr η s.heap (η.set a (.lst (vs ++ [v]))) pr h' := Mono.updM e sb
  have pl' : h'.get? a = some { cls := .type "list", data := .seq (its ++ [z]).toArray n' } := by rw [pl]; simp
  exact ⟨.none, _, q, I.updM (t := s.toks) e (fun _ _ x => by cases x) sb ⟨its ++ [z], n', pl', by simpa using hz, rvs_append (Rvs.mono mD _ rs) ⟨z, [], rfl, Rv.mono mD _ rz, rfl⟩⟩, rfl, Step.updM e sb (by rw [pl]; rfl)⟩
end
end Mine

namespace Mine
open PySem PyProof.Rows PySem.W

section
variable {P : Params}
/-- a name among the entries -/
theorem Ents.find {es : List DictEntry} {ks : List Str} {xs : List Value} (e : Ents P es ks xs) (name : Str) : (∃ (i : Nat) (y : Value) (en : DictEntry), ks[i]? = some name ∧ xs[i]? = some y ∧ es.find? (·.key.isStr name) = some en ∧ en.val = y) ∨ (name ∉ ks ∧ es.find? (·.key.isStr name) = none) := by
  induction e with
  | nil => exact .inr ⟨(fun m => by cases m), rfl⟩
  | @cons k t x es ks xs _ ih =>
    rw [List.find?_cons]
    have key : (Value.str k t).isStr name = decide (k = name) := by
      show _ = _
      rw [PySem.W.isStr_of]
      unfold Value.isStrOf
      by_cases q : k = name
      · subst q; simp
      · simp [q]
    dsimp only
    rw [key]
    by_cases q : k = name
    · subst q
      simp only [decide_true]
      exact .inl ⟨0, x, _, rfl, rfl, rfl, rfl⟩
    · rw [decide_eq_false q]
      dsimp only
      rcases ih with ⟨i, y, en, a, b, c, d⟩ | ⟨a, b⟩
      · exact .inl ⟨i + 1, y, en, a, b, c, d⟩
      · exact .inr ⟨fun m => by
          rcases List.mem_cons.mp m with rfl | m
          · exact q rfl
          · exact a m, b⟩
theorem Ents.noref {es : List DictEntry} {ks : List Str} {xs : List Value} (e : Ents P es ks xs) : es.any (·.refKey) = false := by
  induction e with
  | nil => rfl
  | cons _ ih => rw [List.any_cons, ih]; rfl
theorem Ents.len {es : List DictEntry} {ks : List Str} {xs : List Value} (e : Ents P es ks xs) : es.length = ks.length ∧ xs.length = ks.length := by
  induction e with
  | nil => exact ⟨rfl, rfl⟩
  | cons _ ih => simp [ih.1, ih.2]
theorem Ents.snoc {es : List DictEntry} {ks : List Str} {xs : List Value} (e : Ents P es ks xs) (k : Str) (t : Tok) (x : Value) : Ents P (es ++ [(⟨PyData.keyHash P k, .str k t, x⟩ : DictEntry)]) (ks ++ [k]) (xs ++ [x]) := by
  induction e with
  | nil => exact .cons .nil
  | cons _ ih => exact .cons ih
theorem Ents.put {es : List DictEntry} {ks : List Str} {xs : List Value} (e : Ents P es ks xs) {name : Str} (hn : name ∉ ks) (t : Tok) (v : Value) (n : Nat) :
    Obj.putName name (PyData.keyHash P name) (.str name t) v { cls := .type "dict", data := .dict es.toArray n } = { cls := .type "dict", data := .dict (es ++ [(⟨PyData.keyHash P name, .str name t, v⟩ : DictEntry)]).toArray (n + 1) } := by
  rcases e.find name with ⟨i, y, en, a, _⟩ | ⟨_, b⟩
  · exact absurd (List.mem_of_getElem? a) hn
  · have : es.toArray.findIdx? (·.key.isStr name) = none := by
      rw [List.findIdx?_toArray, List.findIdx?_eq_none_iff]
      intro x hx
      rw [List.find?_eq_none] at b
      simpa using b x hx
    rw [Obj.putName_eq]
    simp only [Obj.putNameByArray, this]
    simp
end

section
variable {c : Cx} {A : Around} {pr : Pr} {η η' : Hp} {s : Shared} {d : Nat} {hd : Bool} {nm : List (Str × NameKind)} {σ : List (Option V)} {env : Env}
  {Q R : V → Hp → Prop} {X : Addr → Hp → Prop} {v w : V} {x name : Str} {pos np ap : Pos} {N : List (Option V) → Hp → Prop} {rest : List Stmt} {K : Params → Frag} {gt bt : List (Str × Value)} {C a dd : Addr} {ks : List Str} {vs : List V}

/-- what is asked of a class of one's own -/
noncomputable def setsIn (K : Frag) (C : Addr) (name : Str) : Bool := findIn K (.ref C) "__setattr__" == some (some (.builtin "object.__setattr__")) && plainOver K C && takerIn K C name == some none && hasDictIn K C
noncomputable def getsIn (K : Frag) (C : Addr) (name : Str) : Bool := plainGet K C name && hasDictIn K C && findIn K (.ref C) name == some none

theorem setAttr_M {y : Value} {QQ : Unit → Shared → Prop} {E : Value → Shared → Prop} (W : Wd c K gt bt) (I : Inv c η pr A s) (ea : η a = some (.inst C dd)) (ed : η dd = some (.idict ks vs)) (hn : name ∉ ks) (rv : Rv c.P s.heap η pr v y)
    (hC : setsIn (K c.P) C name = true) (hz : ks.length ≤ 100)
    (q : ∀ s', Inv c (η.set dd (.idict (ks ++ [name]) (vs ++ [v]))) pr A s' → Step A noOwn η s.heap (η.set dd (.idict (ks ++ [name]) (vs ++ [v]))) s'.heap → QQ () s') : wpAny c.M A (setAttr (.ref a) name y) QQ E s := by
  unfold setsIn at hC
  simp only [Bool.and_eq_true, beq_iff_eq] at hC
  obtain ⟨⟨⟨h1, h2⟩, h3⟩, h4⟩ := hC
  have X := W.kin.keeps I.stays
  obtain ⟨ho, _⟩ := I.hrel a _ ea
  obtain ⟨xs, es, n, hD, en, rs⟩ := I.hrel dd _ ed
  have hD' : s.heap.get? dd = some { cls := .type "dict", data := .dict es.toList.toArray n } := by simpa using hD
  have IA : InstAt s.heap a { cls := .ref C, dict := some dd, data := .plain } C (some { cls := .type "dict", data := .dict es.toList.toArray n }) := ⟨ho, rfl, rfl, hD'⟩
  have ne : a ≠ dd := fun e => by rw [e, ed] at ea; cases ea
  obtain ⟨hh, gg, dw, tk, os⟩ := s
  dsimp only at X ho hD hD' IA rs rv q ⊢
  refine set_plain X IA h1 (osa_open (s := ⟨hh, gg, dw, tk + 1, os⟩) X IA h2 h3 fun b => ?_)
  obtain ⟨cd, hc, hd'⟩ := any_some h4
  refine wpAny_bind (wpAny_pure (wpAny_bind (wpAny_bind (wpAny_loadPart ho (wpAny_bind ((looks_clsIn X hc).at ?_))))))
  rw [hd']
  refine wpAny_pure (a := some dd) (wpAny_bind (wpAny_pure (wpAny_bind ?_)))
  unfold nsSet
  refine wpAny_bind (wpAny_bind (wpAny_askSetting (wpAny_pure (wpAny_bind (wpAny_mkText (wpAny_bind (wpAny_loadPart hD' ?_)))))))
  dsimp only
  have nr : (!es.toList.toArray.any (·.key.isStr name) && es.toList.toArray.any (·.refKey)) = false := by
    rw [← Array.any_toList, ← Array.any_toList]
    simp only [en.noref, Bool.and_false]
  rw [aRefKeyMayBeTheName_at, nr]
  have put := en.put hn (tk + 1) y n
  refine wpAny_updatePart hD' ?_
  have up := Heap.get?_update_self (Obj.putName name (PyData.keyHash c.P name) (.str name (tk + 1)) y) hD' (by rw [put]; rfl)
  rw [put] at up
  have sb : Heap.SameBut dd hh (hh.update dd (Obj.putName name (PyData.keyHash c.P name) (.str name (tk + 1)) y)) := Heap.SameBut.update ..
  refine wpAny_bind (wpAny_lookBehind up ?_ ?_)
  · refine pastItsLine_dict ?_
    have l1 := en.len
    rw [List.size_toArray, sizeLine_eq, List.length_append, List.length_singleton]; omega
  · have m : Mono pr η hh (η.set dd (.idict (ks ++ [name]) (vs ++ [v]))) pr (hh.update dd (Obj.putName name (PyData.keyHash c.P name) (.str name (tk + 1)) y)) := Mono.updM ed sb
    have hx : ((hh.update dd (Obj.putName name (PyData.keyHash c.P name) (.str name (tk + 1)) y)).get? dd).isSome = true := by rw [up]; rfl
    refine wpAny_pure (q _ (Inv.updM (s := ⟨hh, gg, dw, tk, os⟩) (t := tk + 1 + 1) I ed (fun _ _ _ => ⟨_, _, rfl⟩) sb ⟨xs ++ [y], _, n + 1, up, by simpa using en.snoc name (tk + 1) y, rvs_append (Rvs.mono m _ rs) ⟨y, [], rfl, Rv.mono m _ rv, rfl⟩⟩) (Step.updM ed sb hx))

theorem SX.setattr (W : Wd c K gt bt) {e : Expr} (p : SE c d hd nm σ η e (fun v η₁ => SE c d hd nm σ η₁ (.Name x np) (fun w η₂ => ∃ a C dd ks vs, w = .loc a ∧ η₂ a = some (.inst C dd) ∧ η₂ dd = some (.idict ks vs) ∧ name ∉ ks ∧ setsIn (K c.P) C name = true ∧ ks.length ≤ 100 ∧ N σ (η₂.set dd (.idict (ks ++ [name]) (vs ++ [v])))) X) X)
    (hs : ∀ env, swapsWith e (some (.Attribute (.Name x np) name ap)) pos.line env = pure false := by intro _; with_unfolding_all rfl) : SX c d hd nm σ η (.Assign [.Attribute (.Name x np) name ap] e pos) N R X := by
  intro A env s pr outer o I F h1 h2
  refine plainObj_wpAny_Assign_Attribute (wpAny_mono (p A env s pr o I F) (fun y s₁ hq => ?_) fun _ _ e => e.weak fun _ q => q.elim) (hs env)
  obtain ⟨v, η₁, q, I₁, rv, st⟩ := hq
  refine wpAny_mono (q A env s₁ pr o I₁ (F.step I st)) (fun z s₂ hq => ?_) fun _ _ e => (e.older st).weak fun _ q => q.elim
  obtain ⟨w, η₂, ⟨a, C, dd, ks, vs, rfl, ea, ed, hn, hC, hz, k⟩, I₂, rw', st₂⟩ := hq
  unfold Rv at rw'; obtain ⟨rfl, _⟩ := rw'
  refine setAttr_M W I₂ ea ed hn (rv.step I₁ st₂) hC hz fun s₃ I₃ st₃ => ?_
  have all := (st.trans st₂).trans st₃
  exact ⟨σ, _, k, I₃, F.step I all, all.own⟩
theorem SS.setattr (W : Wd c K gt bt) {e : Expr} (p : SE c d hd nm σ η e (fun v η₁ => SE c d hd nm σ η₁ (.Name x np) (fun w η₂ => ∃ a C dd ks vs, w = .loc a ∧ η₂ a = some (.inst C dd) ∧ η₂ dd = some (.idict ks vs) ∧ name ∉ ks ∧ setsIn (K c.P) C name = true ∧ ks.length ≤ 100 ∧ SS c d hd nm σ (η₂.set dd (.idict (ks ++ [name]) (vs ++ [v]))) rest N R X) X) X)
    (hs : ∀ env, swapsWith e (some (.Attribute (.Name x np) name ap)) pos.line env = pure false := by intro _; with_unfolding_all rfl) : SS c d hd nm σ η (.Assign [.Attribute (.Name x np) name ap] e pos :: rest) N R X := SS.cons (SX.setattr W p hs)

-- attributes are read
theorem SE.attr (p : SE c d hd nm σ η (.Name x np) (fun v η₁ => S1 c d hd (fun y => getAttr y name true) v η₁ Q X) X) : SE c d hd nm σ η (.Attribute (.Name x np) name ap) Q X := by
  intro A env s pr o I F
  refine PyProof.Rows.Attribute_name (wpAny_mono (p A env s pr o I F) (fun y s₁ hq => ?_) fun _ _ e => e)
  obtain ⟨v, η₁, q, I₁, rv, st⟩ := hq
  exact wpAny_mono (q A s₁ pr y o I₁ rv) (fun _ _ e => e.older st) fun _ _ e => e.older st
theorem handed_of {P : Params} {h : Heap} {y : Value} (r : Rv P h η pr v y) (hv : ∀ g, v ≠ .glob g) : handedIn y = true := by
  cases v <;> unfold Rv at r
  case none => subst r; rfl
  case bool => subst r; rfl
  case int => obtain ⟨_, rfl⟩ := r; rfl
  case str => obtain ⟨_, rfl⟩ := r; rfl
  case tup => obtain ⟨_, _, _, rfl, _⟩ := r; rfl
  case lst => obtain ⟨_, _, _, rfl, _⟩ := r; rfl
  case dct => obtain ⟨_, _, _, _, rfl, _⟩ := r; rfl
  case loc => obtain ⟨rfl, _⟩ := r; rfl
  case glob g => exact absurd rfl (hv g)
  case exc => obtain ⟨_, _, _, rfl, _⟩ := r; rfl
  case rng => obtain ⟨_, _, _, _, rfl, _⟩ := r; rfl
  case obj => obtain ⟨_, _, _, _, _, rfl, _⟩ := r; rfl
theorem getAttr_M {a dd : Addr} {es : Array DictEntry} {n i : Nat} {xs : List Value} {E : Value → Shared → Prop} {QQ : Value → Shared → Prop} (W : Wd c K gt bt) (I : Inv c η pr A s) (ho : s.heap.get? a = some { cls := .ref C, dict := some dd, data := .plain }) (hD : s.heap.get? dd = some { cls := .type "dict", data := .dict es n })
    (en : Ents c.P es.toList ks xs) (rs : Rvs c.P s.heap η pr vs xs) (hC : getsIn (K c.P) C name = true) (hi : ks[i]? = some name) (hf : ∀ j, j < i → ks[j]? ≠ some name) (hv : vs[i]? = some v) (ng : ∀ g, v ≠ .glob g)
    (q : ∀ y, Rv c.P s.heap η pr v y → QQ y { s with toks := s.toks + 1 }) : wpAny c.M A (getAttr (.ref a) name true) QQ E s := by
  unfold getsIn at hC
  simp only [Bool.and_eq_true, beq_iff_eq] at hC
  obtain ⟨⟨h1, h2⟩, h3⟩ := hC
  have X := W.kin.keeps I.stays
  have IA : InstAt s.heap a { cls := .ref C, dict := some dd, data := .plain } C (some { cls := .type "dict", data := .dict es n }) := ⟨ho, rfl, rfl, hD⟩
  obtain ⟨y, hy, ry⟩ := rvs_get rs hv
  have key : ∀ {es : List DictEntry} {ks : List Str} {xs : List Value} {i : Nat}, Ents c.P es ks xs → ks[i]? = some name → (∀ j, j < i → ks[j]? ≠ some name) → xs[i]? = some y → ∃ e, es.find? (·.key.isStr name) = some e ∧ e.val = y := by
    intro es ks xs i e
    induction e generalizing i with
    | nil => intro h; cases h
    | @cons k t x es ks xs _ ih =>
      intro g1 g2 g3
      rw [List.find?_cons]
      have kk : (Value.str k t).isStr name = decide (k = name) := by
        rw [PySem.W.isStr_of]
        unfold Value.isStrOf
        by_cases q : k = name
        · subst q; simp
        · simp [q]
      dsimp only
      rw [kk]
      cases i with
      | zero =>
        simp only [List.getElem?_cons_zero, Option.some.injEq] at g1 g3
        rw [decide_eq_true g1]
        exact ⟨_, rfl, g3⟩
      | succ i =>
        have ne : k ≠ name := fun q => g2 0 (Nat.succ_pos _) (by rw [List.getElem?_cons_zero, q])
        rw [decide_eq_false ne]
        simp only [List.getElem?_cons_succ] at g1 g3
        exact ih g1 (fun j hj => by have := g2 (j + 1) (by omega); simpa using this) g3
  obtain ⟨e, he, hval⟩ := key en hi hf hy
  have hl : lookIn name { cls := .type "dict", data := .dict es n } = some (some y) := by
    unfold lookIn
    dsimp only
    rw [he, ← hval]
  exact get_value X IA (plainGet_of h1).1 (findObj_own h2 h3 rfl hl) (handed_of ry ng) (q y ry)
theorem S1.attr_obj (W : Wd c K gt bt) (i : Nat) (hC : getsIn (K c.P) C name = true) (hi : ks[i]? = some name) (hf : ∀ j, j < i → ks[j]? ≠ some name) (hv : vs[i]? = some v) (ng : ∀ g, v ≠ .glob g) (q : Q v η) :
    S1 c d hd (fun y => getAttr y name true) (.obj C ks vs) η Q X := by
  intro A s pr y o I r
  unfold Rv at r
  obtain ⟨a, dd, xs, es, n, rfl, ho, hD, _, _, en, rs⟩ := r
  exact getAttr_M W I ho hD en rs hC hi hf hv ng fun y ry => Post.tok I _ ry q
-- an instance is made
theorem isFr_eq {A' : Around} (hf : A'.frames = A.frames) (b : Addr) : isFr A' b ↔ isFr A b := by unfold isFr; rw [hf]
theorem Inv.around {A' : Around} (hf : A'.frames = A.frames) (I : Inv c η pr A s) : Inv c η pr A' s := ⟨I.stays, I.hrel, I.apart, I.privs, by rw [hf]; exact I.frames, fun b f => I.frs b ((isFr_eq hf b).mp f), I.os, I.gens⟩
theorem Step.around {A' : Around} {own : Pr} {h h' : Heap} (hf : A'.frames = A.frames) (x : Step A own η h η' h') : Step A' own η h η' h' := ⟨x.upto, fun b o e n w f => x.same b o e n w fun q => f ((isFr_eq hf b).mpr q), x.there, x.dom, x.new⟩
theorem Thr.around {A' : Around} {h₀ h : Heap} {e C : Addr} (hf : A'.frames = A.frames) (x : Thr A h₀ h e C) : Thr A' h₀ h e C := by
  rcases x with x | ⟨a0, fl, x, z⟩
  · exact .inl x
  · exact .inr ⟨a0, fl, x, z.imp id fun ⟨env, outer, L, q, r⟩ => ⟨env, outer, L, hf.trans q, r⟩⟩
theorem under_frames (A : Around) (C : Addr) (args : List Value) : (A.under (.builtin "type.__call__" ⟨.ref C :: args, []⟩)).frames = A.frames := by
  show pushEnvs [] A.frames = A.frames
  cases A.frames <;> rfl
theorem under_guards (A : Around) (C : Addr) (args : List Value) : (A.under (.builtin "type.__call__" ⟨.ref C :: args, []⟩)).guards = A.guards := by
  show pushGuards [] A.guards = A.guards
  cases A.guards <;> rfl
theorem Ok.make {args : List Value} (o : Ok (d + 1) hd A) : Ok d hd (A.under (.builtin "type.__call__" ⟨.ref C :: args, []⟩)) :=
  ⟨by have := o.depth; show A.depth + 1 + d ≤ _; omega, by have := o.units; show A.units + 1 + 10 * d + 100 ≤ _; omega, o.handled, (under_guards A C args).trans o.guards⟩
theorem SC.make (W : Wd c K gt bt) {fI : Addr} (hm : makesIn (K c.P) C = true) (hi : findIn (K c.P) (.ref C) "__init__" = some (some (.ref fI))) (hfn : typeIn (K c.P) (.ref fI) = some (.type "function"))
    (p : ∀ a dd, η a = Option.none → η dd = Option.none → a ≠ dd → SCc c d hd (.ref fI) (.loc a :: vs) ((η.set dd (.idict [] [])).set a (.inst C dd)) (fun v η₁ => v = .none ∧ Q (.loc a) η₁) X) : SC c (d + 1) hd (.ref C) vs η Q X := by
  intro A s pr xs o I r
  have X' := W.kin.keeps I.stays
  have fr := fresh_none s
  obtain ⟨hh, gg, dw, tk, os⟩ := s
  dsimp only at X' fr r ⊢
  refine wpAny_call (make_core (makes_of X' hm) (looks_findIn X' hi) (fun self => bind_fn X' self hfn) (.inl rfl) ?_)
  have hf := under_frames A C xs
  have n1 := I.fresh_none fr
  have k1 : ∀ b o, hh.get? b = some o → (hh.push emptyDict).get? b = some o := fun b o e => Heap.get?_push_of_some _ e
  have I1 : Inv c (η.set hh.objs.size (.idict [] [])) pr A ⟨hh.push emptyDict, gg, dw, tk, os⟩ := Inv.newM (s := ⟨hh, gg, dw, tk, os⟩) (t := tk) I fr k1 ⟨[], #[], _, Heap.get?_push_size _ rfl, .nil, rfl⟩
  have sz : (hh.push emptyDict).objs.size = hh.objs.size + 1 := Heap.size_push ..
  have fr2 : (hh.push emptyDict).get? (hh.objs.size + 1) = Option.none := by rw [← sz]; exact fresh_none ⟨hh.push emptyDict, gg, dw, tk, os⟩
  have k2 : ∀ b o, (hh.push emptyDict).get? b = some o → ((hh.push emptyDict).push (instObj C hh.objs.size)).get? b = some o := fun b o e => Heap.get?_push_of_some _ e
  have ne : hh.objs.size + 1 ≠ hh.objs.size := by omega
  have I2 : Inv c ((η.set hh.objs.size (.idict [] [])).set (hh.objs.size + 1) (.inst C hh.objs.size)) pr A ⟨(hh.push emptyDict).push (instObj C hh.objs.size), gg, dw, tk, os⟩ :=
    Inv.newM (s := ⟨hh.push emptyDict, gg, dw, tk, os⟩) (t := tk) I1 fr2 k2 ⟨by rw [← sz]; exact Heap.get?_push_size _ rfl, [], [], by rw [Hp.set_ne _ _ (Ne.symm ne), Hp.set_self]⟩
  have frA : hh.get? (hh.objs.size + 1) = Option.none := by
    cases q : hh.get? (hh.objs.size + 1) with
    | none => rfl
    | some ob => exact absurd (Nat.lt_of_succ_lt (Heap.lt_size q)) (Nat.lt_irrefl _)
  have nA := I.fresh_none frA
  have m : Mono pr η hh ((η.set hh.objs.size (.idict [] [])).set (hh.objs.size + 1) (.inst C hh.objs.size)) pr ((hh.push emptyDict).push (instObj C hh.objs.size)) := by
    refine ⟨fun b ob e _ _ => k2 b ob (k1 b ob e), fun b e => ?_, fun b ob e n pp => ⟨?_, pp⟩⟩
    · have b1 : b ≠ hh.objs.size + 1 := by rintro rfl; rw [nA] at e; cases e
      have b2 : b ≠ hh.objs.size := by rintro rfl; rw [n1] at e; cases e
      rw [Hp.set_ne _ _ b1, Hp.set_ne _ _ b2]; exact e
    · have l := Heap.lt_size e
      rw [Hp.set_ne _ _ (Nat.ne_of_lt (Nat.lt_succ_of_lt l)), Hp.set_ne _ _ (Nat.ne_of_lt l)]; exact n
  have st0 : Step A noOwn η hh ((η.set hh.objs.size (.idict [] [])).set (hh.objs.size + 1) (.inst C hh.objs.size)) ((hh.push emptyDict).push (instObj C hh.objs.size)) := (Step.newM fr k1).trans (Step.newM fr2 k2)
  refine codeAny_mono (p (hh.objs.size + 1) hh.objs.size nA n1 ne _ _ pr (.ref (hh.objs.size + 1) :: xs) o.make (I2.around hf) ⟨_, _, rfl, ⟨rfl, by rw [Hp.set_self]; rfl⟩, Rvs.mono m _ r⟩) fun res s' z => ?_
  cases res with
  | error e =>
    obtain ⟨ea, C', η', rfl, xx, I', st, nw, th⟩ := z
    refine ⟨ea, C', η', rfl, xx, I'.around hf.symm, st0.trans (st.around hf.symm), ?_, (Thr.older st0.there th).around hf.symm⟩
    cases q : hh.get? ea with
    | none => rfl
    | some ob => have := st0.there ea ob q; rw [nw] at this; cases this
  | ok f =>
    cases f with
    | ret v =>
      obtain ⟨w, η', ⟨rfl, q⟩, I', rv, st⟩ := z
      unfold Rv at rv
      exact ⟨rv, .loc (hh.objs.size + 1), η', q, I'.around hf.symm, ⟨rfl, st.dom _ (by rw [Hp.set_self]; rfl)⟩, st0.trans (st.around hf.symm)⟩
    | _ => exact z
end
end Mine

namespace Mine
open PySem PyProof.Rows PySem.W

section
variable {c : Cx} {A : Around} {pr pr' : Pr} {η η' : Hp} {s : Shared} {d : Nat} {hd : Bool} {nm : List (Str × NameKind)} {σ : List (Option V)} {env : Env}
  {Q R : V → Hp → Prop} {X : Addr → Hp → Prop} {v w : V} {x : Str} {pos fp : Pos} {N : List (Option V) → Hp → Prop} {rest : List Stmt} {h h' : Heap} {a : Addr} {mo : MObj} {K : Params → Frag} {gt bt : List (Str × Value)}

theorem S2.leS {x y : Str} (q : Q (.bool (!decide (y.cps.toList < x.cps.toList))) η) : S2 c d hd (compareOp .LtE) (.str x) (.str y) η Q X := fun _ _ _ _ _ _ I r r' => by
  unfold Rv at r r'; obtain ⟨t, rfl⟩ := r; obtain ⟨u, rfl⟩ := r'
  exact PySem.P.le_str (Post.val (v := .bool _) I rfl q)

-- sum, all, list
theorem SC.all {bs : List Bool} (q : Q (.bool (bs.all id)) η) : SC c d true (.builtin "all") [.lst (bs.map V.bool)] η Q X := by
  intro A s pr xs o I r
  obtain ⟨y, rfl, ry⟩ := rvs1 r
  unfold Rv at ry
  obtain ⟨b, its, n, rfl, ho, _, _, rs⟩ := ry
  refine call_all_walk ?_
  refine wpAny_pyIter_list (A := A.in1) ⟨_, ho, rfl, _, rfl⟩ ?_
  have keep : ∀ b ob, s.heap.get? b = some ob → (s.heap.push { cls := .type "list_iterator", data := .fields #[.ref b, .int 0 0] }).get? b = some ob := fun b ob e => Heap.get?_push_of_some _ e
  refine ⟨_, _, _, _, _, _, fun i => bs.getD i true, rfl, Walks.list (A := A.in1) (o.handled rfl) s.heap.objs.size b (fresh_ne ho) its.toArray, ⟨⟨_, Heap.get?_push_size _ rfl, rfl, rfl⟩, _, Heap.get?_push_of_some _ ho, rfl, _, rfl⟩, ?_, fun h' tk k => ?_⟩
  · intro i z s' QQ E hp hq
    simp only [List.getElem?_toArray] at hp
    have hl := rvs_length rs
    have hi : i < bs.length := by
      have := (List.getElem?_eq_some_iff.mp hp).1
      simpa [hl] using this
    obtain ⟨z', hz', rz⟩ := rvs_get rs (k := i) (u := .bool bs[i]) (by simp [hi])
    rw [hz'] at hp; cases hp
    unfold Rv at rz; subst rz
    have e : bs.getD i true = bs[i] := by simp [hi]
    dsimp only at hq
    rw [e] at hq
    exact wpAny_truthy_bool hq
  · have hl := rvs_length rs
    have e : ((List.range its.toArray.size).all fun i => bs.getD i true) = bs.all id := by
      have : its.toArray.size = bs.length := by simpa using hl
      rw [this, Bool.eq_iff_iff, List.all_eq_true, List.all_eq_true]
      constructor
      · intro g b m
        obtain ⟨i, hi, rfl⟩ := List.getElem_of_mem m
        have := g i (List.mem_range.mpr hi)
        simpa [hi] using this
      · intro g i m
        have hi := List.mem_range.mp m
        have := g bs[i] (List.getElem_mem hi)
        simpa [hi] using this
    rw [e]
    refine Post.pure (v := .bool (bs.all id)) I (fun b' ob e => k b' ob (fun m => ?_) (Heap.get?_push_of_some _ e)) rfl q
    simp only [List.mem_cons, List.not_mem_nil, or_false] at m
    exact fresh_ne e m
theorem SC.listOf {vs : List V} (q : Q (.lst vs) η) : SC c d hd (.type "list") [.lst vs] η Q X := by
  intro A s pr xs o I r
  obtain ⟨y, rfl, ry⟩ := rvs1 r
  unfold Rv at ry
  obtain ⟨b, its, n, rfl, ho, _, hz, rs⟩ := ry
  refine call_list_seq b (.inl rfl) ho rfl rfl (fun h' c' k g => ?_) (by simpa [rvs_length rs] using hz)
  refine Post.pure (t := s.toks) (v := .lst vs) I k ?_ q
  unfold Rv
  exact ⟨_, its, c', rfl, g, Rvs.fresh (vs := vs) (xs := its) I, hz, Rvs.mono (Mono.of_keeps k) vs rs⟩
/-- a copy that will be changed -/
theorem SC.listM {vs : List V} (q : ∀ a, η a = Option.none → Q (.loc a) (η.set a (.lst vs))) : SC c d hd (.type "list") [.lst vs] η Q X := by
  intro A s pr xs o I r
  obtain ⟨y, rfl, ry⟩ := rvs1 r
  unfold Rv at ry
  obtain ⟨b, its, n, rfl, ho, _, hz, rs⟩ := ry
  refine call_list_seq b (.inl rfl) ho rfl rfl (fun h' c' k g => ?_) (by simpa [rvs_length rs] using hz)
  have fr := fresh_none s
  refine ⟨.loc s.heap.objs.size, _, q _ (I.fresh_none fr), I.newM (t := s.toks) fr k ⟨its, c', g, hz, Rvs.mono (Mono.newM fr k) vs rs⟩, ⟨rfl, by rw [Hp.set_self]; rfl⟩, Step.newM fr k⟩
/-- a class of one's own is called -/
theorem SE.ccall (W : Wd c K gt bt) {f : Str} {es : List Expr} {C : Addr} (m : (f, NameKind.globalImplicit) ∈ nm) (mg : (f, .ref C) ∈ gt) (hk : keepIn (K c.P) (.ref C) = true)
    (p : SL c d hd nm σ η es (fun vs η₁ => SC c d hd (.ref C) vs η₁ Q X) X) (hs : es.any star? = false := by with_unfolding_all rfl) (hn : (f == ("__debug__" : Str)) = false := by decide +kernel) : SE c d hd nm σ η (.Call (.Name f fp) es [] pos) Q X := by
  intro A env s pr o I F
  refine wpAny_Call_ofName (wpAny_mono (SE.glob (Q := fun v η' => v = .glob (.ref C) ∧ η' = η) (X := X) m (W.g mg) ⟨rfl, rfl⟩ hn A env s pr o I F) (fun x s₁ hq => ?_) fun _ _ e => e)
  obtain ⟨v, η₁, ⟨rfl, e⟩, I₁, rv, st⟩ := hq
  subst e
  unfold Rv at rv; subst rv
  refine callWith_of (P := (K c.P).In) (by rw [noStar hs]; rfl) (keeps_K hk) (evalArgs_SL p o I₁ (F.step I st) hs (fun vs η₂ s₂ xs q I₂ r st₂ => ⟨W.kin.keeps I₂.stays, ?_⟩) fun _ _ e => e.older st)
  exact wpAny_mono (q A s₂ pr xs o I₂ r) (fun _ _ e => e.older (st.trans st₂)) fun _ _ e => e.older (st.trans st₂)

/-- a global that names a tuple of two numbers -/
theorem SE.gpair (W : Wd c K gt bt) {i j : Int} {t u : Tok} {n : Nat} (m : (x, NameKind.globalImplicit) ∈ nm) (mg : (x, .ref a) ∈ gt) (hk : (K c.P).lookup a = some { cls := .type "tuple", data := .seq #[.int i t, .int j u] n })
    (q : Q (.tup [.int i, .int j]) η) (hn : (x == ("__debug__" : Str)) = false := by decide +kernel) : SE c d hd nm σ η (.Name x pos) Q X := by
  intro A env s pr o I F
  refine wpAny_mono (SE.glob (Q := fun v η' => v = .glob (.ref a) ∧ η' = η) (X := X) m (W.g mg) ⟨rfl, rfl⟩ hn A env s pr o I F) (fun y s₁ hq => ?_) fun _ _ e => e
  obtain ⟨v, η₁, ⟨rfl, e⟩, I₁, rv, st⟩ := hq
  subst e
  unfold Rv at rv; subst rv
  have hb := W.kin _ _ hk
  have na : η₁ a = Option.none := by
    cases q : η₁ a with
    | none => rfl
    | some o => have := I₁.apart a (by rw [q]; rfl); rw [hb] at this; cases this
  have np : ¬ pr a := fun p => by have := (I₁.privs a p).2.2; rw [hb] at this; cases this
  refine ⟨.tup [.int i, .int j], η₁, q, I₁, ?_, st⟩
  unfold Rv
  exact ⟨a, [.int i t, .int j u], n, rfl, by simpa using I₁.stays _ _ hb, ⟨na, np⟩, len_ok (by rfl), ⟨_, _, rfl, ⟨_, rfl⟩, _, _, rfl, ⟨_, rfl⟩, rfl⟩⟩

-- new mutable objects of a block are left alone behind it
inductive FrzF (η η₁ : Hp) : List (Option V) → List (Option V) → Prop
  | nil : FrzF η η₁ [] []
  | none {o σ₁ σ'} : FrzF η η₁ σ₁ σ' → FrzF η η₁ (o :: σ₁) (none :: σ')
  | some {v₁ v σ₁ σ'} : Frz η η₁ v₁ v → FrzF η η₁ σ₁ σ' → FrzF η η₁ (some v₁ :: σ₁) (some v :: σ')
theorem FrzF.at {η η₁ : Hp} {σ₁ σ' : List (Option V)} (f : FrzF η η₁ σ₁ σ') {nm : List (Str × NameKind)} {x : Str} {k : NameKind} {v : V} (a : At nm σ' x k v) : ∃ v₁, At nm σ₁ x k v₁ ∧ Frz η η₁ v₁ v := by
  induction f generalizing nm with
  | nil => cases a
  | none _ ih => cases a with | tail a => obtain ⟨v₁, p, q⟩ := ih a; exact ⟨v₁, .tail p, q⟩
  | some g _ ih =>
    cases a with
    | head => exact ⟨_, .head, g⟩
    | tail a => obtain ⟨v₁, p, q⟩ := ih a; exact ⟨v₁, .tail p, q⟩
theorem SS.frz {b : List Stmt} (p : SS c d hd nm σ η b (fun σ₁ η₁ => Ext η η₁ ∧ ∃ σ', FrzF η η₁ σ₁ σ' ∧ N σ' η) (fun v₁ η₁ => Ext η η₁ ∧ ∃ v, Frz η η₁ v₁ v ∧ R v η) (fun C η₁ => Ext η η₁ ∧ X C η)) : SS c d hd nm σ η b N R X := by
  intro A env s pr outer o I F h1 h2
  refine wpAny_mono (p A env s pr outer o I F h1 h2) (fun f s' hq => ?_) fun y s' hx => ?_
  · cases f with
    | next =>
      obtain ⟨σ₁, η₁, ⟨x, σ', ff, q⟩, I₁, F₁, st⟩ := hq
      refine ⟨σ', η, q, I.frz I₁ x, ⟨F₁.kind, F₁.names, F₁.nodup, F₁.globals, F₁.builtins, F₁.ns, F₁.nsp, F₁.cells, F₁.inj, F₁.has, fun y k v a => ?_⟩, st.frz⟩
      obtain ⟨v₁, a₁, g⟩ := ff.at a
      obtain ⟨val, q1, q2⟩ := F₁.vars y k v₁ a₁
      exact ⟨val, q1, g.rv I₁ x q2⟩
    | ret r =>
      obtain ⟨v₁, η₁, ⟨x, v, fz, q⟩, I₁, rv, st⟩ := hq
      exact ⟨v, η, q, I.frz I₁ x, fz.rv I₁ x rv, st.frz⟩
    | brk => exact hq
    | cont => exact hq
  · obtain ⟨e, C, η₁, rfl, ⟨x, q⟩, I₁, st, n, t⟩ := hx
    exact ⟨e, C, η, rfl, q, I.frz I₁ x, st.frz, n, t⟩

/-- a loop that gathers, the mutable objects too -/
theorem ForL.foldH {α : Type} {t : Expr} {xs : List Str} {body : List Stmt} (T : α → List (Option V)) (H : α → Hp) (P : α → List V → Prop) {vs : List V} (a : α) (h0 : P a vs)
    (hb : ∀ a v vs', P a (v :: vs') → SA c d nm (T a) (H a) t xs v fun τ => SS c d true nm τ (H a) body (fun τ' η' => ∃ a', P a' vs' ∧ Less (T a') τ' ∧ η' = H a') R X)
    (hN : ∀ a σ', P a [] → Less (T a) σ' → N σ' (H a)) {σ : List (Option V)} (l : Less (T a) σ) : ForL c d nm t xs body N R X vs σ (H a) := by
  induction vs generalizing σ a with
  | nil => unfold ForL; exact hN a σ h0 l
  | cons v vs ih =>
    unfold ForL
    refine SA.forget l ((hb a v vs h0).mono fun τ p => p.mono (fun τ' η' q => ?_) (fun _ _ q => q) fun _ _ q => q)
    obtain ⟨a', p', l', rfl⟩ := q
    exact ih a' p' l'

/-- a private list becomes a mutable one -/
theorem Mono.thaw (n : η a = Option.none) : Mono (fun b => pr b ∨ b = a) η h (η.set a mo) pr h := by
  refine ⟨fun b o e _ _ => e, fun b e => ?_, fun b o e n' p => ⟨?_, fun q => p (.inl q)⟩⟩
  · by_cases q : b = a
    · subst q; rw [Hp.set_self]; rfl
    · rw [Hp.set_ne _ _ q]; exact e
  · rw [Hp.set_ne _ _ fun q => p (.inr q)]; exact n'
theorem Inv.thaw {vs : List V} {its : List Value} {n : Nat} (I : Inv c η (fun b => pr b ∨ b = a) A s) (na : η a = Option.none) (np : ¬ pr a) (nb : c.base.get? a = Option.none) (g : s.heap.get? a = some { cls := .type "list", data := .seq its.toArray n }) (hz : vs.length ≤ sizeLine) (rs : Rvs c.P s.heap η (fun b => pr b ∨ b = a) vs its)
    (f : ∀ b, isFr A b → pr b) : Inv c (η.set a (.lst vs)) pr A s := by
  have m : Mono (fun b => pr b ∨ b = a) η s.heap (η.set a (.lst vs)) pr s.heap := Mono.thaw na
  refine ⟨I.stays, fun b o e => ?_, fun b e => ?_, fun b p => ?_, I.frames, f, I.os, I.gens⟩
  · by_cases q : b = a
    · subst q; rw [Hp.set_self] at e; cases e; exact ⟨its, n, g, hz, Rvs.mono m _ rs⟩
    · rw [Hp.set_ne _ _ q] at e
      refine (I.hrel b o e).mono2 m (fun dd ks vs qd => ⟨ks, vs, ?_⟩) fun o' _ e => e
      rw [Hp.set_ne]
      · exact qd
      · rintro rfl; rw [na] at qd; cases qd
  · by_cases q : b = a
    · subst q; exact nb
    · rw [Hp.set_ne _ _ q] at e; exact I.apart b e
  · obtain ⟨q1, q2, q3⟩ := I.privs b (.inl p)
    refine ⟨q1, ?_, q3⟩
    rw [Hp.set_ne]
    · exact q2
    · rintro rfl; exact np p
theorem Step.thaw {own : Pr} (st : Step A own η h η' h') (n : h.get? a = Option.none) : Step A own η h (η'.set a mo) h' := by
  refine ⟨st.upto, st.same, st.there, fun b e => ?_, fun b e e' => ?_⟩
  · by_cases q : b = a
    · subst q; rw [Hp.set_self]; rfl
    · rw [Hp.set_ne _ _ q]; exact st.dom b e
  · by_cases q : b = a
    · subst q; exact n
    · rw [Hp.set_ne _ _ q] at e'; exact st.new b e e'
section
variable {scope : Scope} {nmC : List (Str × NameKind)} {τ : List (Option V)} {iter elt t : Expr}
/-- a comprehension: a new list that will be changed -/
theorem SE.compM (xs : List Str) (cnd : Option Expr) (cap : CapR nm σ scope.names nmC τ)
    (p : SJ c d nm σ η iter t (fun G vs η₁ => vs.length ≤ sizeLine ∧ CompLG c d nmC t xs cnd elt (fun ws η₂ => ∀ a, η₂ a = Option.none → Q (.loc a) (η₂.set a (.lst ws))) G vs [] τ η₁) X)
    (ok : compOk scope xs = true := by decide +kernel) (hs : ∀ env x, foldedSetIterable iter env x = pure x := by intro _ _; with_unfolding_all rfl) :
    SE c d true nm σ η (.ListComp elt [⟨t, iter, ifsOf cnd, 0⟩] scope pos) Q X := by
  intro A env s pr o I F
  rw [eval_ListComp]
  obtain ⟨hkind, hnames⟩ := compNames ok
  refine wpAny_comprehension_free (use := Option.none) (e := .ListComp elt [⟨t, iter, ifsOf cnd, 0⟩] scope pos) (g := ⟨t, iter, ifsOf cnd, 0⟩) (gs := []) rfl (hs env) (closure_eq (cap.free F)) hkind hnames (p A env s pr _ _ o I F (fun _ _ e => e) fun G vs η₁ s₁ h₂ tk J I₀ St k I₁ st itr hJ hJf keep st0 => ?_)
  obtain ⟨hz, cl⟩ := k
  refine comp_core ok o I₁ (F.step I st) cap itr hJ hJf keep st0 hz cl fun ws η' s' D C its n m k hl I' gD rs ηD nD bD sD sC ns stp => ?_
  refine ⟨m, ns, fun h' sb => ?_⟩
  have kC : ∀ b ob, ¬ b = C → s'.heap.get? b = some ob → h'.get? b = some ob := fun b ob nb e => (sb.2 b nb).trans e
  have nCpr : ∀ b, pr b → ¬ b = C := fun b q e => by
    subst e
    have := (I₁.privs _ q).1; rw [sC] at this; cases this
  have DneC : ¬ D = C := fun e => nD (.inr e)
  have I2 : Inv c η' (fun b => pr b ∨ b = D) A { s' with heap := h', toks := s'.toks } := (I'.less (pr := fun b => (pr b ∨ b = D) ∨ b = C) (fun b q => by
    rcases q with (q | q) | q
    · exact .inl q
    · exact .inr (.inr q)
    · exact .inr (.inl q)) fun b f => .inl (.inl (I.frs b f))).end (J := fun b => b = C) kC (fun b q => by
      rcases q with q | q
      · exact nCpr b q
      · exact fun e => DneC (q.symm.trans e)) (fun b f => .inl (I.frs b f)) s'.toks
  have gD' := kC D _ DneC gD
  have rs' : Rvs c.P h' η' (fun b => pr b ∨ b = D) ws its := Rvs.mono ⟨fun b ob e _ p => kC b ob (fun q => p (.inr (.inl q))) e, fun _ e => e, fun b ob e n p => ⟨n, fun q => p (q.imp id .inr)⟩⟩ _ rs
  have st2 : Step A noOwn η s.heap η' h' := (st.trans stp).then_keep (J := fun b => b = C) kC fun b e => by
    subst e
    cases q : s.heap.get? b with
    | none => rfl
    | some ob => have := st.there b ob q; rw [sC] at this; cases this
  have nsD : s.heap.get? D = Option.none := by
    cases q : s.heap.get? D with
    | none => rfl
    | some ob => have := st.there D ob q; rw [sD] at this; cases this
  exact ⟨.loc D, η'.set D (.lst ws), k D ηD, Inv.thaw I2 ηD (fun q => nD (.inl q)) bD gD' hl rs' I.frs, ⟨rfl, by rw [Hp.set_self]; rfl⟩, Step.thaw st2 nsD⟩
end
/-- a list that is changed elsewhere is iterated -/
theorem SJ.loc {t it : Expr} {KK : (Hp → Prop) → List V → Hp → Prop} (p : SE c d true nm σ η it (fun v η₁ => ∃ b vs, v = .loc b ∧ η₁ b = some (.lst vs) ∧ KK (fun η => η b = some (.lst vs)) vs η₁) X) : SJ c d nm σ η it t KK X := by
  intro A env s pr QQ E o I F hE hQ
  refine wpAny_mono (p A env s pr o I F) (fun y s₁ hq => ?_) fun r s' e => hE r s' e
  obtain ⟨v, η₁, ⟨b, vs, rfl, eb, k⟩, I₁, rv, st⟩ := hq
  unfold Rv at rv; obtain ⟨rfl, _⟩ := rv
  obtain ⟨xs, n, ho, z, rs⟩ := I₁.hrel _ _ eb
  refine wpAny_pyIter_list ⟨_, ho, rfl, _, rfl⟩ ?_
  have keep : ∀ b' ob, s₁.heap.get? b' = some ob → (s₁.heap.push { cls := .type "list_iterator", data := .fields #[.ref b, .int 0 0] }).get? b' = some ob := fun b' ob e => Heap.get?_push_of_some _ e
  have ne : b ≠ s₁.heap.objs.size := fresh_ne ho
  refine hQ _ vs η₁ s₁ _ s₁.toks (fun b => b = s₁.heap.objs.size) s₁.heap.objs.size (fun i h η pr => h.IsListIter s₁.heap.objs.size b i) k I₁ st ?_ (fun b e => by cases e; exact fresh_none s₁) (fresh_frame I₁) keep ⟨_, Heap.get?_push_size _ rfl, rfl, rfl⟩
  generalize s₁.heap.objs.size = I₀ at ne
  refine ⟨rfl, fun {i h η pr h' η' pr'} st m kj => st.at fun ob e => kj _ rfl ob e, fun {i h η pr b'} st e => by cases e; obtain ⟨ob, e, _⟩ := st; exact ⟨ob, e⟩, ?_, ?_, ?_⟩
  · intro i s η pr v QQ E hJ I g hv st hQ
    obtain ⟨xs, n, ho, z, rs⟩ := I.hrel _ _ g
    have W := Walks.list (prog := c.prog) (w := c.w) (A := A) (o.handled rfl) I₀ b ne xs.toArray
    have hi : i < xs.toArray.size := by
      have := (List.getElem?_eq_some_iff.mp hv).1
      simpa [rvs_length rs] using this
    refine W.item i s _ E hi ⟨st, _, ho, rfl, _, rfl⟩ fun y h' tk hp st' kk => ?_
    obtain ⟨⟨ob, e1, e2, e3⟩, _⟩ := id st'
    refine letgo_none e1 e2 e3 (by decide +kernel) ?_
    have hk : ∀ b ob, ¬ b = I₀ → s.heap.get? b = some ob → h'.get? b = some ob := fun b ob nb e => kk b ob (by simpa using nb) e
    have m : Mono pr η s.heap η pr h' := ⟨fun b ob e _ p => hk b ob (fun q => p (hJ b q)) e, fun _ e => e, fun b _ _ n p => ⟨n, p⟩⟩
    obtain ⟨y', hy, ry⟩ := rvs_get rs hv
    simp only [List.getElem?_toArray] at hp; rw [hy] at hp; cases hp
    exact hQ h' tk y st'.1 hk (Rv.mono m _ ry)
  · intro s η pr QQ E I g st hQ
    obtain ⟨xs, n, ho, z, rs⟩ := I.hrel _ _ g
    have W := Walks.list (prog := c.prog) (w := c.w) (A := A) (o.handled rfl) I₀ b ne xs.toArray
    have hl : vs.length = xs.toArray.size := by simp [rvs_length rs]
    exact W.done s QQ E ⟨hl ▸ st, _, ho, rfl, _, rfl⟩ fun h' tk kk => hQ h' tk fun b ob nb e => kk b ob (by simpa using nb) e
  · intro i s η pr QQ E st q
    exact wpAny_pyIter_listiter st q

-- zip
end
end Mine

namespace Mine
open PySem PyProof.Rows PySem.W

-- shares are told by their ratio
theorem dvd_cop {a b m : Int} (h : Int.gcd a b = 1) (d : b ∣ a * m) : b ∣ m := by
  rw [← Int.natAbs_dvd_natAbs] at d ⊢
  rw [Int.natAbs_mul] at d
  exact Nat.Coprime.dvd_of_dvd_mul_left (by rw [Nat.Coprime, Nat.gcd_comm]; exact h) d
theorem normal_uniq {t b t' b' p q p' q' : Int} (h : b ≠ 0) (h' : b' ≠ 0) (e : t * b' = t' * b) (N : Normal t b p q) (N' : Normal t' b' p' q') : p = p' ∧ q = q' := by
  have key : p * q' = p' * q := by
    have e1 : (p * q') * (b * b') = (p' * q) * (b * b') := by
      have a1 : (p * q') * (b * b') = (p * b) * (q' * b') := by simp only [Int.mul_comm, Int.mul_left_comm, Int.mul_assoc]
      have a2 : (p' * q) * (b * b') = (p' * b') * (q * b) := by simp only [Int.mul_comm, Int.mul_left_comm, Int.mul_assoc]
      rw [a1, a2, N.eq, N'.eq]
      have a3 : t * q * (q' * b') = (t * b') * (q * q') := by simp only [Int.mul_comm, Int.mul_left_comm, Int.mul_assoc]
      have a4 : t' * q' * (q * b) = (t' * b) * (q * q') := by simp only [Int.mul_comm, Int.mul_left_comm, Int.mul_assoc]
      rw [a3, a4, e]
    exact Int.eq_of_mul_eq_mul_right (Int.mul_ne_zero h h') e1
  have d1 : q ∣ q' := dvd_cop N.cop (by rw [key]; exact Int.dvd_mul_left ..)
  have d2 : q' ∣ q := dvd_cop N'.cop (by rw [← key]; exact Int.dvd_mul_left ..)
  have p1 := N.pos
  have p2 := N'.pos
  have eq : q = q' := Int.dvd_antisymm (by omega) (by omega) d1 d2
  subst eq
  exact ⟨Int.eq_of_mul_eq_mul_right (by omega) key, rfl⟩
theorem shareOf_eq {t b t' b' : Int} (h : b ≠ 0) (h' : b' ≠ 0) (e : t * b' = t' * b) : shareOf t b = shareOf t' b' := by
  obtain ⟨e1, e2⟩ := normal_uniq h h' e (shareOf_normal h) (shareOf_normal h')
  unfold shareOf
  rw [e1, e2]
/-- what is known of a share -/
theorem shareOf_parts {t b : Int} (h : b ≠ 0) : ∃ p q, shareOf t b = .tup [.int p, .int q] ∧ Normal t b p q := ⟨_, _, rfl, shareOf_normal h⟩

-- sums
noncomputable def sumN (n : Nat) (f : Nat → Int) : Int := ((List.range n).map f).sum
theorem sumN_zero (f : Nat → Int) : sumN 0 f = 0 := rfl
theorem sumN_succ (n : Nat) (f : Nat → Int) : sumN (n + 1) f = sumN n f + f n := by
  unfold sumN; rw [List.range_succ, List.map_append, List.sum_append]; simp
-- sizes
noncomputable def Lb (b : Nat) (x : Int) : Prop := x.natAbs ≤ 2 ^ b
theorem Lb.mono {a b : Nat} {x : Int} (h : Lb a x) (e : a ≤ b) : Lb b x := Nat.le_trans h (Nat.pow_le_pow_right (by decide) e)
theorem Lb.mul {a b : Nat} {x y : Int} (h : Lb a x) (h' : Lb b y) : Lb (a + b) (x * y) := by
  unfold Lb at *
  rw [Int.natAbs_mul, Nat.pow_add]; exact Nat.mul_le_mul h h'
theorem Lb.pow {a : Nat} {x : Int} (h : Lb a x) (k : Nat) : Lb (k * a) (x ^ k) := by
  unfold Lb at *
  rw [Int.natAbs_pow, Nat.mul_comm, Nat.pow_mul]; exact Nat.pow_le_pow_left h k
theorem lb_sum {n b : Nat} {f : Nat → Int} (h : ∀ k, k < n → Lb b (f k)) : (sumN n f).natAbs ≤ n * 2 ^ b := by
  induction n with
  | zero => simp [sumN_zero]
  | succ n ih =>
    rw [sumN_succ]
    have h1 := ih fun k hk => h k (by omega)
    have h2 : (f n).natAbs ≤ 2 ^ b := h n (by omega)
    have h3 := Int.natAbs_add_le (sumN n f) (f n)
    rw [Nat.succ_mul]; omega
theorem Lb.sum {n b : Nat} {f : Nat → Int} (hn : n ≤ 16) (h : ∀ k, k < n → Lb b (f k)) : Lb (b + 4) (sumN n f) := by
  have := lb_sum h
  unfold Lb
  rw [Nat.pow_add, Nat.mul_comm]
  exact Nat.le_trans this (Nat.mul_le_mul_right _ hn)

/-- a number of at most so many bits -/
noncomputable def Sm (a : Int) : Prop := a.natAbs < 2 ^ 4000
theorem Sm.bits {a : Int} (h : Sm a) : Builtin.Int.intBits a ≤ 4000 := bits_le h
theorem Sm.mul {a b : Int} (ha : Sm a) (hb : Sm b) : IntMulOk a b := mulOk (k := 4000) ha.bits hb.bits
theorem Sm.prod {a b : Int} (ha : Sm a) (hb : Sm b) : (a * b).natAbs < 2 ^ 9000 := by
  unfold Sm at ha hb
  rw [Int.natAbs_mul]
  have h1 : a.natAbs * b.natAbs < 2 ^ 4000 * 2 ^ 4000 := Nat.mul_lt_mul'' ha hb
  exact Nat.lt_trans h1 (by decide +kernel)
theorem Lb.sm {b : Nat} {x : Int} (h : Lb b x) (e : b < 4000 := by omega) : Sm x := Nat.lt_of_le_of_lt h (Nat.pow_lt_pow_right (by decide) e)
theorem Sm.top {t b p q : Int} (N : Normal t b p q) (h : Sm t) : Sm p := Nat.lt_of_le_of_lt N.top h
theorem Sm.bot {t b p q : Int} (N : Normal t b p q) (h : Sm b) : Sm q := Nat.lt_of_le_of_lt N.bot h

-- lists by numbers
theorem rngL0 (n : Nat) : rngL 0 (n : Int) = (List.range n).map fun k => V.int (k : Nat) := by
  unfold rngL; simp
theorem range_get {α : Type} {n k : Nat} (f : Nat → α) (h : k < n) : ((List.range n).map f)[k]? = some (f k) := by simp [h]
section
variable {c : Cx} {η : Hp} {d : Nat} {hd : Bool} {nm : List (Str × NameKind)} {σ τ : List (Option V)} {t elt : Expr} {xs : List Str} {cnd : Option Expr} {K : List V → Hp → Prop} {x y : Str} {px py tp : Pos} {Q R : V → Hp → Prop} {X : Addr → Hp → Prop} {v w : V} {N : List (Option V) → Hp → Prop}

/-- each item gives one value, by a list of indices -/
theorem CompL.mapA {α : Type} {u g : α → V} {l : List α} {ws : List V} (he : ∀ a ∈ l, ∃ T, SA c d nm τ η t xs (u a) (fun τ' => τ' = T) ∧ Less τ T ∧ EP c d true nm T η elt (g a) noX) (k : K (ws ++ l.map g) η) : CompL c d nm t xs none elt K (l.map u) ws τ η := by
  induction l generalizing ws with
  | nil => rw [List.map_nil]; unfold CompL; simpa using k
  | cons a l ih =>
    rw [List.map_cons]
    unfold CompL
    obtain ⟨T, sa, le, ep⟩ := he a (.head _)
    intro A env s pr y QQ E o I F r q
    refine sa A env s pr y QQ E o I F r fun s' σ' e I' F' st => q s' σ' ?_ I' F' st
    subst e
    refine ep.mono (fun w η' e => ?_) fun _ _ e => e
    obtain ⟨rfl, rfl⟩ := e
    exact CompL.forget le (ih (fun a m => he a (.tail _ m)) (by simpa using k))
theorem CompL.mapL {α : Type} {u g : α → V} {l : List α} {ws : List V} (he : ∀ a ∈ l, ∃ T, Put nm τ x (u a) T ∧ Less τ T ∧ EP c d true nm T η elt (g a) noX) (k : K (ws ++ l.map g) η) : CompL c d nm (.Name x px) [x] none elt K (l.map u) ws τ η :=
  CompL.mapA (fun a m => let ⟨T, p, l, e⟩ := he a m; ⟨T, SA.name p rfl, l, e⟩) k
theorem CompL.mapV {g : V → V} {vs ws : List V} (he : ∀ v ∈ vs, ∃ T, Put nm τ x v T ∧ Less τ T ∧ EP c d true nm T η elt (g v) noX) (k : K (ws ++ vs.map g) η) : CompL c d nm (.Name x px) [x] none elt K vs ws τ η := by
  have := CompL.mapL (u := fun v => v) (px := px) (fun v m => he v m) k
  rwa [List.map_id'] at this
/-- over a range -/
theorem CompL.mapN {u g : Nat → V} {n : Nat} {ws : List V} (he : ∀ k, k < n → ∃ T, Put nm τ x (u k) T ∧ Less τ T ∧ EP c d true nm T η elt (g k) noX) (k : K (ws ++ (List.range n).map g) η) : CompL c d nm (.Name x px) [x] none elt K ((List.range n).map u) ws τ η :=
  CompL.mapL (fun a m => he a (List.mem_range.mp m)) k
theorem CompL.rngN {g : Nat → V} {n : Nat} {ws : List V} (he : ∀ k, k < n → ∃ T, Put nm τ x (.int (k : Nat)) T ∧ Less τ T ∧ EP c d true nm T η elt (g k) noX) (k : K (ws ++ (List.range n).map g) η) : CompL c d nm (.Name x px) [x] none elt K (rngL 0 (n : Int)) ws τ η := by
  rw [rngL0]; exact CompL.mapN he k
theorem lins_of : ∀ {vs : List V}, (∀ v ∈ vs, Lin η v) → Lins η vs
  | [], _ => trivial
  | _ :: _, h => ⟨h _ (.head _), lins_of fun v m => h v (.tail _ m)⟩
theorem rng_ok {n : Nat} (h : n ≤ 10000) : SI c d t (.rng 0 (n : Int)) η (rngL 0 (n : Int)) := SI.rng (by decide) (by omega) (by decide) (by omega)
theorem rng_len {n : Nat} (h : n ≤ 10000) : (rngL 0 (n : Int)).length ≤ sizeLine := by
  have : sizeLine = 16777216 := by decide
  rw [rngL0, List.length_map, List.length_range]; omega
theorem range_len {α : Type} {f : Nat → α} {n : Nat} (h : n ≤ 10000) : ((List.range n).map f).length ≤ sizeLine := by
  have : sizeLine = 16777216 := by decide
  rw [List.length_map, List.length_range]; omega

/-- a for over items by numbers -/
theorem ForL.mapN {body : List Stmt} {n : Nat} {u : Nat → V} (T : Nat → List (Option V)) (hb : ∀ k, k < n → ∃ T', Put nm (T k) x (u k) T' ∧ SS c d true nm T' η body (fun τ' η' => Less (T (k + 1)) τ' ∧ η' = η) R X)
    (hN : ∀ σ', Less (T n) σ' → N σ' η) {σ : List (Option V)} (l : Less (T 0) σ) : ForL c d nm (.Name x px) [x] body N R X ((List.range n).map u) σ η := by
  have key : ∀ (m k : Nat) (σ : List (Option V)), k + m = n → Less (T k) σ → ForL c d nm (.Name x px) [x] body N R X ((List.range' k m).map u) σ η := by
    intro m
    induction m with
    | zero => intro k σ e l; rw [List.range'_zero, List.map_nil]; unfold ForL; have : k = n := by omega
              subst this; exact hN σ l
    | succ m ih =>
      intro k σ e l
      rw [List.range'_succ, List.map_cons]
      unfold ForL
      obtain ⟨T', p, ss⟩ := hb k (by omega)
      refine SA.forget l (SA.name p (ss.mono (fun τ' η' q => ?_) (fun _ _ q => q) fun _ _ q => q))
      obtain ⟨l', rfl⟩ := q
      exact ih (k + 1) τ' (by omega) l'
  have := key n 0 σ (by omega) l
  rwa [← List.range_eq_range'] at this
/-- a for over items by numbers, the mutable objects too -/
theorem ForL.mapH {body : List Stmt} {n : Nat} {u : Nat → V} (T : Nat → List (Option V)) (H : Nat → Hp) (hb : ∀ k, k < n → ∃ T', Put nm (T k) x (u k) T' ∧ SS c d true nm T' (H k) body (fun τ' η' => Less (T (k + 1)) τ' ∧ η' = H (k + 1)) R X)
    (hN : ∀ σ', Less (T n) σ' → N σ' (H n)) {σ : List (Option V)} (l : Less (T 0) σ) : ForL c d nm (.Name x px) [x] body N R X ((List.range n).map u) σ (H 0) := by
  have key : ∀ (m k : Nat) (σ : List (Option V)), k + m = n → Less (T k) σ → ForL c d nm (.Name x px) [x] body N R X ((List.range' k m).map u) σ (H k) := by
    intro m
    induction m with
    | zero => intro k σ e l; rw [List.range'_zero, List.map_nil]; unfold ForL; have : k = n := by omega
              subst this; exact hN σ l
    | succ m ih =>
      intro k σ e l
      rw [List.range'_succ, List.map_cons]
      unfold ForL
      obtain ⟨T', p, ss⟩ := hb k (by omega)
      refine SA.forget l (SA.name p (ss.mono (fun τ' η' q => ?_) (fun _ _ q => q) fun _ _ q => q))
      obtain ⟨l', rfl⟩ := q
      exact ih (k + 1) τ' (by omega) l'
  have := key n 0 σ (by omega) l
  rwa [← List.range_eq_range'] at this
theorem ForL.rngH {body : List Stmt} {n : Nat} (T : Nat → List (Option V)) (H : Nat → Hp) (hb : ∀ k, k < n → ∃ T', Put nm (T k) x (.int (k : Nat)) T' ∧ SS c d true nm T' (H k) body (fun τ' η' => Less (T (k + 1)) τ' ∧ η' = H (k + 1)) R X)
    (hN : ∀ σ', Less (T n) σ' → N σ' (H n)) {σ : List (Option V)} (l : Less (T 0) σ) : ForL c d nm (.Name x px) [x] body N R X (rngL 0 (n : Int)) σ (H 0) := by
  rw [rngL0]; exact ForL.mapH T H hb hN l
end

theorem Hp.set_set (η : Hp) (a : Addr) (o o' : MObj) : (η.set a o).set a o' = η.set a o' := by
  funext b
  unfold Hp.set
  by_cases h : b = a
  · rw [if_pos h, if_pos h]
  · rw [if_neg h, if_neg h, if_neg h]
theorem int_lin {η : Hp} {n : Nat} {r : Nat → Int} : Lins η ((List.range n).map fun k => V.int (r k)) := lins_of fun v hv => by
  obtain ⟨k, _, rfl⟩ := List.mem_map.mp hv; trivial
-- products of numbers
theorem mulR {a b : Int} (h : b.natAbs < 2 ^ 64) : IntMulOk a b := IntMulOk.of_right (bits_le h)
-- the first place of a sign
open Builtin.Str StrLaws in
theorem occ_full (s sub : Str) (hi : Nat) : ∀ (l : List Nat) (st : Array Nat × Nat), st.1.size = 1 → (forIn l st (occBody s sub hi 1)).run.fst = st.1
  | [], st, h => rfl
  | a :: l, st, h => by
    rw [List.forIn_cons]
    unfold occBody
    rw [if_neg (fun q => by have := q.1.1.1; omega)]
    exact occ_full s sub hi l _ h
open Builtin.Str StrLaws in
theorem occ_at (s sub : Str) (hi i : Nat) (l₂ : List Nat) (hc : i + sub.length ≤ hi ∧ subAt s sub i = true) : ∀ (l : List Nat), (∀ a ∈ l, ¬ (a + sub.length ≤ hi ∧ subAt s sub a = true)) →
    (forIn (l ++ i :: l₂) ((#[] : Array Nat), 0) (occBody s sub hi 1)).run.fst = #[i]
  | [], _ => by
    rw [List.nil_append, List.forIn_cons]
    unfold occBody
    rw [if_pos ⟨⟨⟨by simp, Nat.zero_le _⟩, hc.1⟩, hc.2⟩]
    exact occ_full s sub hi l₂ _ rfl
  | a :: l, h => by
    rw [List.cons_append, List.forIn_cons]
    unfold occBody
    rw [if_neg (fun q => h a (.head _) ⟨q.1.2, q.2⟩)]
    exact occ_at s sub hi i l₂ hc l fun b m => h b (.tail _ m)
theorem occ_first {x : Str} {k i : Nat} (h : x.cps.toList[i]? = some k) (hf : ∀ j, j < i → x.cps.toList[j]? ≠ some k) : Builtin.Str.occurrences x (sgn k) 0 x.length 1 = [i] := by
  rw [StrLaws.occ_eq]
  have hi : i < x.length := by have := (List.getElem?_eq_some_iff.mp h).1; simpa [Str.length] using this
  have e : List.range' 0 (x.length + 1 - 0) = List.range' 0 i ++ i :: List.range' (i + 1) (x.length - i) := by
    have : x.length + 1 - 0 = i + ((x.length - i) + 1) := by omega
    rw [this, ← List.range'_append_1, Nat.zero_add, List.range'_succ]
  rw [e, occ_at x (sgn k) x.length i _ ((StrLaws.subAt_one x k i).mpr h) _ fun a m q => hf a (by simp [List.mem_range'] at m; omega) ((StrLaws.subAt_one x k a).mp q)]

-- signs and words
/-- the letters of a machine's signs -/
structure Sg (m : Nat) (g : Nat → Nat) : Prop where
  lo : ∀ k, k < m → 97 ≤ g k ∧ g k < 123
  up : ∀ i j, i < j → j < m → g i < g j
noncomputable def wordS (g : Nat → Nat) (w : List Nat) : Str := ⟨(w.map g).toArray⟩
noncomputable abbrev signS (m : Nat) (g : Nat → Nat) : Str := wordS g (List.range m)
theorem wordS_len (g : Nat → Nat) (w : List Nat) : (wordS g w).length = w.length := by simp [wordS, Str.length]
theorem wordS_list (g : Nat → Nat) (w : List Nat) : (wordS g w).cps.toList = w.map g := rfl
theorem Sg.index {m : Nat} {g : Nat → Nat} (h : Sg m g) {s : Nat} (hs : s < m) : Builtin.Str.occurrences (signS m g) (sgn (g s)) 0 (signS m g).length 1 = [s] := by
  refine occ_first (by rw [wordS_list]; simp [hs]) fun j hj e => ?_
  rw [wordS_list] at e
  have : j < m := by omega
  have e' : g j = g s := by simpa [this] using e
  have := h.up j s hj hs
  omega

theorem join_fold (g : Nat → Nat) : ∀ (w : List Nat) (acc : Array Nat), (w.map fun s => sgn (g s)).foldl (fun acc p => acc ++ (Str.ofString "").cps ++ p.cps) acc = acc ++ (w.map g).toArray
  | [], acc => by simp
  | s :: w, acc => by
    rw [List.map_cons, List.foldl_cons, join_fold g w]
    have : (Str.ofString "").cps = #[] := rfl
    rw [this]
    simp
theorem join_words (g : Nat → Nat) (w : List Nat) : Txt.join (Str.ofString "") (w.map fun s => sgn (g s)) = wordS g w := by
  unfold Txt.join Builtin.Str.glued wordS
  cases w with
  | nil => rfl
  | cons s w =>
    rw [List.map_cons, List.drop_succ_cons, List.drop_zero, List.headD_cons, join_fold]
    simp
-- rows and tables
noncomputable def ledF (n : Nat) (r : Nat → Int) (T : Nat → Nat → Int) : Nat → Int := fun j => sumN n fun k => r k * T k j
noncomputable def wordF (n : Nat) (T : Nat → Nat → Nat → Int) (r : Nat → Int) (w : List Nat) : Nat → Int := w.foldl (fun r s => ledF n r (T s)) r
noncomputable def dotN (n : Nat) (r e : Nat → Int) : Int := sumN n fun k => r k * e k
theorem lb_led {n b e : Nat} {r : Nat → Int} {T : Nat → Nat → Int} (hn : n ≤ 16) (hr : ∀ k, k < n → Lb b (r k)) (hT : ∀ i j, i < n → j < n → Lb e (T i j)) : ∀ j, j < n → Lb (b + e + 4) (ledF n r T j) :=
  fun j hj => Lb.sum hn fun k hk => (hr k hk).mul (hT k j hk hj)
-- as Python holds them
noncomputable abbrev rowS (n : Nat) (r : Nat → Int) (D : Int) : List V := (List.range n).map fun k => shareOf (r k) D
noncomputable abbrev tabS (n : Nat) (T : Nat → Nat → Int) (D : Int) : List V := (List.range n).map fun i => V.lst ((List.range n).map fun j => shareOf (T i j) D)
noncomputable abbrev tabsS (m n : Nat) (T : Nat → Nat → Nat → Int) (D : Int) : List V := (List.range m).map fun s => V.lst (tabS n (T s) D)
noncomputable abbrev rowI (n : Nat) (r : Nat → Int) : List V := (List.range n).map fun k => V.int (r k)
noncomputable abbrev tabI (n : Nat) (T : Nat → Nat → Int) : List V := (List.range n).map fun i => V.lst (rowI n (T i))
noncomputable abbrev tabsI (m n : Nat) (T : Nat → Nat → Nat → Int) : List V := (List.range m).map fun s => V.lst (tabI n (T s))
noncomputable abbrev topsV (m n : Nat) (b : Nat → Int) (T : Nat → Nat → Nat → Int) (e : Nat → Int) : V := .tup [.lst (rowI n b), .lst (tabsI m n T), .lst (rowI n e)]
end Mine

namespace Mine
open PySem PyProof.Rows PySem.W

/-- a list, changed or not -/
noncomputable def LV (η : Hp) (v : V) (vs : List V) : Prop := v = .lst vs ∨ ∃ a, v = .loc a ∧ η a = some (.lst vs)
theorem LV.loc {η : Hp} {a : Addr} {vs : List V} (e : η a = some (.lst vs)) : LV η (.loc a) vs := .inr ⟨a, rfl, e⟩

-- plain data
mutual
theorem eqv_self : ∀ (d : PyData), d.canLay0 = true → PyData.eqv d d = true
  | .none, _ => by simp [PyData.eqv]
  | .bool b, _ => by simp [PyData.eqv]
  | .int i, _ => by simp [PyData.eqv]
  | .str x, _ => by simp [PyData.eqv]
  | .list xs, h => by
    unfold PyData.eqv
    unfold PyData.canLay0 at h
    exact eqvAll_self xs h
  | .tuple xs, h => by
    unfold PyData.eqv
    unfold PyData.canLay0 at h
    exact eqvAll_self xs h
  | .dict _, h => by unfold PyData.canLay0 at h; cases h
theorem eqvAll_self : ∀ (ds : List PyData), PyData.canLayAll0 ds = true → PyData.eqvAll ds ds = true
  | [], _ => by simp [PyData.eqvAll]
  | d :: ds, h => by
    unfold PyData.canLayAll0 at h
    rw [Bool.and_eq_true] at h
    unfold PyData.eqvAll
    rw [eqv_self d h.1, eqvAll_self ds h.2]; rfl
end
mutual
theorem lin_set {η : Hp} {b : Addr} {o : MObj} (n : η b = Option.none) : ∀ (v : V), Lin η v → Lin (η.set b o) v
  | .loc a, l => by
    unfold Lin at l ⊢
    rw [Hp.set_ne]
    · exact l
    · rintro rfl; rw [n] at l; cases l
  | .tup vs, l => by unfold Lin at l ⊢; exact lins_set n vs l
  | .lst vs, l => by unfold Lin at l ⊢; exact lins_set n vs l
  | .dct _ vs, l => by unfold Lin at l ⊢; exact lins_set n vs l
  | .obj _ _ vs, l => by unfold Lin at l ⊢; exact lins_set n vs l
  | .none, _ => trivial
  | .bool _, _ => trivial
  | .int _, _ => trivial
  | .str _, _ => trivial
  | .glob _, _ => trivial
  | .exc _, _ => trivial
  | .rng _ _, _ => trivial
theorem lins_set {η : Hp} {b : Addr} {o : MObj} (n : η b = Option.none) : ∀ (vs : List V), Lins η vs → Lins (η.set b o) vs
  | [], _ => trivial
  | v :: vs, l => ⟨lin_set n v l.1, lins_set n vs l.2⟩
end
section
variable {c : Cx} {A : Around} {pr pr' : Pr} {η η' : Hp} {s : Shared} {d : Nat} {hd : Bool} {nm : List (Str × NameKind)} {σ τ : List (Option V)} {env : Env}
  {Q R : V → Hp → Prop} {X : Addr → Hp → Prop} {v w : V} {x : Str} {pos fp p' px : Pos} {N : List (Option V) → Hp → Prop} {rest : List Stmt} {h h' : Heap} {a : Addr} {mo : MObj} {K : Params → Frag} {gt bt : List (Str × Value)} {vs ws : List V} {t elt : Expr} {xs : List Str}

theorem SC.len_any (h : LV η v vs) (q : Q (.int vs.length) η) : SC c d hd (.builtin "len") [v] η Q X := by
  rcases h with rfl | ⟨a, rfl, e⟩
  · exact SC.len_lst q
  · exact SC.len_loc e q
theorem S2.item_any {e i : Expr} {k : Nat} {u : V} (h : LV η v vs) (hu : vs[k]? = some u) (q : Q u η) (hs : notSlice i = true := by with_unfolding_all rfl) : S2 c d hd (subscriptTail e i) v (.int k) η Q X := by
  rcases h with rfl | ⟨a, rfl, e⟩
  · exact S2.item_lst hu q hs
  · exact S2.item_loc e hu q hs
theorem S2.eqSelf {dt : PyData} (ra : PyR η v dt) (rb : PyR η w dt) (ha : PySem.SeqAt.shaped dt = true) (q : Q (.bool true) η) : S2 c d hd (compareOp .Eq) v w η Q X :=
  S2.eqD ra rb ha ha (by rw [eqv_self dt (PySem.SeqAt.canLay_of_shaped ha)]; exact q)
theorem S2.neSelf {dt : PyData} (ra : PyR η v dt) (rb : PyR η w dt) (ha : PySem.SeqAt.shaped dt = true) (q : Q (.bool false) η) : S2 c d hd (compareOp .NotEq) v w η Q X :=
  S2.neD ra rb ha ha (by rw [eqv_self dt (PySem.SeqAt.canLay_of_shaped ha)]; exact q)
theorem SC.isi_loc (e : η a = some (.lst vs)) (q : Q (.bool true) η) : SC c d hd (.builtin "isinstance") [.loc a, .glob (.type "list")] η Q X := by
  intro A s pr xs o I r
  obtain ⟨y, z, rfl, ry, rz⟩ := rvs2 r
  unfold Rv at ry; obtain ⟨rfl, _⟩ := ry
  obtain ⟨its, n, ho, hl, rs⟩ := I.hrel _ _ e
  unfold Rv at rz; subst rz
  exact IsiPair.list_list ho rfl (Post.val (v := .bool true) I rfl q)
theorem SC.isi_obj (W : Wd c K gt bt) {C : Addr} {ks : List Str} {t : Value} {b : Bool} (hC : clsOk (K c.P) C = true) (hb : kitOne (K c.P) (.ref C) t = some b) (q : Q (.bool b) η) : SC c d hd (.builtin "isinstance") [.obj C ks vs, .glob t] η Q X := by
  intro A s pr xs o I r
  obtain ⟨y, z, rfl, ry, rz⟩ := rvs2 r
  unfold Rv at ry rz
  subst rz
  obtain ⟨e, dd, _, _, _, rfl, he, _⟩ := ry
  refine kia_one (kitx_at hC) (W.kin.keeps I.stays) ⟨_, he, rfl⟩ hb (by intro q; cases q) fun tk => ?_
  exact Post.pure (v := .bool b) I (fun _ _ e => e) rfl q

/-- a copy of a list that is changed elsewhere -/
theorem SC.listLoc (e : η a = some (.lst vs)) (q : Q (.lst vs) η) : SC c d hd (.type "list") [.loc a] η Q X := by
  intro A s pr xs o I r
  obtain ⟨y, rfl, ry⟩ := rvs1 r
  unfold Rv at ry; obtain ⟨rfl, _⟩ := ry
  obtain ⟨its, n, ho, hz, rs⟩ := I.hrel _ _ e
  refine call_list_seq a (.inl rfl) ho rfl rfl (fun h' c' k g => ?_) (by simpa [rvs_length rs] using hz)
  refine Post.pure (t := s.toks) (v := .lst vs) I k ?_ q
  unfold Rv
  exact ⟨_, its, c', rfl, g, Rvs.fresh (vs := vs) (xs := its) I, hz, Rvs.mono (Mono.of_keeps k) vs rs⟩
-- slices of lists
theorem rvs_take {P : Params} {h : Heap} : ∀ (k : Nat) {vs : List V} {xs : List Value}, Rvs P h η pr vs xs → Rvs P h η pr (vs.take k) (xs.take k)
  | 0, _, _, _ => by simp [Rvs]
  | k + 1, [], _, r => by unfold Rvs at r; subst r; simp [Rvs]
  | k + 1, v :: vs, _, r => by
    unfold Rvs at r
    obtain ⟨y, ys, rfl, ry, rs⟩ := r
    exact ⟨y, _, rfl, ry, rvs_take k rs⟩
theorem rvs_drop {P : Params} {h : Heap} : ∀ (k : Nat) {vs : List V} {xs : List Value}, Rvs P h η pr vs xs → Rvs P h η pr (vs.drop k) (xs.drop k)
  | 0, _, _, r => r
  | k + 1, [], _, r => by unfold Rvs at r; subst r; simp [Rvs]
  | k + 1, v :: vs, _, r => by
    unfold Rvs at r
    obtain ⟨y, ys, rfl, ry, rs⟩ := r
    exact rvs_drop k rs
/-- a slice; its kind is told by hand -/
noncomputable def SliceGoal (c : Cx) (d : Nat) (hd : Bool) (nm : List (Str × NameKind)) (σ : List (Option V)) (η : Hp) (e : Expr) (Q : V → Hp → Prop) (X : Addr → Hp → Prop) : Prop := SE c d hd nm σ η e Q X
theorem SE.slice {e : Expr} {lo hi st : Option Expr} (p : SliceGoal c d hd nm σ η (.Subscript e (.Slice lo hi st p') pos) Q X) : SE c d hd nm σ η (.Subscript e (.Slice lo hi st p') pos) Q X := p
theorem SliceGoal.of {e : Expr} (p : SE c d hd nm σ η e Q X) : SliceGoal c d hd nm σ η e Q X := p

-- repr
-- comprehensions whose values are known up to a property
theorem CompLG.forget {cnd : Option Expr} {K : List V → Hp → Prop} {G : Hp → Prop} (l : Less τ σ) : ∀ {vs ws : List V}, CompLG c d nm t xs cnd elt K G vs ws τ η → CompLG c d nm t xs cnd elt K G vs ws σ η
  | [], _, p => by unfold CompLG at p ⊢; exact p
  | v :: vs, _, p => by unfold CompLG at p ⊢; exact ⟨p.1, SA.forget l p.2⟩
end

section
variable {c : Cx} {η : Hp} {d : Nat} {hd : Bool} {nm : List (Str × NameKind)} {σ : List (Option V)} {Q : V → Hp → Prop} {X : Addr → Hp → Prop} {pos : Pos} {K : Params → Frag} {gt bt : List (Str × Value)}
end
-- the ways through a machine
noncomputable abbrev natsV (w : List Nat) : List V := (w.map fun s : Nat => (s : Int)).map V.int
end Mine

namespace Mine
open PySem PyProof.Rows PySem.W

/-- data that repr can show -/
structure DOk (k L : Nat) (d : PyData) : Prop where
  sh : d.showable = true
  nod : d.hasDict = false
  dep : d.depth ≤ k
  len : d.shown.length ≤ L
  ok : PyData.strOk d.shown = true
theorem pyrs_range {η : Hp} {f : Nat → V} {g : Nat → PyData} (h : ∀ k, PyR η (f k) (g k)) : ∀ l : List Nat, PyRs η (l.map f) (l.map g)
  | [] => .nil
  | k :: l => .cons (h k) (pyrs_range h l)
/-- a share, a row, a table, tables as data -/
noncomputable abbrev shareD (t D : Int) : PyData := .tuple [.int (t.fdiv (byOf t D)), .int (D.fdiv (byOf t D))]
noncomputable abbrev rowD (n : Nat) (r : Nat → Int) (D : Int) : PyData := .list ((List.range n).map fun k => shareD (r k) D)
noncomputable abbrev tabD (n : Nat) (T : Nat → Nat → Int) (D : Int) : PyData := .list ((List.range n).map fun i => rowD n (T i) D)
noncomputable abbrev tabsD (m n : Nat) (T : Nat → Nat → Nat → Int) (D : Int) : PyData := .list ((List.range m).map fun s => tabD n (T s) D)
theorem row_pyr {η : Hp} {n : Nat} {r : Nat → Int} {D : Int} : PyR η (.lst (rowS n r D)) (rowD n r D) := .lst (pyrs_range (fun k => .tup (.cons .int (.cons .int .nil))) _)
theorem tab_pyr {η : Hp} {n : Nat} {T : Nat → Nat → Int} {D : Int} : PyR η (.lst (tabS n T D)) (tabD n T D) := .lst (pyrs_range (fun i => row_pyr) _)
theorem tabs_pyr {η : Hp} {m n : Nat} {T : Nat → Nat → Nat → Int} {D : Int} : PyR η (.lst (tabsS m n T D)) (tabsD m n T D) := .lst (pyrs_range (fun i => tab_pyr) _)
/-- what _law_fields shows of a machine -/
noncomputable abbrev fieldsD (m n : Nat) (g : Nat → Nat) (b : Nat → Int) (T : Nat → Nat → Nat → Int) (e : Nat → Int) (D E F : Int) : PyData := .list [.str (signS m g), rowD n b D, tabsD m n T E, rowD n e F]
end Mine

namespace Mine
open PySem PyProof.Rows PySem.W

theorem share_nought {D : Int} (h : 0 < D) : V.tup [.int 0, .int 1] = shareOf 0 D := by
  rw [shareOf_eq (t' := 0) (b' := 1) (by omega) (by decide) (by simp)]; rfl
theorem noughts {n : Nat} {D : Int} (h : 0 < D) : (List.replicate n [V.tup [.int 0, .int 1]]).flatten = rowS n (fun _ => 0) D := by
  induction n with
  | zero => rfl
  | succ n ih =>
    rw [List.replicate_succ', List.flatten_append, ih]
    unfold rowS
    rw [List.range_succ, List.map_append, share_nought h]; rfl
end Mine

namespace Mine
open PySem PyProof.Rows PySem.W
section
variable {c : Cx} {η : Hp} {d : Nat} {hd : Bool} {nm : List (Str × NameKind)} {σ : List (Option V)} {Q : V → Hp → Prop} {X : Addr → Hp → Prop} {pos p' : Pos}
end
end Mine

namespace Mine
open PySem PyProof.Rows PySem.W
section
variable {c : Cx} {A : Around} {pr : Pr} {η η' : Hp} {s : Shared} {d : Nat} {hd : Bool} {nm : List (Str × NameKind)} {σ τ : List (Option V)} {env : Env}
  {Q R : V → Hp → Prop} {X : Addr → Hp → Prop} {v w : V} {x y : Str} {pos px py tp : Pos} {N : List (Option V) → Hp → Prop} {rest : List Stmt} {h h' : Heap} {a : Addr} {vs : List V}

theorem execs_app (env : Env) : ∀ (b1 b2 : List Stmt), execs (b1 ++ b2) env = (do match ← execs b1 env with | .next => execs b2 env | f => pure f)
  | [], b2 => by
    show execs b2 env = (pure Flow.next >>= fun f => match f with | .next => execs b2 env | f => pure f)
    rw [pure_bind]
  | st :: b1, b2 => by
    show (exec st env >>= fun f => match f with | .next => execs (b1 ++ b2) env | f => pure f) = ((exec st env >>= fun f => match f with | .next => execs b1 env | f => pure f) >>= fun f => match f with | .next => execs b2 env | f => pure f)
    rw [bind_assoc]
    congr 1
    funext f
    cases f with
    | next => exact execs_app env b1 b2
    | brk => rw [pure_bind]
    | cont => rw [pure_bind]
    | ret r => rw [pure_bind]
/-- a block ahead of another -/
theorem SS.app {b1 b2 : List Stmt} (p : SS c d hd nm σ η b1 (fun σ' η' => SS c d hd nm σ' η' b2 N R X) R X) : SS c d hd nm σ η (b1 ++ b2) N R X := by
  intro A env s pr outer o I F h1 h2
  rw [execs_app]
  refine wpAny_bind (wpAny_mono (p A env s pr outer o I F h1 h2) (fun f s₁ q => ?_) fun _ _ e => e)
  cases f with
  | next =>
    obtain ⟨σ', η', q, I', F', st⟩ := q
    exact wpAny_mono (q A env s₁ pr outer o I' F' h1 h2) (fun _ _ e => e.older st) fun _ _ e => e.older st
  | ret r => exact wpAny_pure q
  | brk => exact wpAny_pure q
  | cont => exact wpAny_pure q
theorem SS.frz2 {s1 s2 : Stmt} (p : SS c d hd nm σ η [s1, s2] (fun σ₁ η₁ => Ext η η₁ ∧ ∃ σ', FrzF η η₁ σ₁ σ' ∧ SS c d hd nm σ' η rest N R X) (fun v₁ η₁ => Ext η η₁ ∧ ∃ v, Frz η η₁ v₁ v ∧ R v η) (fun C η₁ => Ext η η₁ ∧ X C η)) : SS c d hd nm σ η (s1 :: s2 :: rest) N R X := SS.app (b1 := [s1, s2]) (SS.frz p)
-- two names take a list's items
theorem draw_lst {it l : Addr} {items : Array Value} {prog : Program} {wd : World} {E : Value → Shared → Prop} (hne : l ≠ it) : ∀ (n i : Nat) (s : Shared) (QQ : List Value → Shared → Prop), s.heap.IsListIter it l i → s.heap.IsList l items → i + n ≤ items.size →
    (∀ h', h'.IsListIter it l (i + n) → Heap.SameBut it s.heap h' → QQ ((items.toList.drop i).take n) { s with heap := h' }) → wpAny (model prog wd) A (draw (.ref it) n) QQ E s
  | 0, i, s, QQ, hit, _, _, hQ => by
    show wpAny _ _ (pure []) QQ E s
    exact wpAny_pure (by simpa using hQ s.heap hit (Heap.SameBut.refl ..))
  | n + 1, i, s, QQ, hit, hl, hle, hQ => by
    have hlt : i < items.size := by omega
    show wpAny _ _ (pyNext (.ref it) >>= _) QQ E s
    refine wpAny_bind (wpAny_pyNext_list_item hit hl (x := items[i]) (by simp [hlt]) fun h₁ hit₁ hs₁ => ?_)
    refine wpAny_bind (wpAny_holding (draw_lst hne n (i + 1) _ _ hit₁ (hl.extBut hs₁.extBut hne) (by omega) fun h₂ hit₂ hs₂ => wpAny_pure ?_))
    have e : items.toList.drop i = items[i] :: items.toList.drop (i + 1) := by simp [List.drop_eq_getElem_cons, hlt]
    have := hQ h₂ (by rw [show i + (n + 1) = i + 1 + n by omega]; exact hit₂) (hs₁.trans hs₂)
    rw [e, List.take_succ_cons] at this
    exact this
theorem unpack_lst {y : Value} {QQ : List Value → Shared → Prop} {E : Value → Shared → Prop} {n : Nat} (o : Ok d true A) (I : Inv c η pr A s) (r : Rv c.P s.heap η pr (.lst vs) y) (hn : vs.length = n)
    (h : ∀ s' xs, Inv c η pr A s' → Rvs c.P s'.heap η pr vs xs → Step A noOwn η s.heap η s'.heap → (∀ nm env σ, FrameR c s.heap η pr nm env σ → FrameR c s'.heap η pr nm env σ) → QQ xs s') :
    wpAny c.M A (unpackItems y n none) QQ E s := by
  unfold Rv at r
  obtain ⟨l, xs, nn, rfl, ho, ⟨ha, hpa⟩, z, rs⟩ := r
  have hl := rvs_length rs
  have hls : s.heap.IsList l xs.toArray := ⟨_, ho, rfl, _, rfl⟩
  have hlt : l ≠ s.heap.objs.size := fresh_ne ho
  unfold unpackItems
  refine wpAny_bind ?_
  unfold notIterableAtAll
  refine wpAny_bind (wpAny_specialOf hls.typeIs PySem.F.slot_list_iter.lookup ?_)
  refine wpAny_pure ?_
  simp only [Bool.false_eq_true, if_false]
  refine wpAny_bind (wpAny_holding (wpAny_pyIter_list hls ?_))
  refine wpAny_bind (wpAny_holding (draw_lst (items := xs.toArray) hlt n 0 _ _ ⟨_, Heap.get?_push_size _ rfl, rfl, rfl⟩ (hls.push _) (by simp [hl, hn]) fun h₁ hit₁ hs₁ => ?_))
  have hall : List.take n (List.drop 0 xs.toArray.toList) = xs := by
    rw [List.drop_zero]; exact List.take_of_length_le (by simp [hl, hn])
  rw [hall]
  rw [if_neg (by simp [hl, hn])]
  have hl₁ : h₁.IsList l xs.toArray := (hls.push _).extBut hs₁.extBut hlt
  refine wpAny_bind (wpAny_holding (wpAny_pyNext_list_end (o.handled rfl) hit₁ hl₁ (by simp [hl, hn]) fun h₂ he₂ => ?_))
  simp only [Option.isSome_none, Bool.false_eq_true, if_false]
  have k : ∀ b ob, s.heap.get? b = some ob → h₂.get? b = some ob := fun b ob e => he₂ b ob (fresh_ne e) (hs₁.extBut b ob (fresh_ne e) (Heap.get?_push_of_some _ e))
  exact wpAny_pure (h _ _ (I.grow k s.toks) (rs.keeps k) (Step.of_keeps k) fun nm env σ F => F.keeps k)
end
end Mine

namespace Mine
open PySem PyProof.Rows PySem.W
section
variable (n n' : Nat) (T : Nat → Nat → Nat → Int) (e : Nat → Int) (T' : Nat → Nat → Nat → Int) (b' e' : Nat → Int) (E E' G : Int)
noncomputable abbrev jA : Nat → Nat → Nat → Int := fun s i j => T s i j * (G * E')
noncomputable abbrev jC : Nat → Nat → Nat → Int := fun s i j => (sumN n fun l => T s i l * e l) * b' j * E'
noncomputable abbrev jB : Nat → Nat → Nat → Int := fun s i j => T' s i j * (E * G)
end
end Mine

namespace Mine
open PySem PyProof.Rows PySem.W

section
variable {c : Cx} {A : Around} {pr pr' : Pr} {η η' : Hp} {s : Shared} {d : Nat} {hd : Bool} {nm : List (Str × NameKind)} {σ : List (Option V)} {env : Env}
  {Q R : V → Hp → Prop} {X : Addr → Hp → Prop} {v w : V} {x : Str} {pos fp np : Pos} {N : List (Option V) → Hp → Prop} {M : Hp → Prop} {rest : List Stmt} {h h' : Heap} {a : Addr} {mo : MObj} {K : Params → Frag} {gt bt : List (Str × Value)}

theorem freshAt (I : Inv c η pr A s) {a : Addr} (hl : s.heap.objs.size ≤ a) : η a = none ∧ ¬ pr a := by
  refine ⟨?_, fun p => ?_⟩
  · cases q : η a with
    | none => rfl
    | some m => obtain ⟨ob, e, _⟩ := (I.hrel _ m q).nofields; exact absurd (Heap.lt_size e) (Nat.not_lt.mpr hl)
  · obtain ⟨ob, e⟩ := Option.isSome_iff_exists.mp (I.privs _ p).1
    exact absurd (Heap.lt_size e) (Nat.not_lt.mpr hl)
-- signs that were sorted
/-- statements that change no variable -/
noncomputable def NPost (c : Cx) (A : Around) (pr : Pr) (η : Hp) (h₀ : Heap) (M : Hp → Prop) (R : V → Hp → Prop) (f : Flow) (s' : Shared) : Prop :=
  match f with
  | .next => ∃ η', M η' ∧ Inv c η' pr A s' ∧ Step A noOwn η h₀ η' s'.heap
  | .ret r => Post c A noOwn pr η h₀ R r s'
  | _ => False
noncomputable def SN (c : Cx) (d : Nat) (hd : Bool) (nm : List (Str × NameKind)) (σ : List (Option V)) (η : Hp) (b : List Stmt) (M : Hp → Prop) (R : V → Hp → Prop) (X : Addr → Hp → Prop) : Prop :=
  ∀ A env s pr outer, Ok d hd A → Inv c η pr A s → FrameR c s.heap η pr nm env σ → A.frames = some (env :: outer) → env.frame = some env.locals →
    wpAny c.M A (execs b env) (NPost c A pr η s.heap M R) (Exc c A noOwn pr η s.heap X) s
theorem NPost.older {η₁ : Hp} {h₀ h₁ : Heap} {f : Flow} {s' : Shared} (st : Step A noOwn η h₀ η₁ h₁) (p : NPost c A pr η₁ h₁ M R f s') : NPost c A pr η h₀ M R f s' := by
  cases f with
  | next => obtain ⟨η', q, I, st'⟩ := p; exact ⟨η', q, I, st.trans st'⟩
  | ret r => exact Post.older st p
  | brk => exact p
  | cont => exact p
theorem SN.ret {e : Expr} (p : SE c d hd nm σ η e R X) : SN c d hd nm σ η (.Return (some e) pos :: rest) M R X :=
  fun A env s pr outer o I F h1 h2 => wpAny_execs_cons (wpAny_Return_some (wpAny_mono (p A env s pr o I F) (fun _ _ e => e) fun _ _ e => e))
theorem SN.if {t : Expr} {b1 b2 : List Stmt} (p : ST c d hd nm σ η t (fun u η₁ => if u then SN c d hd nm σ η₁ b1 (fun η' => SN c d hd nm σ η' rest M R X) R X else SN c d hd nm σ η₁ b2 (fun η' => SN c d hd nm σ η' rest M R X) R X) X) :
    SN c d hd nm σ η (.If t b1 b2 pos :: rest) M R X :=
  fun A env s pr outer o I F h1 h2 => wpAny_execs_cons (wpAny_If (wpAny_mono (p A env s pr o I F) (fun u s₁ ⟨η₁, q, I₁, st⟩ => by
    have go : ∀ b, SN c d hd nm σ η₁ b (fun η' => SN c d hd nm σ η' rest M R X) R X → wpAny c.M A (execs b env) (fun f s₂ => match f with | .next => wpAny c.M A (execs rest env) (NPost c A pr η s.heap M R) (Exc c A noOwn pr η s.heap X) s₂ | f => NPost c A pr η s.heap M R f s₂) (Exc c A noOwn pr η s.heap X) s₁ := fun b q =>
      wpAny_mono (q A env s₁ pr outer o I₁ (F.step I st) h1 h2) (fun f s₂ e => by
        cases f with
        | next =>
          obtain ⟨η₂, q₂, I₂, st₂⟩ := e
          have st' := st.trans st₂
          exact wpAny_mono (q₂ A env s₂ pr outer o I₂ (F.step I st') h1 h2) (fun _ _ e => e.older st') fun _ _ e => e.older st'
        | ret r => exact NPost.older st e
        | brk => exact e
        | cont => exact e) fun _ _ e => e.older st
    cases u
    · exact go _ q
    · exact go _ q) fun _ _ e => e))
theorem SN.expr {e : Expr} (p : SE c d hd nm σ η e (fun _ η' => SN c d hd nm σ η' rest M R X) X) (hs : ∀ env, swapsWith e none pos.line env = pure false := by intro _; with_unfolding_all rfl) : SN c d hd nm σ η (.Expr e pos :: rest) M R X :=
  fun A env s pr outer o I F h1 h2 => wpAny_execs_cons (wpAny_Expr_any (wpAny_mono (p A env s pr o I F) (fun _ s₁ ⟨v, η₁, q, I₁, _, st⟩ => wpAny_mono (q A env s₁ pr outer o I₁ (F.step I st) h1 h2) (fun _ _ e => e.older st) fun _ _ e => e.older st) fun _ _ e => e) (noInter F) (hs env))
/-- some items give one value each, by a list of indices -/
theorem CompL.filterL {α : Type} {u g : α → V} {p : α → Bool} {l : List α} {ws : List V} {q elt : Expr} {K : List V → Hp → Prop} {px : Pos} {τ : List (Option V)} (he : ∀ a ∈ l, ∃ T, Put nm τ x (u a) T ∧ Less τ T ∧ TP c d true nm T η q (p a) noX ∧ (p a = true → EP c d true nm T η elt (g a) noX)) (k : K (ws ++ (l.filter p).map g) η) : CompL c d nm (.Name x px) [x] (some q) elt K (l.map u) ws τ η := by
  induction l generalizing ws with
  | nil => rw [List.map_nil]; unfold CompL; simpa using k
  | cons a l ih =>
    rw [List.map_cons]
    unfold CompL
    obtain ⟨T, put, le, tp, ep⟩ := he a (.head _)
    intro A env s pr y QQ E o I F r qq
    refine SA.name put rfl A env s pr y QQ E o I F r fun s' σ' e I' F' st => qq s' σ' ?_ I' F' st
    subst e
    refine tp.mono (fun b η' e => ?_) fun _ _ e => e
    obtain ⟨rfl, rfl⟩ := e
    cases hg : p a with
    | true =>
      rw [if_pos rfl]
      refine (ep hg).mono (fun w η' e => ?_) fun _ _ e => e
      obtain ⟨rfl, rfl⟩ := e
      exact CompL.forget le (ih (fun a m => he a (.tail _ m)) (by simpa [List.filter_cons, hg] using k))
    | false =>
      rw [if_neg (by decide)]
      exact CompL.forget le (ih (fun a m => he a (.tail _ m)) (by simpa [List.filter_cons, hg] using k))

/-- a body that changes no variable under try, caught -/
theorem SX.tryN (W : Wd c K gt bt) {body : List Stmt} {e' : Expr} {n : Str} {rp' hp : Pos} {D : Addr} {hs : List ExceptHandler} (m : (x, NameKind.globalImplicit) ∈ nm) (mg : (x, .ref D) ∈ gt) (mn : (n, NameKind.local) ∈ nm)
    (p : SN c d true nm σ η body (fun η' => N σ η') R (fun C η₁ => catches (K c.P) C D = true ∧ ∃ σ', Put nm σ n (.exc C) σ' ∧ SE c d false nm σ' η₁ e' R noX))
    (hn : (x == ("__debug__" : Str)) = false := by decide +kernel) :
    SX c d true nm σ η (.Try body (.ExceptHandler (some (.Name x np)) (some n) [.Return (some e') rp'] hp :: hs) [] [] pos) N R X := by
  intro A env s pr outer o I F h1 h2
  refine wpAny_Try_except (wpAny_mono (p A env s pr outer o I F h1 h2) (fun f s₁ hq => ?_) fun ev s₁ hx => ?_)
  · cases f with
    | next =>
      obtain ⟨η₁, q, I₁, st⟩ := hq
      exact wpAny_execs_nil ⟨σ, η₁, q, I₁, F.step I st, st.own⟩
    | ret r => exact Post.weak hq fun _ q => q.elim
    | brk => exact hq
    | cont => exact hq
  · obtain ⟨ea, C, η₁, rfl, ⟨hcat, σ', put, ss⟩, I₁, st, hnew, t⟩ := hx
    refine (leave_both I₁ h1 h2 t hnew (fun b q => (I.privs b q).1) I.stays st.there fun h₂ a0 tr I₂ kp => ?_).2
    have st₂ : Step A noOwn η s.heap η₁ h₂ := by
      refine ⟨fun b ob e n w => ?_, fun b ob e n w f => ?_, fun b ob e => ?_, st.dom, st.new⟩
      · obtain ⟨sl, e'⟩ := st.upto b ob e n w
        obtain ⟨⟨sl', e''⟩, _⟩ := kp b _ e' (.inl (by rw [e]; rfl))
        exact ⟨sl', e''⟩
      · exact (kp b _ (st.same b ob e n w f) (.inl (by rw [e]; rfl))).2 f
      · obtain ⟨ob', e'⟩ := Option.isSome_iff_exists.mp (st.there b ob e)
        obtain ⟨⟨sl', e''⟩, _⟩ := kp b _ e' (.inl (by rw [e]; rfl))
        rw [e'']; rfl
    have F₂ := F.step I st₂
    have I₂' : Inv c η₁ pr A { s₁ with heap := h₂ } := I₂.less (fun b q => .inl q) I.frs
    have o' : Ok d false (A.mark (some (.ref ea))) := o.mark
    refine wpAny_handleBy_cons (codeAny_handlers_test ?_) (by intro q; cases q)
    refine wpAny_mono (SE.glob (Q := fun v η' => v = .glob (.ref D) ∧ η' = η₁) (X := noX) m (W.g mg) ⟨rfl, rfl⟩ hn (A.mark (some (.ref ea))) env _ pr o' I₂'.mark F₂) (fun f s₃ hq => ?_) fun _ _ e => e.absurd
    obtain ⟨v, η₃, ⟨rfl, e⟩, I₃, rv, st₃⟩ := hq
    subst e
    unfold Rv at rv; subst rv
    obtain ⟨oe, vs, T, oT, ts, t1, ⟨t2, t2'⟩, t3, t4, t5, t6, t7, t8, t9⟩ := tr
    have nfr : ∀ b, s.heap.get? b = none → ¬ isFr A b := fun b e f => by
      have := (I.privs b (I.frs b f)).1; rw [e] at this; cases this
    have npr : ∀ b, s.heap.get? b = none → ¬ pr b := fun b e f => by
      have := (I.privs b f).1; rw [e] at this; cases this
    have ηe := (I₂.privs ea (.inr (.inl rfl))).2.1
    have ηT := (I₂.privs T (.inr (.inr ⟨oe, vs, t1, t3, t4⟩))).2.1
    have u1 := st₃.same ea oe t1 ηe (fun q => q) (nfr ea hnew)
    have u7 := st₃.same T oT t7 ηT (fun q => q) (nfr T t5)
    refine exc_matches (W.kin.keeps I₃.stays) hcat u1 t2 ?_
    refine codeAny_handlers_suite_as (land_same (h₀ := s.heap) (cls := .ref C) (a0 := a0) (fl := none) ⟨oe, vs, T, oT, ts, u1, ⟨t2, t2'⟩, t3, t4, t5, t6, u7, t8, t9⟩ fun h₄ k₄ => ?_)
    have I₄ := I₃.grow k₄ s₃.toks
    have F₄ : FrameR c h₄ η₃ pr nm env σ := (F₂.step (s := { s₁ with heap := h₂ }) I₂' st₃.unmark).keeps k₄
    have rex : Rv c.P h₄ η₃ pr (.exc C) (.ref ea) := by
      unfold Rv; exact ⟨ea, oe, vs, rfl, k₄ _ _ u1, t2, t3, ηe, npr ea hnew⟩
    refine store_var (s := { s₃ with heap := h₄ }) I₄ F₄ put rex fun s₅ I₅ F₅ st₅ _ => ?_
    refine wpAny_execs_cons (wpAny_Return_some (wpAny_mono (ss (A.mark (some (.ref ea))) env s₅ pr o' I₅ F₅) (fun r s₆ hq => ?_) fun _ _ e => e.absurd))
    have all : Step A (ownOf env) η s.heap η₃ s₅.heap := ((st₂.own.trans st₃.unmark.own).trans (Step.of_keeps k₄)).trans (st₅.unmark.weak ownX_of)
    obtain ⟨rv', η₆, q₆, I₆, r₆, st₆⟩ := hq
    have st₆' := all.trans st₆.unmark.own
    obtain ⟨m6, hm6⟩ := (F₅.step I₅.unmark st₆.unmark).ns
    refine wpAny_nameGoes (F.kindOf mn) hm6 (by rw [F.kind]; rfl) fun h₇ m₇ hm₇ sb => ?_
    obtain ⟨oL, es, ep, eL, dL, _⟩ := id hm₇
    exact ⟨rv', η₆, q₆, I₆.unmark.but sb F.nsp ⟨oL, eL, fun vs q => by rw [dL] at q; cases q⟩, Rv.mono (Mono.of_but sb F.nsp) _ r₆, st₆'.trans (Step.of_but sb (.inl rfl) fun _ => by rw [eL]; rfl)⟩
theorem SS.tryN (W : Wd c K gt bt) {body : List Stmt} {e' : Expr} {n : Str} {rp' hp : Pos} {D : Addr} {hs : List ExceptHandler} (m : (x, NameKind.globalImplicit) ∈ nm) (mg : (x, .ref D) ∈ gt) (mn : (n, NameKind.local) ∈ nm)
    (p : SN c d true nm σ η body (fun η' => SS c d true nm σ η' rest N R X) R (fun C η₁ => catches (K c.P) C D = true ∧ ∃ σ', Put nm σ n (.exc C) σ' ∧ SE c d false nm σ' η₁ e' R noX))
    (hn : (x == ("__debug__" : Str)) = false := by decide +kernel) :
    SS c d true nm σ η (.Try body (.ExceptHandler (some (.Name x np)) (some n) [.Return (some e') rp'] hp :: hs) [] [] pos :: rest) N R X := SS.cons (SX.tryN W m mg mn p hn)
end
end Mine

namespace Mine
open PySem PyProof.Rows PySem.W

theorem type_list_clear : typeOf (.builtin "list.clear") = pure (.type "method_descriptor") := by show builtinType _ = _; rw [builtinType_eq_fast]; kernel_rfl

section
variable {c : Cx} {A : Around} {pr pr' : Pr} {η η' : Hp} {s : Shared} {d : Nat} {hd : Bool} {nm : List (Str × NameKind)} {σ τ : List (Option V)} {env : Env} {px py pz pw tp p' : Pos}
  {Q R : V → Hp → Prop} {X : Addr → Hp → Prop} {v w : V} {x y z u : Str} {pos fp np : Pos} {N : List (Option V) → Hp → Prop} {rest : List Stmt} {h h' : Heap} {a : Addr} {mo : MObj} {K : Params → Frag} {gt bt : List (Str × Value)} {vs ws : List V}

theorem freshK (I : Inv c η pr A s) (k : ∀ b o, s.heap.get? b = some o → h'.get? b = some o) : η h'.objs.size = none ∧ ¬ pr h'.objs.size := by
  refine ⟨?_, fun p => ?_⟩
  · cases q : η h'.objs.size with
    | none => rfl
    | some m => obtain ⟨ob, e, _⟩ := (I.hrel _ m q).nofields; exact absurd (Heap.lt_size (k _ _ e)) (Nat.lt_irrefl _)
  · obtain ⟨ob, e⟩ := Option.isSome_iff_exists.mp (I.privs _ p).1
    exact absurd (Heap.lt_size (k _ _ e)) (Nat.lt_irrefl _)
theorem SC.tupleOf (q : Q (.tup vs) η) : SC c d hd (.type "tuple") [.lst vs] η Q X := by
  intro A s pr xs o I r
  obtain ⟨y, rfl, ry⟩ := rvs1 r
  unfold Rv at ry
  obtain ⟨b, its, n, rfl, ho, _, hz, rs⟩ := ry
  have hl := rvs_length rs
  refine call_tuple_list (items := its.toArray) ⟨_, ho, rfl, n, rfl⟩ (fun h' k => ?_) (by simpa [hl] using hz)
  have k' : ∀ b o, s.heap.get? b = some o → (h'.push { cls := .type "tuple", data := .seq its.toArray }).get? b = some o := fun b o e => Heap.get?_push_of_some _ (k b o e)
  refine Post.pure (t := s.toks) (v := .tup vs) I k' ?_ q
  unfold Rv
  exact ⟨_, its, _, rfl, Heap.get?_push_size _ rfl, freshK I k, hz, Rvs.mono (Mono.of_keeps k') vs rs⟩

-- a list is emptied, an item is set
theorem Meth.clear (e : η a = some (.lst vs)) : Meth c (.loc a) η "clear" (.builtin "list.clear") := fun A s pr y pl QQ E I r q => by
  unfold Rv at r; obtain ⟨rfl, _⟩ := r
  obtain ⟨xs, n, ho, _, _⟩ := I.hrel _ _ e
  exact getMethod_list_of PySem.F.slot_list_clear type_list_clear ⟨_, ho, rfl, _, rfl⟩ ⟨_, ho, rfl⟩ (q s.toks)
theorem SC.clear (e : η a = some (.lst vs)) (q : Q .none (η.set a (.lst []))) : SC c d hd (.builtin "list.clear") [.loc a] η Q X := by
  intro A s pr xs o I r
  obtain ⟨y, rfl, ry⟩ := rvs1 r
  unfold Rv at ry; obtain ⟨rfl, _⟩ := ry
  obtain ⟨its, n, ho, hl, rs⟩ := I.hrel _ _ e
  have hle := rvs_length rs
  refine call_meets PySem.F.slot_list_clear ⟨_, ho, rfl⟩ PySem.F.entry_list_clear (PySem.F.args_list_clear_1 _) (AutoSeq1.list_clear_list_0 a its.toArray n (by simpa [hle] using hl)) ⟨ho, ?_⟩
  have sb : Heap.SameBut a s.heap (s.heap.update a (Obj.mapSeq fun _ => #[])) := Heap.SameBut.update ..
  obtain ⟨n', hd'⟩ := Obj.data_mapSeq (o := { cls := .type "list", data := .seq its.toArray n }) (xs := its.toArray) (n := n) rfl (fun _ => #[])
  have pl : ∃ n', (s.heap.update a (Obj.mapSeq fun _ => #[])).get? a = some { cls := .type "list", data := .seq ([] : List Value).toArray n' } := by
    rw [Heap.get?_update_self _ ho (Obj.isFreed_of_seq hd')]
    refine ⟨n', ?_⟩
    have e1 : (Obj.mapSeq (fun _ : Array Value => (#[] : Array Value)) { cls := .type "list", data := .seq its.toArray n }).cls = .type "list" := Obj.cls_mapSeq ..
    generalize hg : Obj.mapSeq (fun _ => #[]) { cls := .type "list", data := .seq its.toArray n } = ob at hd' e1
    have : ob.dict = none ∧ ob.slots = #[] := by rw [← hg]; exact ⟨rfl, rfl⟩
    obtain ⟨oc, od, oda, os⟩ := ob
    simp only at hd' e1 this ⊢
    rw [hd', e1, this.1, this.2]
  obtain ⟨n₂, pl⟩ := pl
  exact ⟨.none, _, q, I.updM (t := s.toks) e (fun _ _ x => by cases x) sb ⟨[], n₂, pl, Nat.zero_le _, rfl⟩, rfl, Step.updM e sb (by rw [pl]; rfl)⟩
theorem rvs_set {P : Params} : ∀ {vs : List V} {xs : List Value} (j : Nat) {y : Value}, Rvs P h η pr vs xs → Rv P h η pr v y → Rvs P h η pr (vs.set j v) (xs.set j y)
  | [], _, _, _, r, _ => by unfold Rvs at r; subst r; simp [Rvs]
  | w :: vs, _, 0, y, r, ry => by
    unfold Rvs at r; obtain ⟨z, zs, rfl, rz, rs⟩ := r
    exact ⟨y, zs, rfl, ry, rs⟩
  | w :: vs, _, j + 1, y, r, ry => by
    unfold Rvs at r; obtain ⟨z, zs, rfl, rz, rs⟩ := r
    exact ⟨z, zs.set j y, rfl, rz, rvs_set j rs ry⟩
/-- an item of a mutable list is set -/
theorem SX.setitem {e i l : Expr} (p : SE c d hd nm σ η e (fun v η₁ => SE c d hd nm σ η₁ l (fun w η₂ => SE c d hd nm σ η₂ i (fun k η₃ => ∃ a vs j, w = .loc a ∧ k = .int ((j : Nat) : Int) ∧ η₃ a = some (.lst vs) ∧ j < vs.length ∧ N σ (η₃.set a (.lst (vs.set j v)))) X) X) X)
    (hs : ∀ env, swapsWith e (some (.Subscript l i p')) pos.line env = pure false := by intro _; with_unfolding_all rfl) : SX c d hd nm σ η (.Assign [.Subscript l i p'] e pos) N R X := by
  intro A env s pr outer o I F h1 h2
  refine wpAny_Assign_Subscript (wpAny_mono (p A env s pr o I F) (fun y s₁ hq => ?_) fun _ _ e => e.weak fun _ q => q.elim) (hs env)
  obtain ⟨v, η₁, q, I₁, rv, st⟩ := hq
  refine wpAny_mono (q A env s₁ pr o I₁ (F.step I st)) (fun z s₂ hq => ?_) fun _ _ e => (e.older st).weak fun _ q => q.elim
  obtain ⟨w, η₂, q₂, I₂, rw₂, st₂⟩ := hq
  refine wpAny_mono (q₂ A env s₂ pr o I₂ (F.step I (st.trans st₂))) (fun kk s₃ hq => ?_) fun _ _ e => (e.older (st.trans st₂)).weak fun _ q => q.elim
  obtain ⟨kv, η₃, ⟨a, vs, j, rfl, rfl, ea, hj, k'⟩, I₃, rk, st₃⟩ := hq
  have rv₃ := (rv.step I₁ st₂).step I₂ st₃
  have rw₃ := rw₂.step I₂ st₃
  unfold Rv at rw₃; obtain ⟨rfl, _⟩ := rw₃
  unfold Rv at rk; obtain ⟨t, rfl⟩ := rk
  obtain ⟨its, n, ho, hl, rs⟩ := I₃.hrel _ _ ea
  have hle := rvs_length rs
  have sl : sizeLine = 16777216 := by decide
  have hjs : j < its.length := by omega
  refine ki_setAt (items := its.toArray) (n := n) ho (by omega) (by have := rvs_length rs; omega) (by simp; omega) ?_
  have sb : Heap.SameBut a s₃.heap (s₃.heap.update a (Obj.mapSeq (·.setIfInBounds ((j : Int).toNat) y))) := Heap.SameBut.update ..
  have pl : (s₃.heap.update a (Obj.mapSeq (·.setIfInBounds ((j : Int).toNat) y))).get? a = some { cls := .type "list", data := .seq (its.toArray.setIfInBounds ((j : Int).toNat) y) _ } := PySem.IsL.update (h := s₃.heap) (l := a) (items := its.toArray) (n := n) ho (·.setIfInBounds ((j : Int).toNat) y)
  have mD : Mono pr η₃ s₃.heap (η₃.set a (.lst (vs.set j v))) pr (s₃.heap.update a (Obj.mapSeq (·.setIfInBounds ((j : Int).toNat) y))) := Mono.updM ea sb
  have all := (st.trans st₂).trans st₃
  have I₄ : Inv c (η₃.set a (.lst (vs.set j v))) pr A { s₃ with heap := s₃.heap.update a (Obj.mapSeq (·.setIfInBounds ((j : Int).toNat) y)), toks := s₃.toks } :=
    I₃.updM ea (fun _ _ x => by cases x) sb ⟨its.set j y, _, by have := pl; simpa using this, by rw [List.length_set]; exact hl, rvs_set j (Rvs.mono mD _ rs) (Rv.mono mD _ rv₃)⟩
  have st₄ := all.trans (Step.updM ea (mo' := .lst (vs.set j v)) sb (by rw [pl]; rfl))
  exact ⟨σ, _, k', I₄, F.step I st₄, st₄.own⟩
theorem SS.setitem {e i l : Expr} (p : SE c d hd nm σ η e (fun v η₁ => SE c d hd nm σ η₁ l (fun w η₂ => SE c d hd nm σ η₂ i (fun k η₃ => ∃ a vs j, w = .loc a ∧ k = .int ((j : Nat) : Int) ∧ η₃ a = some (.lst vs) ∧ j < vs.length ∧ SS c d hd nm σ (η₃.set a (.lst (vs.set j v))) rest N R X) X) X) X)
    (hs : ∀ env, swapsWith e (some (.Subscript l i p')) pos.line env = pure false := by intro _; with_unfolding_all rfl) : SS c d hd nm σ η (.Assign [.Subscript l i p'] e pos :: rest) N R X := SS.cons (SX.setitem p hs)
/-- slices from a place on, behind the end too -/
theorem pick_from (items : Array Value) (k : Nat) : slicePick items (some (k : Int)) none none = (items.toList.drop k).toArray := by
  by_cases hk : k ≤ items.size
  · exact slicePick_from items k hk
  · rw [slicePick_plain]
    have e : clipAt items.size (k : Int) = items.size := by
      unfold clipAt
      rw [if_neg (by omega)]
      omega
    simp only [Option.elim]
    have h1 : items.toList.drop items.size = [] := by simp
    have h2 : items.toList.drop k = [] := List.drop_eq_nil_of_le (by rw [Array.length_toList]; omega)
    rw [e, h1, h2]; simp
/-- four names take a list's items -/
theorem SX.assign4L {e : Expr} {k : Nat} (p : SE c d true nm σ η e (fun v η₁ => ∃ a b e f, v = .lst [a, b, e, f] ∧ ∃ σ₁ σ₂ σ₃ σ₄, Put nm σ x a σ₁ ∧ Put nm σ₁ y b σ₂ ∧ Put nm σ₂ z e σ₃ ∧ Put nm σ₃ u f σ₄ ∧ N σ₄ η₁) X)
    (hs : ∀ env, swapsWithSole [.Tuple [.Name x px, .Name y py, .Name z pz, .Name u pw] k tp] e pos.line env = pure false := by intro _; with_unfolding_all rfl) (hw : ∀ env, swappedStores [.Tuple [.Name x px, .Name y py, .Name z pz, .Name u pw] k tp] e env = pure Option.none := by intro _; with_unfolding_all rfl) :
    SX c d true nm σ η (.Assign [.Tuple [.Name x px, .Name y py, .Name z pz, .Name u pw] k tp] e pos) N R X := by
  intro A env s pr outer o I F h1 h2
  refine PyProof.Rows.Assign_Tuple (wpAny_mono (p A env s pr o I F) (fun z s₁ hq => ?_) fun _ _ e => e.weak fun _ q => q.elim) (hs env) (hw env)
  obtain ⟨v, η₁, ⟨a, b, e, f, rfl, σ₁, σ₂, σ₃, σ₄, p1, p2, p3, p4, q⟩, I₁, rv, st⟩ := hq
  rw [arm_assign_Tuple]
  refine wpAny_bind (wpAny_standAt ?_)
  unfold unpack
  refine wpAny_bind (wpAny_holding ?_)
  refine unpack_lst o I₁ rv rfl fun s₄ xs I₄ rs₄ st₄ fr => ?_
  obtain ⟨a', xs', rfl, ra, b', _, rfl, rb, e', _, rfl, re, f', _, rfl, rf, rfl⟩ := rs₄
  have F₄ := fr nm env σ (F.step I st)
  refine wpAny_assignInOrder_more (wpAny_assign_Name (store_var I₄ F₄ p1 ra fun s₅ I₅ F₅ st₅ mv => ?_))
  refine wpAny_assignInOrder_more (wpAny_assign_Name (store_var I₅ F₅ p2 (mv _ _ rb) fun s₆ I₆ F₆ st₆ mv₆ => ?_))
  refine wpAny_assignInOrder_more (wpAny_assign_Name (store_var I₆ F₆ p3 (mv₆ _ _ (mv _ _ re)) fun s₇ I₇ F₇ st₇ mv₇ => ?_))
  refine wpAny_assignInOrder_more (wpAny_assign_Name (store_var I₇ F₇ p4 (mv₇ _ _ (mv₆ _ _ (mv _ _ rf))) fun s₈ I₈ F₈ st₈ _ => wpAny_assignInOrder_none ?_))
  exact ⟨σ₄, _, q, I₈, F₈, ((((st.trans st₄).own.trans (st₅.weak ownX_of)).trans (st₆.weak ownX_of)).trans (st₇.weak ownX_of)).trans (st₈.weak ownX_of)⟩
theorem SS.assign4L {e : Expr} {k : Nat} (p : SE c d true nm σ η e (fun v η₁ => ∃ a b e f, v = .lst [a, b, e, f] ∧ ∃ σ₁ σ₂ σ₃ σ₄, Put nm σ x a σ₁ ∧ Put nm σ₁ y b σ₂ ∧ Put nm σ₂ z e σ₃ ∧ Put nm σ₃ u f σ₄ ∧ SS c d true nm σ₄ η₁ rest N R X) X)
    (hs : ∀ env, swapsWithSole [.Tuple [.Name x px, .Name y py, .Name z pz, .Name u pw] k tp] e pos.line env = pure false := by intro _; with_unfolding_all rfl) (hw : ∀ env, swappedStores [.Tuple [.Name x px, .Name y py, .Name z pz, .Name u pw] k tp] e env = pure Option.none := by intro _; with_unfolding_all rfl) :
    SS c d true nm σ η (.Assign [.Tuple [.Name x px, .Name y py, .Name z pz, .Name u pw] k tp] e pos :: rest) N R X := SS.cons (SX.assign4L p hs hw)

-- lists, frozen or mutable
theorem CompLG.mapA {α : Type} {t elt : Expr} {xs : List Str} {K : List V → Hp → Prop} {G : Hp → Prop} {u g : α → V} {l : List α} {ws : List V} (hG : G η) (he : ∀ a ∈ l, ∃ T, SA c d nm τ η t xs (u a) (fun τ' => τ' = T) ∧ Less τ T ∧ EP c d true nm T η elt (g a) noX) (k : K (ws ++ l.map g) η) : CompLG c d nm t xs Option.none elt K G (l.map u) ws τ η := by
  induction l generalizing ws with
  | nil => rw [List.map_nil]; unfold CompLG; exact ⟨hG, by simpa using k⟩
  | cons a l ih =>
    rw [List.map_cons]
    unfold CompLG
    refine ⟨hG, ?_⟩
    obtain ⟨T, sa, le, ep⟩ := he a (.head _)
    intro A env s pr y QQ E o I F r q
    refine sa A env s pr y QQ E o I F r fun s' σ' e I' F' st => q s' σ' ?_ I' F' st
    subst e
    refine ep.mono (fun w η' e => ?_) fun _ _ e => e
    obtain ⟨rfl, rfl⟩ := e
    exact CompLG.forget le (ih (fun a m => he a (.tail _ m)) (by simpa using k))
/-- with a heap that grows -/
theorem CompLG.foldH {α : Type} {t elt : Expr} {xs : List Str} {K : List V → Hp → Prop} {G : Hp → Prop} (H : α → Hp) (P : α → List V → List V → Prop) {vs ws : List V} (a : α) (h0 : P a vs ws) (hG : ∀ a vs ws, P a vs ws → G (H a))
    (hb : ∀ a v vs ws, P a (v :: vs) ws → ∃ T, SA c d nm τ (H a) t xs v (fun τ' => τ' = T) ∧ Less τ T ∧ SE c d true nm T (H a) elt (fun w η' => ∃ a', P a' vs (ws ++ [w]) ∧ η' = H a') noX)
    (hK : ∀ a ws, P a [] ws → K ws (H a)) : CompLG c d nm t xs Option.none elt K G vs ws τ (H a) := by
  induction vs generalizing ws a with
  | nil => unfold CompLG; exact ⟨hG _ _ _ h0, hK _ _ h0⟩
  | cons v vs ih =>
    unfold CompLG
    refine ⟨hG _ _ _ h0, ?_⟩
    obtain ⟨T, sa, le, ep⟩ := hb a v vs ws h0
    intro A env s pr y QQ E o I F r q
    refine sa A env s pr y QQ E o I F r fun s' σ' e I' F' st => q s' σ' ?_ I' F' st
    subst e
    refine ep.mono (fun w η' e => ?_) fun _ _ e => e
    obtain ⟨a', p', rfl⟩ := e
    exact CompLG.forget le (ih a' p')
/-- a loop with a heap that changes -/
theorem ForLG.foldH {α : Type} {t : Expr} {xs : List Str} {body : List Stmt} {G : Hp → Prop} (T : List (Option V)) (H : α → Hp) (P : α → List V → Prop) {vs : List V} (a : α) (h0 : P a vs) (hG : ∀ a vs, P a vs → G (H a))
    (hb : ∀ a v vs', P a (v :: vs') → SA c d nm T (H a) t xs v fun τ => SS c d true nm τ (H a) body (fun τ' η' => ∃ a', P a' vs' ∧ Less T τ' ∧ η' = H a') R X)
    (hN : ∀ a σ', P a [] → Less T σ' → N σ' (H a)) {σ : List (Option V)} (l : Less T σ) : ForLG c d nm t xs body N R X G vs σ (H a) := by
  induction vs generalizing σ a with
  | nil => unfold ForLG; exact ⟨hG _ _ h0, hN a σ h0 l⟩
  | cons v vs ih =>
    unfold ForLG
    refine ⟨hG _ _ h0, SA.forget l ((hb a v vs h0).mono fun τ p => p.mono (fun τ' η' q => ?_) (fun _ _ q => q) fun _ _ q => q)⟩
    obtain ⟨a', p', l', rfl⟩ := q
    exact ih a' p' l'
end
end Mine

namespace Mine
open PySem PyProof.Rows PySem.W

/-- data that can be laid out -/
structure Lay (k : Nat) (d : PyData) : Prop where
  lay : d.canLay0 = true
  dep : d.depth ≤ k
theorem Lay.all {k : Nat} : ∀ {ds : List PyData}, (∀ d ∈ ds, Lay k d) → PyData.canLayAll0 ds = true ∧ PyData.depthAll ds ≤ k
  | [], _ => ⟨by simp [PyData.canLayAll0], by simp [PyData.depthAll]⟩
  | d :: ds, h => by
    obtain ⟨h1, h2⟩ := Lay.all fun u m => h u (.tail _ m)
    have h0 := h d (.head _)
    unfold PyData.canLayAll0 PyData.depthAll
    exact ⟨by rw [h1, h0.lay]; rfl, Nat.max_le.mpr ⟨h0.dep, h2⟩⟩
theorem Lay.list {k : Nat} {ds : List PyData} (h : ∀ d ∈ ds, Lay k d) : Lay (k + 1) (.list ds) := by
  obtain ⟨h1, h2⟩ := Lay.all h
  exact ⟨by unfold PyData.canLay0; exact h1, by unfold PyData.depth; omega⟩
theorem Lay.tuple {k : Nat} {ds : List PyData} (h : ∀ d ∈ ds, Lay k d) : Lay (k + 1) (.tuple ds) := by
  obtain ⟨h1, h2⟩ := Lay.all h
  exact ⟨by unfold PyData.canLay0; exact h1, by unfold PyData.depth; omega⟩
theorem Lay.int {i : Int} : Lay 0 (.int i) := ⟨by simp [PyData.canLay0], by simp [PyData.depth]⟩
theorem Lay.mono {k k' : Nat} {d : PyData} (h : Lay k d) (hk : k ≤ k') : Lay k' d := ⟨h.lay, Nat.le_trans h.dep hk⟩
theorem Lay.shaped {k : Nat} {d : PyData} (h : Lay k d) (hk : k ≤ 64) : PySem.SeqAt.shaped d = true := by
  unfold PySem.SeqAt.shaped
  rw [h.lay, decide_eq_true (Nat.le_trans h.dep hk)]; rfl
theorem share_lay {t D : Int} : Lay 1 (shareD t D) := Lay.tuple fun d hd => by
  simp only [List.mem_cons, List.not_mem_nil, or_false] at hd
  rcases hd with rfl | rfl <;> exact Lay.int
theorem row_lay {n : Nat} {r : Nat → Int} {D : Int} : Lay 2 (rowD n r D) := Lay.list fun d hd => by
  obtain ⟨k, _, rfl⟩ := List.mem_map.mp hd; exact share_lay
theorem tab_lay {n : Nat} {T : Nat → Nat → Int} {D : Int} : Lay 3 (tabD n T D) := Lay.list fun d hd => by
  obtain ⟨k, _, rfl⟩ := List.mem_map.mp hd; exact row_lay
theorem tabs_lay {m n : Nat} {T : Nat → Nat → Nat → Int} {D : Int} : Lay 4 (tabsD m n T D) := Lay.list fun d hd => by
  obtain ⟨k, _, rfl⟩ := List.mem_map.mp hd; exact tab_lay
theorem signs_lay {m : Nat} {g : Nat → Nat} (sg : Sg m g) : Lay 0 (.str (signS m g)) := by
  refine ⟨?_, by simp [PyData.depth]⟩
  unfold PyData.canLay0 PyData.strOk
  simp only [Array.all_eq_true', wordS]
  intro k hk
  simp only [List.mem_toArray, List.mem_map] at hk
  obtain ⟨i, hi, rfl⟩ := hk
  have := sg.lo i (List.mem_range.mp hi)
  simp; omega
/-- the parts of a machine as data -/
noncomputable abbrev partsD (m n : Nat) (g : Nat → Nat) (b : Nat → Int) (T : Nat → Nat → Nat → Int) (e : Nat → Int) (p r s : Int) : PyData := .list [.str (signS m g), rowD n b p, tabsD m n T r, rowD n e s]
theorem parts_lay {m n : Nat} {g : Nat → Nat} {b e : Nat → Int} {T : Nat → Nat → Nat → Int} {p r s : Int} (sg : Sg m g) : Lay 5 (partsD m n g b T e p r s) := Lay.list fun d hd => by
  simp only [List.mem_cons, List.not_mem_nil, or_false] at hd
  rcases hd with rfl | rfl | rfl | rfl
  · exact (signs_lay sg).mono (by decide)
  · exact row_lay.mono (by decide)
  · exact tabs_lay
  · exact row_lay.mono (by decide)
section
variable {c : Cx} {η : Hp} {d : Nat} {hd : Bool} {Q : V → Hp → Prop} {X : Addr → Hp → Prop}
theorem eqv_nil {n : Nat} {f : Nat → PyData} : PyData.eqv (.list ((List.range n).map f)) (.list []) = decide (n = 0) := by
  cases n with
  | zero => simp [PyData.eqv, PyData.eqvAll]
  | succ n => rw [List.range_succ_eq_map]; simp [PyData.eqv, PyData.eqvAll]
theorem S2.tabsNil {m n : Nat} {T : Nat → Nat → Nat → Int} {D : Int} (q : Q (.bool (decide (m = 0))) η) : S2 c d hd (compareOp .Eq) (.lst (tabsS m n T D)) (.lst []) η Q X :=
  S2.eqD tabs_pyr (.lst .nil) (tabs_lay.shaped (by decide)) (by decide +kernel) (by rw [eqv_nil]; exact q)
theorem S2.rowNil {n : Nat} {r : Nat → Int} {D : Int} (q : Q (.bool (decide (n = 0))) η) : S2 c d hd (compareOp .Eq) (.lst (rowS n r D)) (.lst []) η Q X :=
  S2.eqD row_pyr (.lst .nil) (row_lay.shaped (by decide)) (by decide +kernel) (by rw [eqv_nil]; exact q)
end
end Mine

namespace Mine
open PySem PyProof.Rows PySem.W
section
variable {prog : Program} {w : World} {A : Around} {E : Value → Shared → Prop} {s : Shared} {env : Env}
/-- a slice of a list that nobody holds -/
theorem slice_any {value : Expr} {lower upper : Option Expr} {p pos : Pos} {Q : Value → Shared → Prop}
    (h : wpAny (model prog w) A (eval value env) (fun o s₁ => wpAny (model prog w) A (evalPart lower env) (fun vl s₂ => wpAny (model prog w) A (evalPart upper env) (fun vu s₃ =>
      ∃ l items lo hi, o = .ref l ∧ s₃.heap.IsList l items ∧ items.size ≤ sizeLine ∧ IsPart vl lo ∧ IsPart vu hi ∧
        Q (.ref (s₃.heap.objs.size + 1)) { s₃ with heap := (s₃.heap.push { cls := .type "slice", data := .fields #[vl, vu, .none] }).push { cls := .type "list", data := .seq (slicePick items lo hi none) } }) E s₂) E s₁) E s) :
    wpAny (model prog w) A (eval (.Subscript value (.Slice lower upper none p) pos) env) Q E s := by
  rw [eval_Subscript]
  refine wpAny_bind (wpAny_mono h (fun o s₁ h₁ => wpAny_bind (wpAny_holding (wpAny_Slice (wpAny_mono h₁ (fun vl s₂ h₂ => wpAny_mono h₂ (fun vu s₃ h₃ => ?_) fun _ _ e => e) fun _ _ e => e)))) fun _ _ e => e)
  obtain ⟨l, items, lo, hi, rfl, hl, hsz, pl, pu, hQ⟩ := h₃
  rw [evalPart_none]
  refine wpAny_pure (wpAny_bind (wpAny_standAt ?_))
  have ty := (hl.push { cls := .type "slice", data := .fields #[vl, vu, .none] }).typeIs (s := { s₃ with heap := s₃.heap.push { cls := .type "slice", data := .fields #[vl, vu, .none] } })
  have get := wpAny_getItem_list_slice (prog := prog) (w := w) (A := A) (E := E) (s := { s₃ with heap := s₃.heap.push { cls := .type "slice", data := .fields #[vl, vu, .none] } }) (Q := fun r s' => Q r s') (hl.push _) (Heap.IsSliceOf.new ..) pl pu .none (by simp) (by rw [Heap.size_push]; exact hQ) hsz
  have fin : wpAny (model prog w) A (operate [.ref s₃.heap.objs.size, .ref l] (getItem (.ref l) (.ref s₃.heap.objs.size))) (fun r s₃ => wpAny (model prog w) A (letTemporaryGo value (.ref l) r >>= fun _ => pure r) Q E s₃) E { s₃ with heap := s₃.heap.push { cls := .type "slice", data := .fields #[vl, vu, .none] } } :=
    wpAny_operating (wpAny_mono get (fun r s₃ h₃ => wpAny_bind (wpAny_letTemporaryGo (wpAny_pure h₃))) fun _ _ x => x)
  refine wpAny_bind ?_
  rw [getitemInPython_of_ne ty.not_modules]
  refine wpAny_bind (wpAny_specialOf ty list_getitem_lookup ?_)
  exact wpAny_pure (wpAny_bind fin)
end
section
variable {c : Cx} {A : Around} {pr pr' : Pr} {η η' : Hp} {s : Shared} {d : Nat} {hd : Bool} {nm : List (Str × NameKind)} {σ τ : List (Option V)} {env : Env} {p' : Pos}
  {Q R : V → Hp → Prop} {X : Addr → Hp → Prop} {v w : V} {pos : Pos} {vs ws : List V}
theorem SE.sliceToT {e u : Expr} (p : SE c d hd nm σ η e (fun a η₁ => SE c d hd nm σ η₁ u (fun b η₂ => ∃ vs k, a = .lst vs ∧ b = .int ((k : Nat) : Int) ∧ k ≤ vs.length ∧ Q (.lst (vs.take k)) η₂) X) X) : SE c d hd nm σ η (.Subscript e (.Slice Option.none (some u) Option.none p') pos) Q X := by
  intro A env s pr o I F
  refine slice_any (wpAny_mono (p A env s pr o I F) (fun y s₁ hq => ?_) fun _ _ e => e)
  obtain ⟨v, η₁, q, I₁, rv, st⟩ := hq
  rw [evalPart_none]
  refine wpAny_pure (wpAny_mono (q A env s₁ pr o I₁ (F.step I st)) (fun z s₂ hq => ?_) fun _ _ e => e.older st)
  obtain ⟨w, η₂, ⟨vs, k, rfl, rfl, hk, q₂⟩, I₂, rw', st₂⟩ := hq
  have rv₂ := rv.step I₁ st₂
  unfold Rv at rv₂ rw'
  obtain ⟨l, its, n, rfl, ho, _, hz, rs⟩ := rv₂
  obtain ⟨tk, rfl⟩ := rw'
  have hl := rvs_length rs
  refine ⟨l, its.toArray, Option.none, some (k : Int), rfl, ⟨_, ho, rfl, _, rfl⟩, by simpa [hl] using hz, .none, .int _ _, ?_⟩
  rw [slicePick_upto its.toArray k (by simpa [hl] using hk)]
  refine (Post.pure (t := s₂.toks) (v := .lst (vs.take k)) (h' := (s₂.heap.push { cls := .type "slice", data := .fields #[.none, Value.int k tk, .none] }).push { cls := .type "list", data := .seq (its.take k).toArray }) I₂ (fun b o e => Heap.get?_push_of_some _ (Heap.get?_push_of_some _ e)) ?_ q₂).older (st.trans st₂)
  have g := Heap.get?_push_size (s₂.heap.push { cls := .type "slice", data := .fields #[.none, Value.int k tk, .none] }) (o := { cls := .type "list", data := .seq (its.take k).toArray }) rfl
  rw [Heap.size_push] at g
  have fr : s₂.heap.get? (s₂.heap.objs.size + 1) = Option.none := by
    cases e : s₂.heap.get? (s₂.heap.objs.size + 1) with
    | none => rfl
    | some ob => exact absurd (Heap.lt_size e) (Nat.not_lt.mpr (Nat.le_succ _))
  unfold Rv
  exact ⟨_, its.take k, _, rfl, g, ⟨I₂.fresh_none fr, fun p => by have := (I₂.privs _ p).1; rw [fr] at this; cases this⟩, by rw [List.length_take]; omega, Rvs.mono (Mono.of_keeps fun b o e => Heap.get?_push_of_some _ (Heap.get?_push_of_some _ e)) _ (rvs_take k rs)⟩
theorem SE.sliceFromT {e u : Expr} (p : SE c d hd nm σ η e (fun a η₁ => SE c d hd nm σ η₁ u (fun b η₂ => ∃ vs k, a = .lst vs ∧ b = .int ((k : Nat) : Int) ∧ Q (.lst (vs.drop k)) η₂) X) X) : SE c d hd nm σ η (.Subscript e (.Slice (some u) Option.none Option.none p') pos) Q X := by
  intro A env s pr o I F
  refine slice_any (wpAny_mono (p A env s pr o I F) (fun y s₁ hq => ?_) fun _ _ e => e)
  obtain ⟨v, η₁, q, I₁, rv, st⟩ := hq
  refine wpAny_mono (q A env s₁ pr o I₁ (F.step I st)) (fun z s₂ hq => ?_) fun _ _ e => e.older st
  obtain ⟨w, η₂, ⟨vs, k, rfl, rfl, q₂⟩, I₂, rw', st₂⟩ := hq
  have rv₂ := rv.step I₁ st₂
  unfold Rv at rv₂ rw'
  obtain ⟨l, its, n, rfl, ho, _, hz, rs⟩ := rv₂
  obtain ⟨tk, rfl⟩ := rw'
  have hl := rvs_length rs
  rw [evalPart_none]
  refine wpAny_pure ⟨l, its.toArray, some (k : Int), Option.none, rfl, ⟨_, ho, rfl, _, rfl⟩, by simpa [hl] using hz, .int _ _, .none, ?_⟩
  rw [pick_from]
  refine (Post.pure (t := s₂.toks) (v := .lst (vs.drop k)) (h' := (s₂.heap.push { cls := .type "slice", data := .fields #[Value.int k tk, .none, .none] }).push { cls := .type "list", data := .seq (its.drop k).toArray }) I₂ (fun b o e => Heap.get?_push_of_some _ (Heap.get?_push_of_some _ e)) ?_ q₂).older (st.trans st₂)
  have g := Heap.get?_push_size (s₂.heap.push { cls := .type "slice", data := .fields #[Value.int k tk, .none, .none] }) (o := { cls := .type "list", data := .seq (its.drop k).toArray }) rfl
  rw [Heap.size_push] at g
  unfold Rv
  exact ⟨_, its.drop k, _, rfl, g, freshAt I₂ (Nat.le_succ _), by rw [List.length_drop]; omega, Rvs.mono (Mono.of_keeps fun b o e => Heap.get?_push_of_some _ (Heap.get?_push_of_some _ e)) _ (rvs_drop k rs)⟩
/-- a text some times -/
theorem rep_len (x : Str) : (repS x 2).length = x.length + x.length := by
  show ((List.replicate 2 x.cps).foldl (· ++ ·) #[]).size = _
  simp [List.replicate, Str.length]
theorem S2.mulAny {a : Str} {k : Nat} (hk : k ≤ 2) (ha : a.length ≤ 100) (q : ∀ y : Str, y.length ≤ 200 → Q (.str y) η) : S2 c d hd (binaryOp .Mult) (.str a) (.int ((k : Nat) : Int)) η Q X := fun A s pr x y o I r r' => by
  unfold Rv at r r'; obtain ⟨t, rfl⟩ := r; obtain ⟨u, rfl⟩ := r'
  have sl : sizeLine = 16777216 := by decide
  match k, hk with
  | 0, _ =>
    refine PySem.P.mul_str_none (by decide) (by decide) ?_
    exact Post.tok (v := .str Str.empty) I _ ⟨_, rfl⟩ (q _ (by decide))
  | 1, _ =>
    refine PySem.P.mul_str (by decide) (fun _ h => by simp at h) (fun _ h => by simp at h) ?_
    rw [if_neg (by decide), if_pos (by simp)]
    exact Post.val (v := .str a) I ⟨_, rfl⟩ (q _ (by omega))
  | 2, _ =>
    refine PySem.P.mul_str (by decide) (fun _ _ => ?_) (fun _ _ => ?_) ?_
    · have : ((2 : Nat) : Int) = 2 := rfl
      rw [this, show ((2 ^ 63 - 1 : Int) / 2) = 4611686018427387903 by decide]
      omega
    · unfold Builtin.Str.tooLong; simp only [decide_eq_false_iff_not]
      show ¬ (a.length * 2 > _)
      omega
    · rw [if_neg (by decide)]
      split
      · exact Post.val (v := .str a) I ⟨_, rfl⟩ (q _ (by omega))
      · have l := rep_len a
        exact ⟨by show (repS a 2).length ≤ sizeLine; omega, Post.tok (v := .str (repS a 2)) I _ ⟨_, rfl⟩ (q _ (by omega))⟩
end
end Mine

namespace Mine
open PySem PySem.W PyProof.Rows

/-- the parts of the text, by their places in the program -/
noncomputable def stAt (p : Program) (i : Nat) : Stmt := p.main.body.getD i (.Pass default)
noncomputable def stIn (s : Stmt) (j : Nat) : Stmt := match s with | .ClassDef _ _ _ b _ _ _ _ _ _ _ => b.getD j (.Pass default) | _ => .Pass default
noncomputable def fnA : Stmt → Arguments | .FunctionDef _ a _ _ _ _ _ _ _ _ => a | _ => default
noncomputable def fnB : Stmt → List Stmt | .FunctionDef _ _ b _ _ _ _ _ _ _ => b | _ => []
noncomputable def fnS : Stmt → Scope | .FunctionDef _ _ _ _ _ _ s _ _ _ => s | _ => default
noncomputable def fnP : Stmt → Pos | .FunctionDef _ _ _ _ _ _ _ _ _ p => p | _ => default
noncomputable def stsAt (p : Program) (i n : Nat) : List Stmt := ((behindTheImports p).drop i).take n
noncomputable def dE (P : Params) (s : String) (t : Tok) (v : Value) : DictEntry := ⟨PyData.keyHash P (Str.ofString s), .str (Str.ofString s) t, v⟩

/-- a list of objects as a tree, by recursors alone (the kernel runs it) -/
noncomputable def unz (l : List Obj) : List Obj × List Obj := @List.rec Obj (fun _ => List Obj × List Obj) ([], []) (fun a _ ih => (a :: ih.2, ih.1)) l
noncomputable def btOf (n : Nat) : List Obj → BT := @Nat.rec (fun _ => List Obj → BT) (fun _ => .nil) (fun _ ih l => @List.rec Obj (fun _ => BT) .nil (fun a t _ => .node a (ih (unz t).1) (ih (unz t).2)) l) n
end Mine

open PySem PySem.W PyProof.Rows
namespace Mine
noncomputable abbrev PW : Program := PySem.Challenge.pw_uf020009_05
namespace Hd
noncomputable def sh0 (P : Params)  : Obj := (@PySem.Obj.mk (@PySem.Value.type "tuple") none (@PySem.Data.seq (@List.toArray @PySem.Value []) 0) (@List.toArray (@Option @PySem.Value) []))
noncomputable def o11 (P : Params) : Obj := sh0 P 
noncomputable def sh1 (P : Params)  : Obj := (@PySem.Obj.mk @PySem.Value.none none (@PySem.Data.fields (@List.toArray @PySem.Value [])) (@List.toArray (@Option @PySem.Value) []))
noncomputable def o12 (P : Params) : Obj := sh1 P 
noncomputable def sh2 (P : Params) (a0 : String) (a1 : Nat) (a2 : Nat) (a3 : Nat) (a4 : Nat) (a5 : Nat) (a6 : Nat) (a7 : Nat) (a8 : Nat) : Obj := (@PySem.Obj.mk (@PySem.Value.type "code") none (@PySem.Data.fields (@List.toArray @PySem.Value [(@PySem.Value.str (@PySem.Str.ofString a0) a1), (@PySem.Value.str (@PySem.Str.ofString a0) a2), (@PySem.Value.str (@PySem.Str.ofString "/claim/cut.py") a3), (@PySem.Value.int (@OfNat.ofNat @Int a4 (@instOfNat a4)) 0), (@PySem.Value.int (@OfNat.ofNat @Int 0 (@instOfNat 0)) 0), (@PySem.Value.int (@OfNat.ofNat @Int 0 (@instOfNat 0)) 0), (@PySem.Value.int (@OfNat.ofNat @Int 0 (@instOfNat 0)) 0), (@PySem.Value.int (@OfNat.ofNat @Int 0 (@instOfNat 0)) 0), (@PySem.Value.ref a5), (@PySem.Value.bool @Bool.false), (@PySem.Value.int (@OfNat.ofNat @Int 181 (@instOfNat 181)) 0), (@PySem.Value.ref a6), @PySem.Value.none, @PySem.Value.none, @PySem.Value.none, @PySem.Value.none, (@PySem.Value.int (@OfNat.ofNat @Int a7 (@instOfNat a7)) 0), (@PySem.Value.int (@OfNat.ofNat @Int a4 (@instOfNat a4)) 0), (@PySem.Value.str (@PySem.Str.ofString "/claim/cut.py") a8)])) (@List.toArray (@Option @PySem.Value) []))
noncomputable def o13 (P : Params) : Obj := sh2 P "<module>" 182 183 184 1 11 12 185 186
noncomputable def sh3 (P : Params) (a0 : Nat) (a1 : Nat) (a2 : String) (a3 : Nat) : Obj := (@PySem.Obj.mk (@PySem.Value.type "frame") none @PySem.Data.plain (@List.toArray (@Option @PySem.Value) [(some (@PySem.Value.ref a0)), (some (@PySem.Value.ref 3)), (some (@PySem.Value.ref a1)), none, (some (@PySem.Value.str (@PySem.Str.ofString a2) a3)), none, (some (@PySem.Value.ref 0))]))
noncomputable def o14 (P : Params) : Obj := sh3 P 13 3 "__main__" 164
noncomputable def o3_0 (P : Params) : Obj := (@PySem.Obj.mk (@PySem.Value.type "dict") none (@PySem.Data.dict (@List.toArray @PySem.DictEntry [(dE P "__name__" 165 (@PySem.Value.str (@PySem.Str.ofString "weighwords.errors") 187)), (dE P "__doc__" 166 @PySem.Value.none), (dE P "__package__" 167 @PySem.Value.none), (dE P "__loader__" 168 (@PySem.Value.builtin "__main__.__loader__#opaque")), (dE P "__spec__" 169 @PySem.Value.none), (dE P "__annotations__" 170 (@PySem.Value.ref 6)), (dE P "__builtins__" 171 (@PySem.Value.ref 4)), (dE P "__file__" 173 (@PySem.Value.str (@PySem.Str.ofString "/claim/cut.py") 172)), (dE P "__cached__" 174 @PySem.Value.none), (dE P "WeighError" 206 (@PySem.Value.ref 24))]) 10) (@List.toArray (@Option @PySem.Value) []))
noncomputable def sh4 (P : Params) (a0 : Nat) (a1 : Nat) (a2 : Nat) : Obj := (@PySem.Obj.mk @PySem.Value.none none (@PySem.Data.fields (@List.toArray @PySem.Value [(@PySem.Value.int (@OfNat.ofNat @Int a0 (@instOfNat a0)) 0), (@PySem.Value.int (@OfNat.ofNat @Int a1 (@instOfNat a1)) 0), (@PySem.Value.ref a2)])) (@List.toArray (@Option @PySem.Value) []))
noncomputable def o12_0 (P : Params) : Obj := sh4 P 2 0 20
noncomputable def o15 (P : Params) : Obj := (@PySem.Obj.mk (@PySem.Value.type "tuple") none (@PySem.Data.seq (@List.toArray @PySem.Value [(@PySem.Value.type "ValueError")]) 0) (@List.toArray (@Option @PySem.Value) []))
noncomputable def sh5 (P : Params)  : Obj := (@PySem.Obj.mk (@PySem.Value.type "builtin_function_or_method") none (@PySem.Data.fields (@List.toArray @PySem.Value [(@PySem.Value.builtin "type.__prepare__"), (@PySem.Value.type "type")])) (@List.toArray (@Option @PySem.Value) []))
noncomputable def o16 (P : Params) : Obj := sh5 P 
noncomputable def sh6 (P : Params) (a0 : Nat) (a1 : Nat) (a2 : String) (a3 : Nat) (a4 : Nat) (a5 : Nat) (a6 : Nat) (a7 : Nat) (a8 : Nat) : Obj := (@PySem.Obj.mk (@PySem.Value.type "dict") none (@PySem.Data.dict (@List.toArray @PySem.DictEntry [(dE P "__module__" a0 (@PySem.Value.str (@PySem.Str.ofString "weighwords.errors") 187)), (dE P "__qualname__" a1 (@PySem.Value.str (@PySem.Str.ofString a2) a3)), (dE P "__firstlineno__" a4 (@PySem.Value.int (@OfNat.ofNat @Int a5 (@instOfNat a5)) a6)), (dE P "__static_attributes__" a7 (@PySem.Value.ref a8))]) 4) (@List.toArray (@Option @PySem.Value) []))
noncomputable def o17 (P : Params) : Obj := sh6 P 196 198 "WeighError" 197 200 2 199 201 22
noncomputable def o18 (P : Params) : Obj := sh0 P 
noncomputable def o19 (P : Params) : Obj := sh1 P 
noncomputable def o20 (P : Params) : Obj := sh2 P "WeighError" 191 192 193 2 18 19 194 195
noncomputable def o21 (P : Params) : Obj := sh3 P 20 17 "weighwords.errors" 187
noncomputable def o22 (P : Params) : Obj := sh0 P 
noncomputable def o23 (P : Params) : Obj := (@PySem.Obj.mk (@PySem.Value.type "dict") none (@PySem.Data.dict (@List.toArray @PySem.DictEntry [(dE P "__module__" 196 (@PySem.Value.str (@PySem.Str.ofString "weighwords.errors") 187)), (dE P "__firstlineno__" 200 (@PySem.Value.int (@OfNat.ofNat @Int 2 (@instOfNat 2)) 199)), (dE P "__static_attributes__" 201 (@PySem.Value.ref 22)), (dE P "__weakref__" 203 (@PySem.Value.ref 25)), (dE P "__doc__" 204 @PySem.Value.none)]) 3) (@List.toArray (@Option @PySem.Value) []))
noncomputable def o24 (P : Params) : Obj := (@PySem.Obj.mk (@PySem.Value.type "type") none (@PySem.Data.cls (@PySem.ClassData.mk (@PySem.Str.ofString "WeighError") [(@PySem.Value.type "ValueError")] [(@PySem.Value.ref 24), (@PySem.Value.type "ValueError"), (@PySem.Value.type "Exception"), (@PySem.Value.type "BaseException"), (@PySem.Value.type "object")] 23 (@PySem.Str.ofString "WeighError") @Bool.true [] [] @Bool.false none @Bool.false)) (@List.toArray (@Option @PySem.Value) [(some (@PySem.Value.ref 15)), none, (some (@PySem.Value.str (@PySem.Str.ofString "WeighError") 189)), (some (@PySem.Value.str (@PySem.Str.ofString "WeighError") 197)), (some (@PySem.Value.builtin "ValueError.__new__")), (some (@PySem.Value.bool @Bool.true))]))
noncomputable def sh7 (P : Params) (a0 : Nat) (a1 : Nat) : Obj := (@PySem.Obj.mk (@PySem.Value.type "getset_descriptor") none (@PySem.Data.fields (@List.toArray @PySem.Value [(@PySem.Value.str (@PySem.Str.ofString "__weakref__") a0), (@PySem.Value.ref a1), (@PySem.Value.builtin "ExceptionGroup.__weakref__"), @PySem.Value.none])) (@List.toArray (@Option @PySem.Value) []))
noncomputable def o25 (P : Params) : Obj := sh7 P 202 24
noncomputable def sh8 (P : Params) (a0 : Nat) : Obj := (@PySem.Obj.mk (@PySem.Value.type "super") none (@PySem.Data.fields (@List.toArray @PySem.Value [(@PySem.Value.ref a0), (@PySem.Value.ref a0), (@PySem.Value.ref a0)])) (@List.toArray (@Option @PySem.Value) []))
noncomputable def o26 (P : Params) : Obj := sh8 P 24
noncomputable def sh9 (P : Params) (a0 : Nat) : Obj := (@PySem.Obj.mk (@PySem.Value.type "builtin_function_or_method") none (@PySem.Data.fields (@List.toArray @PySem.Value [(@PySem.Value.builtin "object.__init_subclass__"), (@PySem.Value.ref a0)])) (@List.toArray (@Option @PySem.Value) []))
noncomputable def o27 (P : Params) : Obj := sh9 P 24
noncomputable def o3_1 (P : Params) : Obj := (@PySem.Obj.mk (@PySem.Value.type "dict") none (@PySem.Data.dict (@List.toArray @PySem.DictEntry [(dE P "__name__" 165 (@PySem.Value.str (@PySem.Str.ofString "weighwords.errors") 187)), (dE P "__doc__" 166 @PySem.Value.none), (dE P "__package__" 167 @PySem.Value.none), (dE P "__loader__" 168 (@PySem.Value.builtin "__main__.__loader__#opaque")), (dE P "__spec__" 169 @PySem.Value.none), (dE P "__annotations__" 170 (@PySem.Value.ref 6)), (dE P "__builtins__" 171 (@PySem.Value.ref 4)), (dE P "__file__" 173 (@PySem.Value.str (@PySem.Str.ofString "/claim/cut.py") 172)), (dE P "__cached__" 174 @PySem.Value.none), (dE P "WeighError" 206 (@PySem.Value.ref 24)), (dE P "Nought" 222 (@PySem.Value.ref 37))]) 11) (@List.toArray (@Option @PySem.Value) []))
noncomputable def o12_1 (P : Params) : Obj := (@PySem.Obj.mk @PySem.Value.none none (@PySem.Data.fields (@List.toArray @PySem.Value [(@PySem.Value.int (@OfNat.ofNat @Int 2 (@instOfNat 2)) 0), (@PySem.Value.int (@OfNat.ofNat @Int 0 (@instOfNat 0)) 0), (@PySem.Value.ref 20), (@PySem.Value.int (@OfNat.ofNat @Int 4 (@instOfNat 4)) 0), (@PySem.Value.int (@OfNat.ofNat @Int 0 (@instOfNat 0)) 0), (@PySem.Value.ref 33)])) (@List.toArray (@Option @PySem.Value) []))
noncomputable def o24_1 (P : Params) : Obj := (@PySem.Obj.mk (@PySem.Value.type "type") none (@PySem.Data.cls (@PySem.ClassData.mk (@PySem.Str.ofString "WeighError") [(@PySem.Value.type "ValueError")] [(@PySem.Value.ref 24), (@PySem.Value.type "ValueError"), (@PySem.Value.type "Exception"), (@PySem.Value.type "BaseException"), (@PySem.Value.type "object")] 23 (@PySem.Str.ofString "WeighError") @Bool.true [] [(@PySem.Value.ref 37)] @Bool.false none @Bool.false)) (@List.toArray (@Option @PySem.Value) [(some (@PySem.Value.ref 15)), none, (some (@PySem.Value.str (@PySem.Str.ofString "WeighError") 189)), (some (@PySem.Value.str (@PySem.Str.ofString "WeighError") 197)), (some (@PySem.Value.builtin "ValueError.__new__")), (some (@PySem.Value.bool @Bool.true))]))
noncomputable def sh10 (P : Params)  : Obj := (@PySem.Obj.mk (@PySem.Value.type "tuple") none (@PySem.Data.seq (@List.toArray @PySem.Value [(@PySem.Value.ref 24)]) 0) (@List.toArray (@Option @PySem.Value) []))
noncomputable def o28 (P : Params) : Obj := sh10 P 
noncomputable def o29 (P : Params) : Obj := sh5 P 
noncomputable def o30 (P : Params) : Obj := sh6 P 214 216 "Nought" 215 218 4 217 219 35
noncomputable def o31 (P : Params) : Obj := sh0 P 
noncomputable def o32 (P : Params) : Obj := sh1 P 
noncomputable def o33 (P : Params) : Obj := sh2 P "Nought" 209 210 211 4 31 32 212 213
noncomputable def o34 (P : Params) : Obj := sh3 P 33 30 "weighwords.errors" 187
noncomputable def o35 (P : Params) : Obj := sh0 P 
noncomputable def sh11 (P : Params) (a0 : Nat) (a1 : Nat) (a2 : Nat) (a3 : Nat) (a4 : Nat) (a5 : Nat) (a6 : Nat) : Obj := (@PySem.Obj.mk (@PySem.Value.type "dict") none (@PySem.Data.dict (@List.toArray @PySem.DictEntry [(dE P "__module__" a0 (@PySem.Value.str (@PySem.Str.ofString "weighwords.errors") 187)), (dE P "__firstlineno__" a1 (@PySem.Value.int (@OfNat.ofNat @Int a2 (@instOfNat a2)) a3)), (dE P "__static_attributes__" a4 (@PySem.Value.ref a5)), (dE P "__doc__" a6 @PySem.Value.none)]) 2) (@List.toArray (@Option @PySem.Value) []))
noncomputable def o36 (P : Params) : Obj := sh11 P 214 218 4 217 219 35 220
noncomputable def sh12 (P : Params) (a0 : String) (a1 : Nat) (a2 : Nat) (a3 : Nat) (a4 : Nat) (a5 : Nat) : Obj := (@PySem.Obj.mk (@PySem.Value.type "type") none (@PySem.Data.cls (@PySem.ClassData.mk (@PySem.Str.ofString a0) [(@PySem.Value.ref 24)] [(@PySem.Value.ref a1), (@PySem.Value.ref 24), (@PySem.Value.type "ValueError"), (@PySem.Value.type "Exception"), (@PySem.Value.type "BaseException"), (@PySem.Value.type "object")] a2 (@PySem.Str.ofString a0) @Bool.true [] [] @Bool.false none @Bool.false)) (@List.toArray (@Option @PySem.Value) [(some (@PySem.Value.ref a3)), none, (some (@PySem.Value.str (@PySem.Str.ofString a0) a4)), (some (@PySem.Value.str (@PySem.Str.ofString a0) a5)), (some (@PySem.Value.builtin "ValueError.__new__")), (some (@PySem.Value.bool @Bool.true))]))
noncomputable def o37 (P : Params) : Obj := sh12 P "Nought" 37 36 28 207 215
noncomputable def o38 (P : Params) : Obj := sh8 P 37
noncomputable def o39 (P : Params) : Obj := sh9 P 37
noncomputable def o3_2 (P : Params) : Obj := (@PySem.Obj.mk (@PySem.Value.type "dict") none (@PySem.Data.dict (@List.toArray @PySem.DictEntry [(dE P "__name__" 165 (@PySem.Value.str (@PySem.Str.ofString "weighwords.errors") 187)), (dE P "__doc__" 166 @PySem.Value.none), (dE P "__package__" 167 @PySem.Value.none), (dE P "__loader__" 168 (@PySem.Value.builtin "__main__.__loader__#opaque")), (dE P "__spec__" 169 @PySem.Value.none), (dE P "__annotations__" 170 (@PySem.Value.ref 6)), (dE P "__builtins__" 171 (@PySem.Value.ref 4)), (dE P "__file__" 173 (@PySem.Value.str (@PySem.Str.ofString "/claim/cut.py") 172)), (dE P "__cached__" 174 @PySem.Value.none), (dE P "WeighError" 206 (@PySem.Value.ref 24)), (dE P "Nought" 222 (@PySem.Value.ref 37)), (dE P "NoText" 238 (@PySem.Value.ref 49))]) 12) (@List.toArray (@Option @PySem.Value) []))
noncomputable def o12_2 (P : Params) : Obj := (@PySem.Obj.mk @PySem.Value.none none (@PySem.Data.fields (@List.toArray @PySem.Value [(@PySem.Value.int (@OfNat.ofNat @Int 2 (@instOfNat 2)) 0), (@PySem.Value.int (@OfNat.ofNat @Int 0 (@instOfNat 0)) 0), (@PySem.Value.ref 20), (@PySem.Value.int (@OfNat.ofNat @Int 4 (@instOfNat 4)) 0), (@PySem.Value.int (@OfNat.ofNat @Int 0 (@instOfNat 0)) 0), (@PySem.Value.ref 33), (@PySem.Value.int (@OfNat.ofNat @Int 6 (@instOfNat 6)) 0), (@PySem.Value.int (@OfNat.ofNat @Int 0 (@instOfNat 0)) 0), (@PySem.Value.ref 45)])) (@List.toArray (@Option @PySem.Value) []))
noncomputable def o24_2 (P : Params) : Obj := (@PySem.Obj.mk (@PySem.Value.type "type") none (@PySem.Data.cls (@PySem.ClassData.mk (@PySem.Str.ofString "WeighError") [(@PySem.Value.type "ValueError")] [(@PySem.Value.ref 24), (@PySem.Value.type "ValueError"), (@PySem.Value.type "Exception"), (@PySem.Value.type "BaseException"), (@PySem.Value.type "object")] 23 (@PySem.Str.ofString "WeighError") @Bool.true [] [(@PySem.Value.ref 37), (@PySem.Value.ref 49)] @Bool.false none @Bool.false)) (@List.toArray (@Option @PySem.Value) [(some (@PySem.Value.ref 15)), none, (some (@PySem.Value.str (@PySem.Str.ofString "WeighError") 189)), (some (@PySem.Value.str (@PySem.Str.ofString "WeighError") 197)), (some (@PySem.Value.builtin "ValueError.__new__")), (some (@PySem.Value.bool @Bool.true))]))
noncomputable def o40 (P : Params) : Obj := sh10 P 
noncomputable def o41 (P : Params) : Obj := sh5 P 
noncomputable def o42 (P : Params) : Obj := sh6 P 230 232 "NoText" 231 234 6 233 235 47
noncomputable def o43 (P : Params) : Obj := sh0 P 
noncomputable def o44 (P : Params) : Obj := sh1 P 
noncomputable def o45 (P : Params) : Obj := sh2 P "NoText" 225 226 227 6 43 44 228 229
noncomputable def o46 (P : Params) : Obj := sh3 P 45 42 "weighwords.errors" 187
noncomputable def o47 (P : Params) : Obj := sh0 P 
noncomputable def o48 (P : Params) : Obj := sh11 P 230 234 6 233 235 47 236
noncomputable def o49 (P : Params) : Obj := sh12 P "NoText" 49 48 40 223 231
noncomputable def o50 (P : Params) : Obj := sh8 P 49
noncomputable def o51 (P : Params) : Obj := sh9 P 49
noncomputable def o3_3 (P : Params) : Obj := (@PySem.Obj.mk (@PySem.Value.type "dict") none (@PySem.Data.dict (@List.toArray @PySem.DictEntry [(dE P "__name__" 165 (@PySem.Value.str (@PySem.Str.ofString "weighwords.errors") 187)), (dE P "__doc__" 166 @PySem.Value.none), (dE P "__package__" 167 @PySem.Value.none), (dE P "__loader__" 168 (@PySem.Value.builtin "__main__.__loader__#opaque")), (dE P "__spec__" 169 @PySem.Value.none), (dE P "__annotations__" 170 (@PySem.Value.ref 6)), (dE P "__builtins__" 171 (@PySem.Value.ref 4)), (dE P "__file__" 173 (@PySem.Value.str (@PySem.Str.ofString "/claim/cut.py") 172)), (dE P "__cached__" 174 @PySem.Value.none), (dE P "WeighError" 206 (@PySem.Value.ref 24)), (dE P "Nought" 222 (@PySem.Value.ref 37)), (dE P "NoText" 238 (@PySem.Value.ref 49)), (dE P "NoRow" 254 (@PySem.Value.ref 61))]) 13) (@List.toArray (@Option @PySem.Value) []))
noncomputable def o12_3 (P : Params) : Obj := (@PySem.Obj.mk @PySem.Value.none none (@PySem.Data.fields (@List.toArray @PySem.Value [(@PySem.Value.int (@OfNat.ofNat @Int 2 (@instOfNat 2)) 0), (@PySem.Value.int (@OfNat.ofNat @Int 0 (@instOfNat 0)) 0), (@PySem.Value.ref 20), (@PySem.Value.int (@OfNat.ofNat @Int 4 (@instOfNat 4)) 0), (@PySem.Value.int (@OfNat.ofNat @Int 0 (@instOfNat 0)) 0), (@PySem.Value.ref 33), (@PySem.Value.int (@OfNat.ofNat @Int 6 (@instOfNat 6)) 0), (@PySem.Value.int (@OfNat.ofNat @Int 0 (@instOfNat 0)) 0), (@PySem.Value.ref 45), (@PySem.Value.int (@OfNat.ofNat @Int 8 (@instOfNat 8)) 0), (@PySem.Value.int (@OfNat.ofNat @Int 0 (@instOfNat 0)) 0), (@PySem.Value.ref 57)])) (@List.toArray (@Option @PySem.Value) []))
noncomputable def o24_3 (P : Params) : Obj := (@PySem.Obj.mk (@PySem.Value.type "type") none (@PySem.Data.cls (@PySem.ClassData.mk (@PySem.Str.ofString "WeighError") [(@PySem.Value.type "ValueError")] [(@PySem.Value.ref 24), (@PySem.Value.type "ValueError"), (@PySem.Value.type "Exception"), (@PySem.Value.type "BaseException"), (@PySem.Value.type "object")] 23 (@PySem.Str.ofString "WeighError") @Bool.true [] [(@PySem.Value.ref 37), (@PySem.Value.ref 49), (@PySem.Value.ref 61)] @Bool.false none @Bool.false)) (@List.toArray (@Option @PySem.Value) [(some (@PySem.Value.ref 15)), none, (some (@PySem.Value.str (@PySem.Str.ofString "WeighError") 189)), (some (@PySem.Value.str (@PySem.Str.ofString "WeighError") 197)), (some (@PySem.Value.builtin "ValueError.__new__")), (some (@PySem.Value.bool @Bool.true))]))
noncomputable def o52 (P : Params) : Obj := sh10 P 
noncomputable def o53 (P : Params) : Obj := sh5 P 
noncomputable def o54 (P : Params) : Obj := sh6 P 246 248 "NoRow" 247 250 8 249 251 59
noncomputable def o55 (P : Params) : Obj := sh0 P 
noncomputable def o56 (P : Params) : Obj := sh1 P 
noncomputable def o57 (P : Params) : Obj := sh2 P "NoRow" 241 242 243 8 55 56 244 245
noncomputable def o58 (P : Params) : Obj := sh3 P 57 54 "weighwords.errors" 187
noncomputable def o59 (P : Params) : Obj := sh0 P 
noncomputable def o60 (P : Params) : Obj := sh11 P 246 250 8 249 251 59 252
noncomputable def o61 (P : Params) : Obj := sh12 P "NoRow" 61 60 52 239 247
noncomputable def o62 (P : Params) : Obj := sh8 P 61
noncomputable def o63 (P : Params) : Obj := sh9 P 61
noncomputable def o3_4 (P : Params) : Obj := (@PySem.Obj.mk (@PySem.Value.type "dict") none (@PySem.Data.dict (@List.toArray @PySem.DictEntry [(dE P "__name__" 165 (@PySem.Value.str (@PySem.Str.ofString "weighwords.errors") 187)), (dE P "__doc__" 166 @PySem.Value.none), (dE P "__package__" 167 @PySem.Value.none), (dE P "__loader__" 168 (@PySem.Value.builtin "__main__.__loader__#opaque")), (dE P "__spec__" 169 @PySem.Value.none), (dE P "__annotations__" 170 (@PySem.Value.ref 6)), (dE P "__builtins__" 171 (@PySem.Value.ref 4)), (dE P "__file__" 173 (@PySem.Value.str (@PySem.Str.ofString "/claim/cut.py") 172)), (dE P "__cached__" 174 @PySem.Value.none), (dE P "WeighError" 206 (@PySem.Value.ref 24)), (dE P "Nought" 222 (@PySem.Value.ref 37)), (dE P "NoText" 238 (@PySem.Value.ref 49)), (dE P "NoRow" 254 (@PySem.Value.ref 61)), (dE P "NoMachine" 270 (@PySem.Value.ref 73))]) 14) (@List.toArray (@Option @PySem.Value) []))
noncomputable def o12_4 (P : Params) : Obj := (@PySem.Obj.mk @PySem.Value.none none (@PySem.Data.fields (@List.toArray @PySem.Value [(@PySem.Value.int (@OfNat.ofNat @Int 2 (@instOfNat 2)) 0), (@PySem.Value.int (@OfNat.ofNat @Int 0 (@instOfNat 0)) 0), (@PySem.Value.ref 20), (@PySem.Value.int (@OfNat.ofNat @Int 4 (@instOfNat 4)) 0), (@PySem.Value.int (@OfNat.ofNat @Int 0 (@instOfNat 0)) 0), (@PySem.Value.ref 33), (@PySem.Value.int (@OfNat.ofNat @Int 6 (@instOfNat 6)) 0), (@PySem.Value.int (@OfNat.ofNat @Int 0 (@instOfNat 0)) 0), (@PySem.Value.ref 45), (@PySem.Value.int (@OfNat.ofNat @Int 8 (@instOfNat 8)) 0), (@PySem.Value.int (@OfNat.ofNat @Int 0 (@instOfNat 0)) 0), (@PySem.Value.ref 57), (@PySem.Value.int (@OfNat.ofNat @Int 10 (@instOfNat 10)) 0), (@PySem.Value.int (@OfNat.ofNat @Int 0 (@instOfNat 0)) 0), (@PySem.Value.ref 69)])) (@List.toArray (@Option @PySem.Value) []))
noncomputable def o24_4 (P : Params) : Obj := (@PySem.Obj.mk (@PySem.Value.type "type") none (@PySem.Data.cls (@PySem.ClassData.mk (@PySem.Str.ofString "WeighError") [(@PySem.Value.type "ValueError")] [(@PySem.Value.ref 24), (@PySem.Value.type "ValueError"), (@PySem.Value.type "Exception"), (@PySem.Value.type "BaseException"), (@PySem.Value.type "object")] 23 (@PySem.Str.ofString "WeighError") @Bool.true [] [(@PySem.Value.ref 37), (@PySem.Value.ref 49), (@PySem.Value.ref 61), (@PySem.Value.ref 73)] @Bool.false none @Bool.false)) (@List.toArray (@Option @PySem.Value) [(some (@PySem.Value.ref 15)), none, (some (@PySem.Value.str (@PySem.Str.ofString "WeighError") 189)), (some (@PySem.Value.str (@PySem.Str.ofString "WeighError") 197)), (some (@PySem.Value.builtin "ValueError.__new__")), (some (@PySem.Value.bool @Bool.true))]))
noncomputable def o64 (P : Params) : Obj := sh10 P 
noncomputable def o65 (P : Params) : Obj := sh5 P 
noncomputable def o66 (P : Params) : Obj := sh6 P 262 264 "NoMachine" 263 266 10 265 267 71
noncomputable def o67 (P : Params) : Obj := sh0 P 
noncomputable def o68 (P : Params) : Obj := sh1 P 
noncomputable def o69 (P : Params) : Obj := sh2 P "NoMachine" 257 258 259 10 67 68 260 261
noncomputable def o70 (P : Params) : Obj := sh3 P 69 66 "weighwords.errors" 187
noncomputable def o71 (P : Params) : Obj := sh0 P 
noncomputable def o72 (P : Params) : Obj := sh11 P 262 266 10 265 267 71 268
noncomputable def o73 (P : Params) : Obj := sh12 P "NoMachine" 73 72 64 255 263
noncomputable def o74 (P : Params) : Obj := sh8 P 73
noncomputable def o75 (P : Params) : Obj := sh9 P 73
noncomputable def o3_5 (P : Params) : Obj := (@PySem.Obj.mk (@PySem.Value.type "dict") none (@PySem.Data.dict (@List.toArray @PySem.DictEntry [(dE P "__name__" 165 (@PySem.Value.str (@PySem.Str.ofString "weighwords.errors") 187)), (dE P "__doc__" 166 @PySem.Value.none), (dE P "__package__" 167 @PySem.Value.none), (dE P "__loader__" 168 (@PySem.Value.builtin "__main__.__loader__#opaque")), (dE P "__spec__" 169 @PySem.Value.none), (dE P "__annotations__" 170 (@PySem.Value.ref 6)), (dE P "__builtins__" 171 (@PySem.Value.ref 4)), (dE P "__file__" 173 (@PySem.Value.str (@PySem.Str.ofString "/claim/cut.py") 172)), (dE P "__cached__" 174 @PySem.Value.none), (dE P "WeighError" 206 (@PySem.Value.ref 24)), (dE P "Nought" 222 (@PySem.Value.ref 37)), (dE P "NoText" 238 (@PySem.Value.ref 49)), (dE P "NoRow" 254 (@PySem.Value.ref 61)), (dE P "NoMachine" 270 (@PySem.Value.ref 73)), (dE P "NoWord" 286 (@PySem.Value.ref 85))]) 15) (@List.toArray (@Option @PySem.Value) []))
noncomputable def o12_5 (P : Params) : Obj := (@PySem.Obj.mk @PySem.Value.none none (@PySem.Data.fields (@List.toArray @PySem.Value [(@PySem.Value.int (@OfNat.ofNat @Int 2 (@instOfNat 2)) 0), (@PySem.Value.int (@OfNat.ofNat @Int 0 (@instOfNat 0)) 0), (@PySem.Value.ref 20), (@PySem.Value.int (@OfNat.ofNat @Int 4 (@instOfNat 4)) 0), (@PySem.Value.int (@OfNat.ofNat @Int 0 (@instOfNat 0)) 0), (@PySem.Value.ref 33), (@PySem.Value.int (@OfNat.ofNat @Int 6 (@instOfNat 6)) 0), (@PySem.Value.int (@OfNat.ofNat @Int 0 (@instOfNat 0)) 0), (@PySem.Value.ref 45), (@PySem.Value.int (@OfNat.ofNat @Int 8 (@instOfNat 8)) 0), (@PySem.Value.int (@OfNat.ofNat @Int 0 (@instOfNat 0)) 0), (@PySem.Value.ref 57), (@PySem.Value.int (@OfNat.ofNat @Int 10 (@instOfNat 10)) 0), (@PySem.Value.int (@OfNat.ofNat @Int 0 (@instOfNat 0)) 0), (@PySem.Value.ref 69), (@PySem.Value.int (@OfNat.ofNat @Int 12 (@instOfNat 12)) 0), (@PySem.Value.int (@OfNat.ofNat @Int 0 (@instOfNat 0)) 0), (@PySem.Value.ref 81)])) (@List.toArray (@Option @PySem.Value) []))
noncomputable def o24_5 (P : Params) : Obj := (@PySem.Obj.mk (@PySem.Value.type "type") none (@PySem.Data.cls (@PySem.ClassData.mk (@PySem.Str.ofString "WeighError") [(@PySem.Value.type "ValueError")] [(@PySem.Value.ref 24), (@PySem.Value.type "ValueError"), (@PySem.Value.type "Exception"), (@PySem.Value.type "BaseException"), (@PySem.Value.type "object")] 23 (@PySem.Str.ofString "WeighError") @Bool.true [] [(@PySem.Value.ref 37), (@PySem.Value.ref 49), (@PySem.Value.ref 61), (@PySem.Value.ref 73), (@PySem.Value.ref 85)] @Bool.false none @Bool.false)) (@List.toArray (@Option @PySem.Value) [(some (@PySem.Value.ref 15)), none, (some (@PySem.Value.str (@PySem.Str.ofString "WeighError") 189)), (some (@PySem.Value.str (@PySem.Str.ofString "WeighError") 197)), (some (@PySem.Value.builtin "ValueError.__new__")), (some (@PySem.Value.bool @Bool.true))]))
noncomputable def o76 (P : Params) : Obj := sh10 P 
noncomputable def o77 (P : Params) : Obj := sh5 P 
noncomputable def o78 (P : Params) : Obj := sh6 P 278 280 "NoWord" 279 282 12 281 283 83
noncomputable def o79 (P : Params) : Obj := sh0 P 
noncomputable def o80 (P : Params) : Obj := sh1 P 
noncomputable def o81 (P : Params) : Obj := sh2 P "NoWord" 273 274 275 12 79 80 276 277
noncomputable def o82 (P : Params) : Obj := sh3 P 81 78 "weighwords.errors" 187
noncomputable def o83 (P : Params) : Obj := sh0 P 
noncomputable def o84 (P : Params) : Obj := sh11 P 278 282 12 281 283 83 284
noncomputable def o85 (P : Params) : Obj := sh12 P "NoWord" 85 84 76 271 279
noncomputable def o86 (P : Params) : Obj := sh8 P 85
noncomputable def o87 (P : Params) : Obj := sh9 P 85
noncomputable def o3_6 (P : Params) : Obj := (@PySem.Obj.mk (@PySem.Value.type "dict") none (@PySem.Data.dict (@List.toArray @PySem.DictEntry [(dE P "__name__" 165 (@PySem.Value.str (@PySem.Str.ofString "weighwords.errors") 187)), (dE P "__doc__" 166 @PySem.Value.none), (dE P "__package__" 167 @PySem.Value.none), (dE P "__loader__" 168 (@PySem.Value.builtin "__main__.__loader__#opaque")), (dE P "__spec__" 169 @PySem.Value.none), (dE P "__annotations__" 170 (@PySem.Value.ref 6)), (dE P "__builtins__" 171 (@PySem.Value.ref 4)), (dE P "__file__" 173 (@PySem.Value.str (@PySem.Str.ofString "/claim/cut.py") 172)), (dE P "__cached__" 174 @PySem.Value.none), (dE P "WeighError" 206 (@PySem.Value.ref 24)), (dE P "Nought" 222 (@PySem.Value.ref 37)), (dE P "NoText" 238 (@PySem.Value.ref 49)), (dE P "NoRow" 254 (@PySem.Value.ref 61)), (dE P "NoMachine" 270 (@PySem.Value.ref 73)), (dE P "NoWord" 286 (@PySem.Value.ref 85)), (dE P "OtherSigns" 302 (@PySem.Value.ref 97))]) 16) (@List.toArray (@Option @PySem.Value) []))
noncomputable def o12_6 (P : Params) : Obj := (@PySem.Obj.mk @PySem.Value.none none (@PySem.Data.fields (@List.toArray @PySem.Value [(@PySem.Value.int (@OfNat.ofNat @Int 2 (@instOfNat 2)) 0), (@PySem.Value.int (@OfNat.ofNat @Int 0 (@instOfNat 0)) 0), (@PySem.Value.ref 20), (@PySem.Value.int (@OfNat.ofNat @Int 4 (@instOfNat 4)) 0), (@PySem.Value.int (@OfNat.ofNat @Int 0 (@instOfNat 0)) 0), (@PySem.Value.ref 33), (@PySem.Value.int (@OfNat.ofNat @Int 6 (@instOfNat 6)) 0), (@PySem.Value.int (@OfNat.ofNat @Int 0 (@instOfNat 0)) 0), (@PySem.Value.ref 45), (@PySem.Value.int (@OfNat.ofNat @Int 8 (@instOfNat 8)) 0), (@PySem.Value.int (@OfNat.ofNat @Int 0 (@instOfNat 0)) 0), (@PySem.Value.ref 57), (@PySem.Value.int (@OfNat.ofNat @Int 10 (@instOfNat 10)) 0), (@PySem.Value.int (@OfNat.ofNat @Int 0 (@instOfNat 0)) 0), (@PySem.Value.ref 69), (@PySem.Value.int (@OfNat.ofNat @Int 12 (@instOfNat 12)) 0), (@PySem.Value.int (@OfNat.ofNat @Int 0 (@instOfNat 0)) 0), (@PySem.Value.ref 81), (@PySem.Value.int (@OfNat.ofNat @Int 14 (@instOfNat 14)) 0), (@PySem.Value.int (@OfNat.ofNat @Int 0 (@instOfNat 0)) 0), (@PySem.Value.ref 93)])) (@List.toArray (@Option @PySem.Value) []))
noncomputable def o24_6 (P : Params) : Obj := (@PySem.Obj.mk (@PySem.Value.type "type") none (@PySem.Data.cls (@PySem.ClassData.mk (@PySem.Str.ofString "WeighError") [(@PySem.Value.type "ValueError")] [(@PySem.Value.ref 24), (@PySem.Value.type "ValueError"), (@PySem.Value.type "Exception"), (@PySem.Value.type "BaseException"), (@PySem.Value.type "object")] 23 (@PySem.Str.ofString "WeighError") @Bool.true [] [(@PySem.Value.ref 37), (@PySem.Value.ref 49), (@PySem.Value.ref 61), (@PySem.Value.ref 73), (@PySem.Value.ref 85), (@PySem.Value.ref 97)] @Bool.false none @Bool.false)) (@List.toArray (@Option @PySem.Value) [(some (@PySem.Value.ref 15)), none, (some (@PySem.Value.str (@PySem.Str.ofString "WeighError") 189)), (some (@PySem.Value.str (@PySem.Str.ofString "WeighError") 197)), (some (@PySem.Value.builtin "ValueError.__new__")), (some (@PySem.Value.bool @Bool.true))]))
noncomputable def o88 (P : Params) : Obj := sh10 P 
noncomputable def o89 (P : Params) : Obj := sh5 P 
noncomputable def o90 (P : Params) : Obj := sh6 P 294 296 "OtherSigns" 295 298 14 297 299 95
noncomputable def o91 (P : Params) : Obj := sh0 P 
noncomputable def o92 (P : Params) : Obj := sh1 P 
noncomputable def o93 (P : Params) : Obj := sh2 P "OtherSigns" 289 290 291 14 91 92 292 293
noncomputable def o94 (P : Params) : Obj := sh3 P 93 90 "weighwords.errors" 187
noncomputable def o95 (P : Params) : Obj := sh0 P 
noncomputable def o96 (P : Params) : Obj := sh11 P 294 298 14 297 299 95 300
noncomputable def o97 (P : Params) : Obj := sh12 P "OtherSigns" 97 96 88 287 295
noncomputable def o98 (P : Params) : Obj := sh8 P 97
noncomputable def o99 (P : Params) : Obj := sh9 P 97
noncomputable def o3_7 (P : Params) : Obj := (@PySem.Obj.mk (@PySem.Value.type "dict") none (@PySem.Data.dict (@List.toArray @PySem.DictEntry [(dE P "__name__" 165 (@PySem.Value.str (@PySem.Str.ofString "weighwords.shares") 319)), (dE P "__doc__" 166 @PySem.Value.none), (dE P "__package__" 167 @PySem.Value.none), (dE P "__loader__" 168 (@PySem.Value.builtin "__main__.__loader__#opaque")), (dE P "__spec__" 169 @PySem.Value.none), (dE P "__annotations__" 170 (@PySem.Value.ref 6)), (dE P "__builtins__" 171 (@PySem.Value.ref 4)), (dE P "__file__" 173 (@PySem.Value.str (@PySem.Str.ofString "/claim/cut.py") 172)), (dE P "__cached__" 174 @PySem.Value.none), (dE P "WeighError" 206 (@PySem.Value.ref 24)), (dE P "Nought" 222 (@PySem.Value.ref 37)), (dE P "NoText" 238 (@PySem.Value.ref 49)), (dE P "NoRow" 254 (@PySem.Value.ref 61)), (dE P "NoMachine" 270 (@PySem.Value.ref 73)), (dE P "NoWord" 286 (@PySem.Value.ref 85)), (dE P "OtherSigns" 302 (@PySem.Value.ref 97)), (dE P "TooMany" 318 (@PySem.Value.ref 109)), (dE P "NOUGHT" 323 (@PySem.Value.ref 112)), (dE P "is_whole" 330 (@PySem.Value.ref 119)), (dE P "common" 338 (@PySem.Value.ref 126)), (dE P "is_share" 345 (@PySem.Value.ref 133)), (dE P "share" 354 (@PySem.Value.ref 140)), (dE P "plus" 362 (@PySem.Value.ref 147))]) 23) (@List.toArray (@Option @PySem.Value) []))
noncomputable def o12_7 (P : Params) : Obj := (@PySem.Obj.mk @PySem.Value.none none (@PySem.Data.fields (@List.toArray @PySem.Value [(@PySem.Value.int (@OfNat.ofNat @Int 2 (@instOfNat 2)) 0), (@PySem.Value.int (@OfNat.ofNat @Int 0 (@instOfNat 0)) 0), (@PySem.Value.ref 20), (@PySem.Value.int (@OfNat.ofNat @Int 4 (@instOfNat 4)) 0), (@PySem.Value.int (@OfNat.ofNat @Int 0 (@instOfNat 0)) 0), (@PySem.Value.ref 33), (@PySem.Value.int (@OfNat.ofNat @Int 6 (@instOfNat 6)) 0), (@PySem.Value.int (@OfNat.ofNat @Int 0 (@instOfNat 0)) 0), (@PySem.Value.ref 45), (@PySem.Value.int (@OfNat.ofNat @Int 8 (@instOfNat 8)) 0), (@PySem.Value.int (@OfNat.ofNat @Int 0 (@instOfNat 0)) 0), (@PySem.Value.ref 57), (@PySem.Value.int (@OfNat.ofNat @Int 10 (@instOfNat 10)) 0), (@PySem.Value.int (@OfNat.ofNat @Int 0 (@instOfNat 0)) 0), (@PySem.Value.ref 69), (@PySem.Value.int (@OfNat.ofNat @Int 12 (@instOfNat 12)) 0), (@PySem.Value.int (@OfNat.ofNat @Int 0 (@instOfNat 0)) 0), (@PySem.Value.ref 81), (@PySem.Value.int (@OfNat.ofNat @Int 14 (@instOfNat 14)) 0), (@PySem.Value.int (@OfNat.ofNat @Int 0 (@instOfNat 0)) 0), (@PySem.Value.ref 93), (@PySem.Value.int (@OfNat.ofNat @Int 16 (@instOfNat 16)) 0), (@PySem.Value.int (@OfNat.ofNat @Int 0 (@instOfNat 0)) 0), (@PySem.Value.ref 105), (@PySem.Value.int (@OfNat.ofNat @Int 20 (@instOfNat 20)) 0), (@PySem.Value.int (@OfNat.ofNat @Int 0 (@instOfNat 0)) 0), (@PySem.Value.ref 118), (@PySem.Value.int (@OfNat.ofNat @Int 22 (@instOfNat 22)) 0), (@PySem.Value.int (@OfNat.ofNat @Int 0 (@instOfNat 0)) 0), (@PySem.Value.ref 125), (@PySem.Value.int (@OfNat.ofNat @Int 26 (@instOfNat 26)) 0), (@PySem.Value.int (@OfNat.ofNat @Int 0 (@instOfNat 0)) 0), (@PySem.Value.ref 132), (@PySem.Value.int (@OfNat.ofNat @Int 30 (@instOfNat 30)) 0), (@PySem.Value.int (@OfNat.ofNat @Int 0 (@instOfNat 0)) 0), (@PySem.Value.ref 139), (@PySem.Value.int (@OfNat.ofNat @Int 37 (@instOfNat 37)) 0), (@PySem.Value.int (@OfNat.ofNat @Int 0 (@instOfNat 0)) 0), (@PySem.Value.ref 146)])) (@List.toArray (@Option @PySem.Value) []))
noncomputable def o24_7 (P : Params) : Obj := (@PySem.Obj.mk (@PySem.Value.type "type") none (@PySem.Data.cls (@PySem.ClassData.mk (@PySem.Str.ofString "WeighError") [(@PySem.Value.type "ValueError")] [(@PySem.Value.ref 24), (@PySem.Value.type "ValueError"), (@PySem.Value.type "Exception"), (@PySem.Value.type "BaseException"), (@PySem.Value.type "object")] 23 (@PySem.Str.ofString "WeighError") @Bool.true [] [(@PySem.Value.ref 37), (@PySem.Value.ref 49), (@PySem.Value.ref 61), (@PySem.Value.ref 73), (@PySem.Value.ref 85), (@PySem.Value.ref 97), (@PySem.Value.ref 109)] @Bool.false none @Bool.false)) (@List.toArray (@Option @PySem.Value) [(some (@PySem.Value.ref 15)), none, (some (@PySem.Value.str (@PySem.Str.ofString "WeighError") 189)), (some (@PySem.Value.str (@PySem.Str.ofString "WeighError") 197)), (some (@PySem.Value.builtin "ValueError.__new__")), (some (@PySem.Value.bool @Bool.true))]))
noncomputable def o100 (P : Params) : Obj := sh10 P 
noncomputable def o101 (P : Params) : Obj := sh5 P 
noncomputable def o102 (P : Params) : Obj := sh6 P 310 312 "TooMany" 311 314 16 313 315 107
noncomputable def o103 (P : Params) : Obj := sh0 P 
noncomputable def o104 (P : Params) : Obj := sh1 P 
noncomputable def o105 (P : Params) : Obj := sh2 P "TooMany" 305 306 307 16 103 104 308 309
noncomputable def o106 (P : Params) : Obj := sh3 P 105 102 "weighwords.errors" 187
noncomputable def o107 (P : Params) : Obj := sh0 P 
noncomputable def o108 (P : Params) : Obj := sh11 P 310 314 16 313 315 107 316
noncomputable def o109 (P : Params) : Obj := sh12 P "TooMany" 109 108 100 303 311
noncomputable def o110 (P : Params) : Obj := sh8 P 109
noncomputable def o111 (P : Params) : Obj := sh9 P 109
noncomputable def o112 (P : Params) : Obj := (@PySem.Obj.mk (@PySem.Value.type "tuple") none (@PySem.Data.seq (@List.toArray @PySem.Value [(@PySem.Value.int (@OfNat.ofNat @Int 0 (@instOfNat 0)) 321), (@PySem.Value.int (@OfNat.ofNat @Int 1 (@instOfNat 1)) 322)]) 0) (@List.toArray (@Option @PySem.Value) []))
noncomputable def o113 (P : Params) : Obj := sh0 P 
noncomputable def o114 (P : Params) : Obj := sh1 P 
noncomputable def sh13 (P : Params) (a0 : String) (a1 : Nat) : Obj := (@PySem.Obj.mk (@PySem.Value.type "tuple") none (@PySem.Data.seq (@List.toArray @PySem.Value [(@PySem.Value.str (@PySem.Str.ofString a0) a1)]) 0) (@List.toArray (@Option @PySem.Value) []))
noncomputable def o115 (P : Params) : Obj := sh13 P "thing" 327
noncomputable def o116 (P : Params) : Obj := sh0 P 
noncomputable def sh14 (P : Params) (a0 : String) (a1 : Nat) (a2 : Nat) : Obj := (@PySem.Obj.mk @PySem.Value.none none (@PySem.Data.func (@PySem.FuncData.mk (@PySem.Str.ofString a0) (@PySem.Str.ofString a0) (@fnA (@stAt @PW a1)) (@PySem.FuncBody.stmts (@fnB (@stAt @PW a1))) (@fnS (@stAt @PW a2)) 0 [] @PySem.Value.none @PySem.Value.none @PySem.Value.none @PySem.Value.none none @PySem.Value.none @PySem.Value.none 0)) (@List.toArray (@Option @PySem.Value) []))
noncomputable def o117 (P : Params) : Obj := sh14 P "is_whole" 11 11
noncomputable def sh15 (P : Params) (a0 : String) (a1 : Nat) (a2 : Nat) (a3 : Nat) (a4 : Nat) (a5 : Nat) (a6 : Nat) (a7 : Nat) (a8 : Nat) (a9 : Nat) (a10 : Nat) (a11 : Nat) (a12 : Nat) : Obj := (@PySem.Obj.mk (@PySem.Value.type "code") none (@PySem.Data.fields (@List.toArray @PySem.Value [(@PySem.Value.str (@PySem.Str.ofString a0) a1), (@PySem.Value.str (@PySem.Str.ofString a0) a2), (@PySem.Value.str (@PySem.Str.ofString "/claim/cut.py") a3), (@PySem.Value.int (@OfNat.ofNat @Int a4 (@instOfNat a4)) 0), (@PySem.Value.int (@OfNat.ofNat @Int a5 (@instOfNat a5)) 0), (@PySem.Value.int (@OfNat.ofNat @Int 0 (@instOfNat 0)) 0), (@PySem.Value.int (@OfNat.ofNat @Int 0 (@instOfNat 0)) 0), (@PySem.Value.int (@OfNat.ofNat @Int 3 (@instOfNat 3)) 0), (@PySem.Value.ref a6), (@PySem.Value.bool @Bool.true), (@PySem.Value.int (@OfNat.ofNat @Int 181 (@instOfNat 181)) 0), (@PySem.Value.ref a7), @PySem.Value.none, (@PySem.Value.ref a8), (@PySem.Value.ref a9), (@PySem.Value.ref a10), (@PySem.Value.int (@OfNat.ofNat @Int a11 (@instOfNat a11)) 0), (@PySem.Value.int (@OfNat.ofNat @Int a4 (@instOfNat a4)) 0), (@PySem.Value.str (@PySem.Str.ofString "/claim/cut.py") a12)])) (@List.toArray (@Option @PySem.Value) []))
noncomputable def o118 (P : Params) : Obj := sh15 P "is_whole" 324 325 326 20 1 113 114 115 116 117 328 329
noncomputable def sh16 (P : Params) (a0 : String) (a1 : Nat) (a2 : Nat) (a3 : String) (a4 : Nat) (a5 : Nat) : Obj := (@PySem.Obj.mk (@PySem.Value.type "function") none (@PySem.Data.func (@PySem.FuncData.mk (@PySem.Str.ofString a0) (@PySem.Str.ofString a0) (@fnA (@stAt @PW a1)) (@PySem.FuncBody.stmts (@fnB (@stAt @PW a1))) (@fnS (@stAt @PW a2)) 3 [] @PySem.Value.none @PySem.Value.none @PySem.Value.none (@PySem.Value.str (@PySem.Str.ofString a3) a4) none (@PySem.Value.ref a5) @PySem.Value.none 0)) (@List.toArray (@Option @PySem.Value) []))
noncomputable def o119 (P : Params) : Obj := sh16 P "is_whole" 11 11 "weighwords.shares" 319 118
noncomputable def o120 (P : Params) : Obj := sh0 P 
noncomputable def o121 (P : Params) : Obj := sh1 P 
noncomputable def sh17 (P : Params) (a0 : String) (a1 : Nat) (a2 : String) (a3 : Nat) : Obj := (@PySem.Obj.mk (@PySem.Value.type "tuple") none (@PySem.Data.seq (@List.toArray @PySem.Value [(@PySem.Value.str (@PySem.Str.ofString a0) a1), (@PySem.Value.str (@PySem.Str.ofString a2) a3)]) 0) (@List.toArray (@Option @PySem.Value) []))
noncomputable def o122 (P : Params) : Obj := sh17 P "one" 334 "other" 335
noncomputable def o123 (P : Params) : Obj := sh0 P 
noncomputable def o124 (P : Params) : Obj := sh14 P "common" 12 12
noncomputable def o125 (P : Params) : Obj := sh15 P "common" 331 332 333 22 2 120 121 122 123 124 336 337
noncomputable def o126 (P : Params) : Obj := sh16 P "common" 12 12 "weighwords.shares" 319 125
noncomputable def o127 (P : Params) : Obj := sh0 P 
noncomputable def o128 (P : Params) : Obj := sh1 P 
noncomputable def o129 (P : Params) : Obj := sh13 P "thing" 342
noncomputable def o130 (P : Params) : Obj := sh0 P 
noncomputable def o131 (P : Params) : Obj := sh14 P "is_share" 13 13
noncomputable def o132 (P : Params) : Obj := sh15 P "is_share" 339 340 341 26 1 127 128 129 130 131 343 344
noncomputable def o133 (P : Params) : Obj := sh16 P "is_share" 13 13 "weighwords.shares" 319 132
noncomputable def o134 (P : Params) : Obj := sh0 P 
noncomputable def o135 (P : Params) : Obj := sh1 P 
noncomputable def sh18 (P : Params) (a0 : String) (a1 : Nat) (a2 : String) (a3 : Nat) (a4 : String) (a5 : Nat) : Obj := (@PySem.Obj.mk (@PySem.Value.type "tuple") none (@PySem.Data.seq (@List.toArray @PySem.Value [(@PySem.Value.str (@PySem.Str.ofString a0) a1), (@PySem.Value.str (@PySem.Str.ofString a2) a3), (@PySem.Value.str (@PySem.Str.ofString a4) a5)]) 0) (@List.toArray (@Option @PySem.Value) []))
noncomputable def o136 (P : Params) : Obj := sh18 P "top" 349 "bottom" 350 "by" 351
noncomputable def o137 (P : Params) : Obj := sh0 P 
noncomputable def o138 (P : Params) : Obj := sh14 P "share" 14 14
noncomputable def o139 (P : Params) : Obj := sh15 P "share" 346 347 348 30 2 134 135 136 137 138 352 353
noncomputable def o140 (P : Params) : Obj := sh16 P "share" 14 14 "weighwords.shares" 319 139
noncomputable def o141 (P : Params) : Obj := sh0 P 
noncomputable def o142 (P : Params) : Obj := sh1 P 
noncomputable def o143 (P : Params) : Obj := sh17 P "one" 358 "other" 359
noncomputable def o144 (P : Params) : Obj := sh0 P 
noncomputable def o145 (P : Params) : Obj := sh14 P "plus" 15 15
noncomputable def o146 (P : Params) : Obj := sh15 P "plus" 355 356 357 37 2 141 142 143 144 145 360 361
noncomputable def o147 (P : Params) : Obj := sh16 P "plus" 15 15 "weighwords.shares" 319 146
noncomputable def o3_8 (P : Params) : Obj := (@PySem.Obj.mk (@PySem.Value.type "dict") none (@PySem.Data.dict (@List.toArray @PySem.DictEntry [(dE P "__name__" 165 (@PySem.Value.str (@PySem.Str.ofString "weighwords.machines") 386)), (dE P "__doc__" 166 @PySem.Value.none), (dE P "__package__" 167 @PySem.Value.none), (dE P "__loader__" 168 (@PySem.Value.builtin "__main__.__loader__#opaque")), (dE P "__spec__" 169 @PySem.Value.none), (dE P "__annotations__" 170 (@PySem.Value.ref 6)), (dE P "__builtins__" 171 (@PySem.Value.ref 4)), (dE P "__file__" 173 (@PySem.Value.str (@PySem.Str.ofString "/claim/cut.py") 172)), (dE P "__cached__" 174 @PySem.Value.none), (dE P "WeighError" 206 (@PySem.Value.ref 24)), (dE P "Nought" 222 (@PySem.Value.ref 37)), (dE P "NoText" 238 (@PySem.Value.ref 49)), (dE P "NoRow" 254 (@PySem.Value.ref 61)), (dE P "NoMachine" 270 (@PySem.Value.ref 73)), (dE P "NoWord" 286 (@PySem.Value.ref 85)), (dE P "OtherSigns" 302 (@PySem.Value.ref 97)), (dE P "TooMany" 318 (@PySem.Value.ref 109)), (dE P "NOUGHT" 323 (@PySem.Value.ref 112)), (dE P "is_whole" 330 (@PySem.Value.ref 119)), (dE P "common" 338 (@PySem.Value.ref 126)), (dE P "is_share" 345 (@PySem.Value.ref 133)), (dE P "share" 354 (@PySem.Value.ref 140)), (dE P "plus" 362 (@PySem.Value.ref 147)), (dE P "times" 370 (@PySem.Value.ref 154)), (dE P "summed_up" 379 (@PySem.Value.ref 161)), (dE P "crossed" 385 (@PySem.Value.ref 166)), (dE P "LETTERS" 389 (@PySem.Value.str (@PySem.Str.ofString "abcdefghijklmnopqrstuvwxyz") 388)), (dE P "MOST_SIGNS" 391 (@PySem.Value.int (@OfNat.ofNat @Int 6 (@instOfNat 6)) 390)), (dE P "MOST_ROOMS" 393 (@PySem.Value.int (@OfNat.ofNat @Int 12 (@instOfNat 12)) 392)), (dE P "is_signs" 402 (@PySem.Value.ref 173)), (dE P "is_row" 408 (@PySem.Value.ref 178)), (dE P "is_table" 414 (@PySem.Value.ref 183))]) 32) (@List.toArray (@Option @PySem.Value) []))
noncomputable def o12_8 (P : Params) : Obj := (@PySem.Obj.mk @PySem.Value.none none (@PySem.Data.fields (@List.toArray @PySem.Value [(@PySem.Value.int (@OfNat.ofNat @Int 2 (@instOfNat 2)) 0), (@PySem.Value.int (@OfNat.ofNat @Int 0 (@instOfNat 0)) 0), (@PySem.Value.ref 20), (@PySem.Value.int (@OfNat.ofNat @Int 4 (@instOfNat 4)) 0), (@PySem.Value.int (@OfNat.ofNat @Int 0 (@instOfNat 0)) 0), (@PySem.Value.ref 33), (@PySem.Value.int (@OfNat.ofNat @Int 6 (@instOfNat 6)) 0), (@PySem.Value.int (@OfNat.ofNat @Int 0 (@instOfNat 0)) 0), (@PySem.Value.ref 45), (@PySem.Value.int (@OfNat.ofNat @Int 8 (@instOfNat 8)) 0), (@PySem.Value.int (@OfNat.ofNat @Int 0 (@instOfNat 0)) 0), (@PySem.Value.ref 57), (@PySem.Value.int (@OfNat.ofNat @Int 10 (@instOfNat 10)) 0), (@PySem.Value.int (@OfNat.ofNat @Int 0 (@instOfNat 0)) 0), (@PySem.Value.ref 69), (@PySem.Value.int (@OfNat.ofNat @Int 12 (@instOfNat 12)) 0), (@PySem.Value.int (@OfNat.ofNat @Int 0 (@instOfNat 0)) 0), (@PySem.Value.ref 81), (@PySem.Value.int (@OfNat.ofNat @Int 14 (@instOfNat 14)) 0), (@PySem.Value.int (@OfNat.ofNat @Int 0 (@instOfNat 0)) 0), (@PySem.Value.ref 93), (@PySem.Value.int (@OfNat.ofNat @Int 16 (@instOfNat 16)) 0), (@PySem.Value.int (@OfNat.ofNat @Int 0 (@instOfNat 0)) 0), (@PySem.Value.ref 105), (@PySem.Value.int (@OfNat.ofNat @Int 20 (@instOfNat 20)) 0), (@PySem.Value.int (@OfNat.ofNat @Int 0 (@instOfNat 0)) 0), (@PySem.Value.ref 118), (@PySem.Value.int (@OfNat.ofNat @Int 22 (@instOfNat 22)) 0), (@PySem.Value.int (@OfNat.ofNat @Int 0 (@instOfNat 0)) 0), (@PySem.Value.ref 125), (@PySem.Value.int (@OfNat.ofNat @Int 26 (@instOfNat 26)) 0), (@PySem.Value.int (@OfNat.ofNat @Int 0 (@instOfNat 0)) 0), (@PySem.Value.ref 132), (@PySem.Value.int (@OfNat.ofNat @Int 30 (@instOfNat 30)) 0), (@PySem.Value.int (@OfNat.ofNat @Int 0 (@instOfNat 0)) 0), (@PySem.Value.ref 139), (@PySem.Value.int (@OfNat.ofNat @Int 37 (@instOfNat 37)) 0), (@PySem.Value.int (@OfNat.ofNat @Int 0 (@instOfNat 0)) 0), (@PySem.Value.ref 146), (@PySem.Value.int (@OfNat.ofNat @Int 39 (@instOfNat 39)) 0), (@PySem.Value.int (@OfNat.ofNat @Int 0 (@instOfNat 0)) 0), (@PySem.Value.ref 153), (@PySem.Value.int (@OfNat.ofNat @Int 41 (@instOfNat 41)) 0), (@PySem.Value.int (@OfNat.ofNat @Int 0 (@instOfNat 0)) 0), (@PySem.Value.ref 160), (@PySem.Value.int (@OfNat.ofNat @Int 46 (@instOfNat 46)) 0), (@PySem.Value.int (@OfNat.ofNat @Int 0 (@instOfNat 0)) 0), (@PySem.Value.ref 165), (@PySem.Value.int (@OfNat.ofNat @Int 52 (@instOfNat 52)) 0), (@PySem.Value.int (@OfNat.ofNat @Int 0 (@instOfNat 0)) 0), (@PySem.Value.ref 172), (@PySem.Value.int (@OfNat.ofNat @Int 61 (@instOfNat 61)) 0), (@PySem.Value.int (@OfNat.ofNat @Int 0 (@instOfNat 0)) 0), (@PySem.Value.ref 177), (@PySem.Value.int (@OfNat.ofNat @Int 63 (@instOfNat 63)) 0), (@PySem.Value.int (@OfNat.ofNat @Int 0 (@instOfNat 0)) 0), (@PySem.Value.ref 182)])) (@List.toArray (@Option @PySem.Value) []))
noncomputable def o148 (P : Params) : Obj := sh0 P 
noncomputable def o149 (P : Params) : Obj := sh1 P 
noncomputable def o150 (P : Params) : Obj := sh17 P "one" 366 "other" 367
noncomputable def o151 (P : Params) : Obj := sh0 P 
noncomputable def o152 (P : Params) : Obj := sh14 P "times" 16 15
noncomputable def o153 (P : Params) : Obj := sh15 P "times" 363 364 365 39 2 148 149 150 151 152 368 369
noncomputable def o154 (P : Params) : Obj := sh16 P "times" 16 15 "weighwords.shares" 319 153
noncomputable def o155 (P : Params) : Obj := sh0 P 
noncomputable def o156 (P : Params) : Obj := sh1 P 
noncomputable def o157 (P : Params) : Obj := sh18 P "shares" 374 "found" 375 "one" 376
noncomputable def o158 (P : Params) : Obj := sh0 P 
noncomputable def o159 (P : Params) : Obj := sh14 P "summed_up" 17 17
noncomputable def o160 (P : Params) : Obj := sh15 P "summed_up" 371 372 373 41 1 155 156 157 158 159 377 378
noncomputable def o161 (P : Params) : Obj := sh16 P "summed_up" 17 17 "weighwords.shares" 319 160
noncomputable def o162 (P : Params) : Obj := sh0 P 
noncomputable def o163 (P : Params) : Obj := sh1 P 
noncomputable def o164 (P : Params) : Obj := sh14 P "crossed" 18 18
noncomputable def sh19 (P : Params) (a0 : String) (a1 : Nat) (a2 : String) (a3 : Nat) (a4 : Nat) (a5 : Nat) (a6 : Nat) (a7 : Nat) (a8 : Nat) (a9 : Nat) (a10 : Nat) (a11 : Nat) : Obj := (@PySem.Obj.mk (@PySem.Value.type "code") none (@PySem.Data.fields (@List.toArray @PySem.Value [(@PySem.Value.str (@PySem.Str.ofString a0) a1), (@PySem.Value.str (@PySem.Str.ofString a2) a3), (@PySem.Value.str (@PySem.Str.ofString "/claim/cut.py") a4), (@PySem.Value.int (@OfNat.ofNat @Int a5 (@instOfNat a5)) 0), (@PySem.Value.int (@OfNat.ofNat @Int a6 (@instOfNat a6)) 0), (@PySem.Value.int (@OfNat.ofNat @Int 0 (@instOfNat 0)) 0), (@PySem.Value.int (@OfNat.ofNat @Int 0 (@instOfNat 0)) 0), (@PySem.Value.int (@OfNat.ofNat @Int 3 (@instOfNat 3)) 0), (@PySem.Value.ref a7), (@PySem.Value.bool @Bool.true), (@PySem.Value.int (@OfNat.ofNat @Int 181 (@instOfNat 181)) 0), (@PySem.Value.ref a8), @PySem.Value.none, @PySem.Value.none, @PySem.Value.none, (@PySem.Value.ref a9), (@PySem.Value.int (@OfNat.ofNat @Int a10 (@instOfNat a10)) 0), (@PySem.Value.int (@OfNat.ofNat @Int a5 (@instOfNat a5)) 0), (@PySem.Value.str (@PySem.Str.ofString "/claim/cut.py") a11)])) (@List.toArray (@Option @PySem.Value) []))
noncomputable def o165 (P : Params) : Obj := sh19 P "crossed" 380 "crossed" 381 382 46 2 162 163 164 383 384
noncomputable def o166 (P : Params) : Obj := sh16 P "crossed" 18 18 "weighwords.shares" 319 165
noncomputable def o167 (P : Params) : Obj := sh0 P 
noncomputable def o168 (P : Params) : Obj := sh1 P 
noncomputable def o169 (P : Params) : Obj := sh18 P "thing" 397 "last" 398 "sign" 399
noncomputable def o170 (P : Params) : Obj := sh0 P 
noncomputable def o171 (P : Params) : Obj := sh14 P "is_signs" 23 23
noncomputable def o172 (P : Params) : Obj := sh15 P "is_signs" 394 395 396 52 1 167 168 169 170 171 400 401
noncomputable def o173 (P : Params) : Obj := sh16 P "is_signs" 23 23 "weighwords.machines" 386 172
noncomputable def o174 (P : Params) : Obj := sh0 P 
noncomputable def o175 (P : Params) : Obj := sh1 P 
noncomputable def o176 (P : Params) : Obj := sh14 P "is_row" 24 24
noncomputable def o177 (P : Params) : Obj := sh19 P "is_row" 403 "is_row" 404 405 61 2 174 175 176 406 407
noncomputable def o178 (P : Params) : Obj := sh16 P "is_row" 24 24 "weighwords.machines" 386 177
noncomputable def o179 (P : Params) : Obj := sh0 P 
noncomputable def o180 (P : Params) : Obj := sh1 P 
noncomputable def o181 (P : Params) : Obj := sh14 P "is_table" 25 25
noncomputable def o182 (P : Params) : Obj := sh19 P "is_table" 409 "is_table" 410 411 63 2 179 180 181 412 413
noncomputable def o183 (P : Params) : Obj := sh16 P "is_table" 25 25 "weighwords.machines" 386 182
noncomputable def o3_9 (P : Params) : Obj := (@PySem.Obj.mk (@PySem.Value.type "dict") none (@PySem.Data.dict (@List.toArray @PySem.DictEntry [(dE P "__name__" 165 (@PySem.Value.str (@PySem.Str.ofString "law_uf020009_05") 482)), (dE P "__doc__" 166 @PySem.Value.none), (dE P "__package__" 167 @PySem.Value.none), (dE P "__loader__" 168 (@PySem.Value.builtin "__main__.__loader__#opaque")), (dE P "__spec__" 169 @PySem.Value.none), (dE P "__annotations__" 170 (@PySem.Value.ref 6)), (dE P "__builtins__" 171 (@PySem.Value.ref 4)), (dE P "__file__" 173 (@PySem.Value.str (@PySem.Str.ofString "/claim/cut.py") 172)), (dE P "__cached__" 174 @PySem.Value.none), (dE P "WeighError" 206 (@PySem.Value.ref 24)), (dE P "Nought" 222 (@PySem.Value.ref 37)), (dE P "NoText" 238 (@PySem.Value.ref 49)), (dE P "NoRow" 254 (@PySem.Value.ref 61)), (dE P "NoMachine" 270 (@PySem.Value.ref 73)), (dE P "NoWord" 286 (@PySem.Value.ref 85)), (dE P "OtherSigns" 302 (@PySem.Value.ref 97)), (dE P "TooMany" 318 (@PySem.Value.ref 109)), (dE P "NOUGHT" 323 (@PySem.Value.ref 112)), (dE P "is_whole" 330 (@PySem.Value.ref 119)), (dE P "common" 338 (@PySem.Value.ref 126)), (dE P "is_share" 345 (@PySem.Value.ref 133)), (dE P "share" 354 (@PySem.Value.ref 140)), (dE P "plus" 362 (@PySem.Value.ref 147)), (dE P "times" 370 (@PySem.Value.ref 154)), (dE P "summed_up" 379 (@PySem.Value.ref 161)), (dE P "crossed" 385 (@PySem.Value.ref 166)), (dE P "LETTERS" 389 (@PySem.Value.str (@PySem.Str.ofString "abcdefghijklmnopqrstuvwxyz") 388)), (dE P "MOST_SIGNS" 391 (@PySem.Value.int (@OfNat.ofNat @Int 6 (@instOfNat 6)) 390)), (dE P "MOST_ROOMS" 393 (@PySem.Value.int (@OfNat.ofNat @Int 12 (@instOfNat 12)) 392)), (dE P "is_signs" 402 (@PySem.Value.ref 173)), (dE P "is_row" 408 (@PySem.Value.ref 178)), (dE P "is_table" 414 (@PySem.Value.ref 183)), (dE P "Machine" 444 (@PySem.Value.ref 198)), (dE P "rooms" 451 (@PySem.Value.ref 209)), (dE P "led" 457 (@PySem.Value.ref 214)), (dE P "need_word" 463 (@PySem.Value.ref 219)), (dE P "row_of" 473 (@PySem.Value.ref 226)), (dE P "weight" 481 (@PySem.Value.ref 233))]) 38) (@List.toArray (@Option @PySem.Value) []))
noncomputable def o12_9 (P : Params) : Obj := (@PySem.Obj.mk @PySem.Value.none none (@PySem.Data.fields (@List.toArray @PySem.Value [(@PySem.Value.int (@OfNat.ofNat @Int 2 (@instOfNat 2)) 0), (@PySem.Value.int (@OfNat.ofNat @Int 0 (@instOfNat 0)) 0), (@PySem.Value.ref 20), (@PySem.Value.int (@OfNat.ofNat @Int 4 (@instOfNat 4)) 0), (@PySem.Value.int (@OfNat.ofNat @Int 0 (@instOfNat 0)) 0), (@PySem.Value.ref 33), (@PySem.Value.int (@OfNat.ofNat @Int 6 (@instOfNat 6)) 0), (@PySem.Value.int (@OfNat.ofNat @Int 0 (@instOfNat 0)) 0), (@PySem.Value.ref 45), (@PySem.Value.int (@OfNat.ofNat @Int 8 (@instOfNat 8)) 0), (@PySem.Value.int (@OfNat.ofNat @Int 0 (@instOfNat 0)) 0), (@PySem.Value.ref 57), (@PySem.Value.int (@OfNat.ofNat @Int 10 (@instOfNat 10)) 0), (@PySem.Value.int (@OfNat.ofNat @Int 0 (@instOfNat 0)) 0), (@PySem.Value.ref 69), (@PySem.Value.int (@OfNat.ofNat @Int 12 (@instOfNat 12)) 0), (@PySem.Value.int (@OfNat.ofNat @Int 0 (@instOfNat 0)) 0), (@PySem.Value.ref 81), (@PySem.Value.int (@OfNat.ofNat @Int 14 (@instOfNat 14)) 0), (@PySem.Value.int (@OfNat.ofNat @Int 0 (@instOfNat 0)) 0), (@PySem.Value.ref 93), (@PySem.Value.int (@OfNat.ofNat @Int 16 (@instOfNat 16)) 0), (@PySem.Value.int (@OfNat.ofNat @Int 0 (@instOfNat 0)) 0), (@PySem.Value.ref 105), (@PySem.Value.int (@OfNat.ofNat @Int 20 (@instOfNat 20)) 0), (@PySem.Value.int (@OfNat.ofNat @Int 0 (@instOfNat 0)) 0), (@PySem.Value.ref 118), (@PySem.Value.int (@OfNat.ofNat @Int 22 (@instOfNat 22)) 0), (@PySem.Value.int (@OfNat.ofNat @Int 0 (@instOfNat 0)) 0), (@PySem.Value.ref 125), (@PySem.Value.int (@OfNat.ofNat @Int 26 (@instOfNat 26)) 0), (@PySem.Value.int (@OfNat.ofNat @Int 0 (@instOfNat 0)) 0), (@PySem.Value.ref 132), (@PySem.Value.int (@OfNat.ofNat @Int 30 (@instOfNat 30)) 0), (@PySem.Value.int (@OfNat.ofNat @Int 0 (@instOfNat 0)) 0), (@PySem.Value.ref 139), (@PySem.Value.int (@OfNat.ofNat @Int 37 (@instOfNat 37)) 0), (@PySem.Value.int (@OfNat.ofNat @Int 0 (@instOfNat 0)) 0), (@PySem.Value.ref 146), (@PySem.Value.int (@OfNat.ofNat @Int 39 (@instOfNat 39)) 0), (@PySem.Value.int (@OfNat.ofNat @Int 0 (@instOfNat 0)) 0), (@PySem.Value.ref 153), (@PySem.Value.int (@OfNat.ofNat @Int 41 (@instOfNat 41)) 0), (@PySem.Value.int (@OfNat.ofNat @Int 0 (@instOfNat 0)) 0), (@PySem.Value.ref 160), (@PySem.Value.int (@OfNat.ofNat @Int 46 (@instOfNat 46)) 0), (@PySem.Value.int (@OfNat.ofNat @Int 0 (@instOfNat 0)) 0), (@PySem.Value.ref 165), (@PySem.Value.int (@OfNat.ofNat @Int 52 (@instOfNat 52)) 0), (@PySem.Value.int (@OfNat.ofNat @Int 0 (@instOfNat 0)) 0), (@PySem.Value.ref 172), (@PySem.Value.int (@OfNat.ofNat @Int 61 (@instOfNat 61)) 0), (@PySem.Value.int (@OfNat.ofNat @Int 0 (@instOfNat 0)) 0), (@PySem.Value.ref 177), (@PySem.Value.int (@OfNat.ofNat @Int 63 (@instOfNat 63)) 0), (@PySem.Value.int (@OfNat.ofNat @Int 0 (@instOfNat 0)) 0), (@PySem.Value.ref 182), (@PySem.Value.int (@OfNat.ofNat @Int 65 (@instOfNat 65)) 0), (@PySem.Value.int (@OfNat.ofNat @Int 0 (@instOfNat 0)) 0), (@PySem.Value.ref 189), (@PySem.Value.int (@OfNat.ofNat @Int 81 (@instOfNat 81)) 0), (@PySem.Value.int (@OfNat.ofNat @Int 0 (@instOfNat 0)) 0), (@PySem.Value.ref 208), (@PySem.Value.int (@OfNat.ofNat @Int 83 (@instOfNat 83)) 0), (@PySem.Value.int (@OfNat.ofNat @Int 0 (@instOfNat 0)) 0), (@PySem.Value.ref 213), (@PySem.Value.int (@OfNat.ofNat @Int 85 (@instOfNat 85)) 0), (@PySem.Value.int (@OfNat.ofNat @Int 0 (@instOfNat 0)) 0), (@PySem.Value.ref 218), (@PySem.Value.int (@OfNat.ofNat @Int 88 (@instOfNat 88)) 0), (@PySem.Value.int (@OfNat.ofNat @Int 0 (@instOfNat 0)) 0), (@PySem.Value.ref 225), (@PySem.Value.int (@OfNat.ofNat @Int 94 (@instOfNat 94)) 0), (@PySem.Value.int (@OfNat.ofNat @Int 0 (@instOfNat 0)) 0), (@PySem.Value.ref 232)])) (@List.toArray (@Option @PySem.Value) []))
noncomputable def o184 (P : Params) : Obj := sh0 P 
noncomputable def o185 (P : Params) : Obj := sh5 P 
noncomputable def o186 (P : Params) : Obj := (@PySem.Obj.mk (@PySem.Value.type "dict") none (@PySem.Data.dict (@List.toArray @PySem.DictEntry [(dE P "__module__" 422 (@PySem.Value.str (@PySem.Str.ofString "weighwords.machines") 386)), (dE P "__qualname__" 424 (@PySem.Value.str (@PySem.Str.ofString "Machine") 423)), (dE P "__firstlineno__" 426 (@PySem.Value.int (@OfNat.ofNat @Int 65 (@instOfNat 65)) 425)), (dE P "__init__" 432 (@PySem.Value.ref 195)), (dE P "__static_attributes__" 437 (@PySem.Value.ref 196))]) 5) (@List.toArray (@Option @PySem.Value) []))
noncomputable def o187 (P : Params) : Obj := sh0 P 
noncomputable def o188 (P : Params) : Obj := sh4 P 67 4 194
noncomputable def o189 (P : Params) : Obj := sh2 P "Machine" 417 418 419 65 187 188 420 421
noncomputable def o190 (P : Params) : Obj := sh3 P 189 186 "weighwords.machines" 386
noncomputable def o191 (P : Params) : Obj := sh0 P 
noncomputable def o192 (P : Params) : Obj := sh1 P 
noncomputable def o193 (P : Params) : Obj := (@PySem.Obj.mk @PySem.Value.none none (@PySem.Data.func (@PySem.FuncData.mk (@PySem.Str.ofString "__init__") (@PySem.Str.ofString "Machine.__init__") (@fnA (@stIn (@stAt @PW 26) 0)) (@PySem.FuncBody.stmts (@fnB (@stIn (@stAt @PW 26) 0))) (@fnS (@stIn (@stAt @PW 26) 0)) 0 [] @PySem.Value.none @PySem.Value.none @PySem.Value.none @PySem.Value.none none @PySem.Value.none @PySem.Value.none 0)) (@List.toArray (@Option @PySem.Value) []))
noncomputable def o194 (P : Params) : Obj := sh19 P "__init__" 427 "Machine.__init__" 428 429 67 5 191 192 193 430 431
noncomputable def o195 (P : Params) : Obj := (@PySem.Obj.mk (@PySem.Value.type "function") none (@PySem.Data.func (@PySem.FuncData.mk (@PySem.Str.ofString "__init__") (@PySem.Str.ofString "Machine.__init__") (@fnA (@stIn (@stAt @PW 26) 0)) (@PySem.FuncBody.stmts (@fnB (@stIn (@stAt @PW 26) 0))) (@fnS (@stIn (@stAt @PW 26) 0)) 3 [] @PySem.Value.none @PySem.Value.none @PySem.Value.none (@PySem.Value.str (@PySem.Str.ofString "weighwords.machines") 386) none (@PySem.Value.ref 194) @PySem.Value.none 0)) (@List.toArray (@Option @PySem.Value) []))
noncomputable def sh20 (P : Params) (a0 : String) (a1 : Nat) (a2 : String) (a3 : Nat) (a4 : String) (a5 : Nat) (a6 : String) (a7 : Nat) : Obj := (@PySem.Obj.mk (@PySem.Value.type "tuple") none (@PySem.Data.seq (@List.toArray @PySem.Value [(@PySem.Value.str (@PySem.Str.ofString a0) a1), (@PySem.Value.str (@PySem.Str.ofString a2) a3), (@PySem.Value.str (@PySem.Str.ofString a4) a5), (@PySem.Value.str (@PySem.Str.ofString a6) a7)]) 0) (@List.toArray (@Option @PySem.Value) []))
noncomputable def o196 (P : Params) : Obj := sh20 P "begins" 433 "ends" 434 "moves" 435 "signs" 436
noncomputable def o197 (P : Params) : Obj := (@PySem.Obj.mk (@PySem.Value.type "dict") none (@PySem.Data.dict (@List.toArray @PySem.DictEntry [(dE P "__module__" 422 (@PySem.Value.str (@PySem.Str.ofString "weighwords.machines") 386)), (dE P "__firstlineno__" 426 (@PySem.Value.int (@OfNat.ofNat @Int 65 (@instOfNat 65)) 425)), (dE P "__init__" 432 (@PySem.Value.ref 195)), (dE P "__static_attributes__" 437 (@PySem.Value.ref 196)), (dE P "__dict__" 439 (@PySem.Value.ref 199)), (dE P "__weakref__" 441 (@PySem.Value.ref 200)), (dE P "__doc__" 442 @PySem.Value.none)]) 4) (@List.toArray (@Option @PySem.Value) []))
noncomputable def o198 (P : Params) : Obj := (@PySem.Obj.mk (@PySem.Value.type "type") none (@PySem.Data.cls (@PySem.ClassData.mk (@PySem.Str.ofString "Machine") [(@PySem.Value.type "object")] [(@PySem.Value.ref 198), (@PySem.Value.type "object")] 197 (@PySem.Str.ofString "Machine") @Bool.true [] [] @Bool.false none @Bool.false)) (@List.toArray (@Option @PySem.Value) [none, none, (some (@PySem.Value.str (@PySem.Str.ofString "Machine") 415)), (some (@PySem.Value.str (@PySem.Str.ofString "Machine") 423)), (some (@PySem.Value.builtin "object.__new__")), (some (@PySem.Value.bool @Bool.true))]))
noncomputable def o199 (P : Params) : Obj := (@PySem.Obj.mk (@PySem.Value.type "getset_descriptor") none (@PySem.Data.fields (@List.toArray @PySem.Value [(@PySem.Value.str (@PySem.Str.ofString "__dict__") 438), (@PySem.Value.ref 198), (@PySem.Value.builtin "function.__dict__"), (@PySem.Value.builtin "function.__dict__#set")])) (@List.toArray (@Option @PySem.Value) []))
noncomputable def o200 (P : Params) : Obj := sh7 P 440 198
noncomputable def o201 (P : Params) : Obj := sh8 P 198
noncomputable def o202 (P : Params) : Obj := sh9 P 198
noncomputable def o203 (P : Params) : Obj := sh0 P 
noncomputable def o204 (P : Params) : Obj := sh1 P 
noncomputable def o205 (P : Params) : Obj := sh13 P "machine" 448
noncomputable def o206 (P : Params) : Obj := sh0 P 
noncomputable def o207 (P : Params) : Obj := sh14 P "rooms" 27 27
noncomputable def o208 (P : Params) : Obj := sh15 P "rooms" 445 446 447 81 1 203 204 205 206 207 449 450
noncomputable def o209 (P : Params) : Obj := sh16 P "rooms" 27 27 "weighwords.machines" 386 208
noncomputable def o210 (P : Params) : Obj := sh0 P 
noncomputable def o211 (P : Params) : Obj := sh1 P 
noncomputable def o212 (P : Params) : Obj := sh14 P "led" 28 28
noncomputable def o213 (P : Params) : Obj := sh19 P "led" 452 "led" 453 454 83 2 210 211 212 455 456
noncomputable def o214 (P : Params) : Obj := sh16 P "led" 28 28 "weighwords.machines" 386 213
noncomputable def o215 (P : Params) : Obj := sh0 P 
noncomputable def o216 (P : Params) : Obj := sh1 P 
noncomputable def o217 (P : Params) : Obj := sh14 P "need_word" 29 29
noncomputable def o218 (P : Params) : Obj := sh19 P "need_word" 458 "need_word" 459 460 85 2 215 216 217 461 462
noncomputable def o219 (P : Params) : Obj := sh16 P "need_word" 29 29 "weighwords.machines" 386 218
noncomputable def o220 (P : Params) : Obj := sh0 P 
noncomputable def o221 (P : Params) : Obj := sh1 P 
noncomputable def o222 (P : Params) : Obj := sh20 P "machine" 467 "word" 468 "row" 469 "sign" 470
noncomputable def o223 (P : Params) : Obj := sh0 P 
noncomputable def o224 (P : Params) : Obj := sh14 P "row_of" 30 30
noncomputable def o225 (P : Params) : Obj := sh15 P "row_of" 464 465 466 88 2 220 221 222 223 224 471 472
noncomputable def o226 (P : Params) : Obj := sh16 P "row_of" 30 30 "weighwords.machines" 386 225
noncomputable def o227 (P : Params) : Obj := sh0 P 
noncomputable def o228 (P : Params) : Obj := sh1 P 
noncomputable def o229 (P : Params) : Obj := sh17 P "machine" 477 "word" 478
noncomputable def o230 (P : Params) : Obj := sh0 P 
noncomputable def o231 (P : Params) : Obj := sh14 P "weight" 31 31
noncomputable def o232 (P : Params) : Obj := sh15 P "weight" 474 475 476 94 2 227 228 229 230 231 479 480
noncomputable def o233 (P : Params) : Obj := sh16 P "weight" 31 31 "weighwords.machines" 386 232
noncomputable def o3_10 (P : Params) : Obj := (@PySem.Obj.mk (@PySem.Value.type "dict") none (@PySem.Data.dict (@List.toArray @PySem.DictEntry [(dE P "__name__" 165 (@PySem.Value.str (@PySem.Str.ofString "law_uf020009_05") 482)), (dE P "__doc__" 166 @PySem.Value.none), (dE P "__package__" 167 @PySem.Value.none), (dE P "__loader__" 168 (@PySem.Value.builtin "__main__.__loader__#opaque")), (dE P "__spec__" 169 @PySem.Value.none), (dE P "__annotations__" 170 (@PySem.Value.ref 6)), (dE P "__builtins__" 171 (@PySem.Value.ref 4)), (dE P "__file__" 173 (@PySem.Value.str (@PySem.Str.ofString "/claim/cut.py") 172)), (dE P "__cached__" 174 @PySem.Value.none), (dE P "WeighError" 206 (@PySem.Value.ref 24)), (dE P "Nought" 222 (@PySem.Value.ref 37)), (dE P "NoText" 238 (@PySem.Value.ref 49)), (dE P "NoRow" 254 (@PySem.Value.ref 61)), (dE P "NoMachine" 270 (@PySem.Value.ref 73)), (dE P "NoWord" 286 (@PySem.Value.ref 85)), (dE P "OtherSigns" 302 (@PySem.Value.ref 97)), (dE P "TooMany" 318 (@PySem.Value.ref 109)), (dE P "NOUGHT" 323 (@PySem.Value.ref 112)), (dE P "is_whole" 330 (@PySem.Value.ref 119)), (dE P "common" 338 (@PySem.Value.ref 126)), (dE P "is_share" 345 (@PySem.Value.ref 133)), (dE P "share" 354 (@PySem.Value.ref 140)), (dE P "plus" 362 (@PySem.Value.ref 147)), (dE P "times" 370 (@PySem.Value.ref 154)), (dE P "summed_up" 379 (@PySem.Value.ref 161)), (dE P "crossed" 385 (@PySem.Value.ref 166)), (dE P "LETTERS" 389 (@PySem.Value.str (@PySem.Str.ofString "abcdefghijklmnopqrstuvwxyz") 388)), (dE P "MOST_SIGNS" 391 (@PySem.Value.int (@OfNat.ofNat @Int 6 (@instOfNat 6)) 390)), (dE P "MOST_ROOMS" 393 (@PySem.Value.int (@OfNat.ofNat @Int 12 (@instOfNat 12)) 392)), (dE P "is_signs" 402 (@PySem.Value.ref 173)), (dE P "is_row" 408 (@PySem.Value.ref 178)), (dE P "is_table" 414 (@PySem.Value.ref 183)), (dE P "Machine" 444 (@PySem.Value.ref 198)), (dE P "rooms" 451 (@PySem.Value.ref 209)), (dE P "led" 457 (@PySem.Value.ref 214)), (dE P "need_word" 463 (@PySem.Value.ref 219)), (dE P "row_of" 473 (@PySem.Value.ref 226)), (dE P "weight" 481 (@PySem.Value.ref 233)), (dE P "_law_cell_at" 491 (@PySem.Value.ref 240)), (dE P "_law_common" 499 (@PySem.Value.ref 247)), (dE P "_law_share" 508 (@PySem.Value.ref 254)), (dE P "_law_word_of" 516 (@PySem.Value.ref 261)), (dE P "_law_drawn" 524 (@PySem.Value.ref 268)), (dE P "_law_top" 531 (@PySem.Value.ref 275)), (dE P "_law_scales" 538 (@PySem.Value.ref 282)), (dE P "_law_signs" 544 (@PySem.Value.ref 287)), (dE P "_law_tops" 550 (@PySem.Value.ref 292)), (dE P "_law_row" 556 (@PySem.Value.ref 297)), (dE P "_law_parts" 562 (@PySem.Value.ref 302)), (dE P "_law_no_signs" 573 (@PySem.Value.ref 309)), (dE P "_law_no_row" 584 (@PySem.Value.ref 316))]) 51) (@List.toArray (@Option @PySem.Value) []))
noncomputable def o12_10 (P : Params) : Obj := (@PySem.Obj.mk @PySem.Value.none none (@PySem.Data.fields (@List.toArray @PySem.Value [(@PySem.Value.int (@OfNat.ofNat @Int 2 (@instOfNat 2)) 0), (@PySem.Value.int (@OfNat.ofNat @Int 0 (@instOfNat 0)) 0), (@PySem.Value.ref 20), (@PySem.Value.int (@OfNat.ofNat @Int 4 (@instOfNat 4)) 0), (@PySem.Value.int (@OfNat.ofNat @Int 0 (@instOfNat 0)) 0), (@PySem.Value.ref 33), (@PySem.Value.int (@OfNat.ofNat @Int 6 (@instOfNat 6)) 0), (@PySem.Value.int (@OfNat.ofNat @Int 0 (@instOfNat 0)) 0), (@PySem.Value.ref 45), (@PySem.Value.int (@OfNat.ofNat @Int 8 (@instOfNat 8)) 0), (@PySem.Value.int (@OfNat.ofNat @Int 0 (@instOfNat 0)) 0), (@PySem.Value.ref 57), (@PySem.Value.int (@OfNat.ofNat @Int 10 (@instOfNat 10)) 0), (@PySem.Value.int (@OfNat.ofNat @Int 0 (@instOfNat 0)) 0), (@PySem.Value.ref 69), (@PySem.Value.int (@OfNat.ofNat @Int 12 (@instOfNat 12)) 0), (@PySem.Value.int (@OfNat.ofNat @Int 0 (@instOfNat 0)) 0), (@PySem.Value.ref 81), (@PySem.Value.int (@OfNat.ofNat @Int 14 (@instOfNat 14)) 0), (@PySem.Value.int (@OfNat.ofNat @Int 0 (@instOfNat 0)) 0), (@PySem.Value.ref 93), (@PySem.Value.int (@OfNat.ofNat @Int 16 (@instOfNat 16)) 0), (@PySem.Value.int (@OfNat.ofNat @Int 0 (@instOfNat 0)) 0), (@PySem.Value.ref 105), (@PySem.Value.int (@OfNat.ofNat @Int 20 (@instOfNat 20)) 0), (@PySem.Value.int (@OfNat.ofNat @Int 0 (@instOfNat 0)) 0), (@PySem.Value.ref 118), (@PySem.Value.int (@OfNat.ofNat @Int 22 (@instOfNat 22)) 0), (@PySem.Value.int (@OfNat.ofNat @Int 0 (@instOfNat 0)) 0), (@PySem.Value.ref 125), (@PySem.Value.int (@OfNat.ofNat @Int 26 (@instOfNat 26)) 0), (@PySem.Value.int (@OfNat.ofNat @Int 0 (@instOfNat 0)) 0), (@PySem.Value.ref 132), (@PySem.Value.int (@OfNat.ofNat @Int 30 (@instOfNat 30)) 0), (@PySem.Value.int (@OfNat.ofNat @Int 0 (@instOfNat 0)) 0), (@PySem.Value.ref 139), (@PySem.Value.int (@OfNat.ofNat @Int 37 (@instOfNat 37)) 0), (@PySem.Value.int (@OfNat.ofNat @Int 0 (@instOfNat 0)) 0), (@PySem.Value.ref 146), (@PySem.Value.int (@OfNat.ofNat @Int 39 (@instOfNat 39)) 0), (@PySem.Value.int (@OfNat.ofNat @Int 0 (@instOfNat 0)) 0), (@PySem.Value.ref 153), (@PySem.Value.int (@OfNat.ofNat @Int 41 (@instOfNat 41)) 0), (@PySem.Value.int (@OfNat.ofNat @Int 0 (@instOfNat 0)) 0), (@PySem.Value.ref 160), (@PySem.Value.int (@OfNat.ofNat @Int 46 (@instOfNat 46)) 0), (@PySem.Value.int (@OfNat.ofNat @Int 0 (@instOfNat 0)) 0), (@PySem.Value.ref 165), (@PySem.Value.int (@OfNat.ofNat @Int 52 (@instOfNat 52)) 0), (@PySem.Value.int (@OfNat.ofNat @Int 0 (@instOfNat 0)) 0), (@PySem.Value.ref 172), (@PySem.Value.int (@OfNat.ofNat @Int 61 (@instOfNat 61)) 0), (@PySem.Value.int (@OfNat.ofNat @Int 0 (@instOfNat 0)) 0), (@PySem.Value.ref 177), (@PySem.Value.int (@OfNat.ofNat @Int 63 (@instOfNat 63)) 0), (@PySem.Value.int (@OfNat.ofNat @Int 0 (@instOfNat 0)) 0), (@PySem.Value.ref 182), (@PySem.Value.int (@OfNat.ofNat @Int 65 (@instOfNat 65)) 0), (@PySem.Value.int (@OfNat.ofNat @Int 0 (@instOfNat 0)) 0), (@PySem.Value.ref 189), (@PySem.Value.int (@OfNat.ofNat @Int 81 (@instOfNat 81)) 0), (@PySem.Value.int (@OfNat.ofNat @Int 0 (@instOfNat 0)) 0), (@PySem.Value.ref 208), (@PySem.Value.int (@OfNat.ofNat @Int 83 (@instOfNat 83)) 0), (@PySem.Value.int (@OfNat.ofNat @Int 0 (@instOfNat 0)) 0), (@PySem.Value.ref 213), (@PySem.Value.int (@OfNat.ofNat @Int 85 (@instOfNat 85)) 0), (@PySem.Value.int (@OfNat.ofNat @Int 0 (@instOfNat 0)) 0), (@PySem.Value.ref 218), (@PySem.Value.int (@OfNat.ofNat @Int 88 (@instOfNat 88)) 0), (@PySem.Value.int (@OfNat.ofNat @Int 0 (@instOfNat 0)) 0), (@PySem.Value.ref 225), (@PySem.Value.int (@OfNat.ofNat @Int 94 (@instOfNat 94)) 0), (@PySem.Value.int (@OfNat.ofNat @Int 0 (@instOfNat 0)) 0), (@PySem.Value.ref 232), (@PySem.Value.int (@OfNat.ofNat @Int 97 (@instOfNat 97)) 0), (@PySem.Value.int (@OfNat.ofNat @Int 0 (@instOfNat 0)) 0), (@PySem.Value.ref 239), (@PySem.Value.int (@OfNat.ofNat @Int 101 (@instOfNat 101)) 0), (@PySem.Value.int (@OfNat.ofNat @Int 0 (@instOfNat 0)) 0), (@PySem.Value.ref 246), (@PySem.Value.int (@OfNat.ofNat @Int 105 (@instOfNat 105)) 0), (@PySem.Value.int (@OfNat.ofNat @Int 0 (@instOfNat 0)) 0), (@PySem.Value.ref 253), (@PySem.Value.int (@OfNat.ofNat @Int 108 (@instOfNat 108)) 0), (@PySem.Value.int (@OfNat.ofNat @Int 0 (@instOfNat 0)) 0), (@PySem.Value.ref 260), (@PySem.Value.int (@OfNat.ofNat @Int 114 (@instOfNat 114)) 0), (@PySem.Value.int (@OfNat.ofNat @Int 0 (@instOfNat 0)) 0), (@PySem.Value.ref 267), (@PySem.Value.int (@OfNat.ofNat @Int 118 (@instOfNat 118)) 0), (@PySem.Value.int (@OfNat.ofNat @Int 0 (@instOfNat 0)) 0), (@PySem.Value.ref 274), (@PySem.Value.int (@OfNat.ofNat @Int 124 (@instOfNat 124)) 0), (@PySem.Value.int (@OfNat.ofNat @Int 0 (@instOfNat 0)) 0), (@PySem.Value.ref 281), (@PySem.Value.int (@OfNat.ofNat @Int 128 (@instOfNat 128)) 0), (@PySem.Value.int (@OfNat.ofNat @Int 0 (@instOfNat 0)) 0), (@PySem.Value.ref 286), (@PySem.Value.int (@OfNat.ofNat @Int 133 (@instOfNat 133)) 0), (@PySem.Value.int (@OfNat.ofNat @Int 0 (@instOfNat 0)) 0), (@PySem.Value.ref 291), (@PySem.Value.int (@OfNat.ofNat @Int 141 (@instOfNat 141)) 0), (@PySem.Value.int (@OfNat.ofNat @Int 0 (@instOfNat 0)) 0), (@PySem.Value.ref 296), (@PySem.Value.int (@OfNat.ofNat @Int 143 (@instOfNat 143)) 0), (@PySem.Value.int (@OfNat.ofNat @Int 0 (@instOfNat 0)) 0), (@PySem.Value.ref 301), (@PySem.Value.int (@OfNat.ofNat @Int 146 (@instOfNat 146)) 0), (@PySem.Value.int (@OfNat.ofNat @Int 0 (@instOfNat 0)) 0), (@PySem.Value.ref 308), (@PySem.Value.int (@OfNat.ofNat @Int 155 (@instOfNat 155)) 0), (@PySem.Value.int (@OfNat.ofNat @Int 0 (@instOfNat 0)) 0), (@PySem.Value.ref 315)])) (@List.toArray (@Option @PySem.Value) []))
noncomputable def o234 (P : Params) : Obj := sh0 P 
noncomputable def o235 (P : Params) : Obj := sh1 P 
noncomputable def o236 (P : Params) : Obj := sh17 P "_law_script" 487 "_law_k" 488
noncomputable def o237 (P : Params) : Obj := sh0 P 
noncomputable def o238 (P : Params) : Obj := sh14 P "_law_cell_at" 33 33
noncomputable def o239 (P : Params) : Obj := sh15 P "_law_cell_at" 484 485 486 97 2 234 235 236 237 238 489 490
noncomputable def o240 (P : Params) : Obj := sh16 P "_law_cell_at" 33 33 "law_uf020009_05" 482 239
noncomputable def o241 (P : Params) : Obj := sh0 P 
noncomputable def o242 (P : Params) : Obj := sh1 P 
noncomputable def o243 (P : Params) : Obj := sh17 P "_law_one" 495 "_law_other" 496
noncomputable def o244 (P : Params) : Obj := sh0 P 
noncomputable def o245 (P : Params) : Obj := sh14 P "_law_common" 34 34
noncomputable def o246 (P : Params) : Obj := sh15 P "_law_common" 492 493 494 101 2 241 242 243 244 245 497 498
noncomputable def o247 (P : Params) : Obj := sh16 P "_law_common" 34 34 "law_uf020009_05" 482 246
noncomputable def o248 (P : Params) : Obj := sh0 P 
noncomputable def o249 (P : Params) : Obj := sh1 P 
noncomputable def o250 (P : Params) : Obj := sh18 P "_law_top_here" 503 "_law_bottom" 504 "_law_common_here" 505
noncomputable def o251 (P : Params) : Obj := sh0 P 
noncomputable def o252 (P : Params) : Obj := sh14 P "_law_share" 35 35
noncomputable def o253 (P : Params) : Obj := sh15 P "_law_share" 500 501 502 105 2 248 249 250 251 252 506 507
noncomputable def o254 (P : Params) : Obj := sh16 P "_law_share" 35 35 "law_uf020009_05" 482 253
noncomputable def o255 (P : Params) : Obj := sh0 P 
noncomputable def o256 (P : Params) : Obj := sh1 P 
noncomputable def o257 (P : Params) : Obj := sh17 P "_law_e" 512 "_law_found" 513
noncomputable def o258 (P : Params) : Obj := sh0 P 
noncomputable def o259 (P : Params) : Obj := sh14 P "_law_word_of" 36 36
noncomputable def o260 (P : Params) : Obj := sh15 P "_law_word_of" 509 510 511 108 1 255 256 257 258 259 514 515
noncomputable def o261 (P : Params) : Obj := sh16 P "_law_word_of" 36 36 "law_uf020009_05" 482 260
noncomputable def o262 (P : Params) : Obj := sh0 P 
noncomputable def o263 (P : Params) : Obj := sh1 P 
noncomputable def o264 (P : Params) : Obj := sh17 P "_law_script" 520 "_law_k" 521
noncomputable def o265 (P : Params) : Obj := sh0 P 
noncomputable def o266 (P : Params) : Obj := sh14 P "_law_drawn" 37 37
noncomputable def o267 (P : Params) : Obj := sh15 P "_law_drawn" 517 518 519 114 2 262 263 264 265 266 522 523
noncomputable def o268 (P : Params) : Obj := sh16 P "_law_drawn" 37 37 "law_uf020009_05" 482 267
noncomputable def o269 (P : Params) : Obj := sh0 P 
noncomputable def o270 (P : Params) : Obj := sh1 P 
noncomputable def o271 (P : Params) : Obj := sh13 P "_law_cell" 528
noncomputable def o272 (P : Params) : Obj := sh0 P 
noncomputable def o273 (P : Params) : Obj := sh14 P "_law_top" 38 38
noncomputable def o274 (P : Params) : Obj := sh15 P "_law_top" 525 526 527 118 1 269 270 271 272 273 529 530
noncomputable def o275 (P : Params) : Obj := sh16 P "_law_top" 38 38 "law_uf020009_05" 482 274
noncomputable def o276 (P : Params) : Obj := sh0 P 
noncomputable def o277 (P : Params) : Obj := sh1 P 
noncomputable def o278 (P : Params) : Obj := sh13 P "_law_cell" 535
noncomputable def o279 (P : Params) : Obj := sh0 P 
noncomputable def o280 (P : Params) : Obj := sh14 P "_law_scales" 39 38
noncomputable def o281 (P : Params) : Obj := sh15 P "_law_scales" 532 533 534 124 1 276 277 278 279 280 536 537
noncomputable def o282 (P : Params) : Obj := sh16 P "_law_scales" 39 38 "law_uf020009_05" 482 281
noncomputable def o283 (P : Params) : Obj := sh0 P 
noncomputable def o284 (P : Params) : Obj := sh1 P 
noncomputable def o285 (P : Params) : Obj := sh14 P "_law_signs" 40 40
noncomputable def o286 (P : Params) : Obj := sh19 P "_law_signs" 539 "_law_signs" 540 541 128 1 283 284 285 542 543
noncomputable def o287 (P : Params) : Obj := sh16 P "_law_signs" 40 40 "law_uf020009_05" 482 286
noncomputable def o288 (P : Params) : Obj := sh0 P 
noncomputable def o289 (P : Params) : Obj := sh1 P 
noncomputable def o290 (P : Params) : Obj := sh14 P "_law_tops" 41 41
noncomputable def o291 (P : Params) : Obj := sh19 P "_law_tops" 545 "_law_tops" 546 547 133 4 288 289 290 548 549
noncomputable def o292 (P : Params) : Obj := sh16 P "_law_tops" 41 41 "law_uf020009_05" 482 291
noncomputable def o293 (P : Params) : Obj := sh0 P 
noncomputable def o294 (P : Params) : Obj := sh1 P 
noncomputable def o295 (P : Params) : Obj := sh14 P "_law_row" 42 42
noncomputable def o296 (P : Params) : Obj := sh19 P "_law_row" 551 "_law_row" 552 553 141 2 293 294 295 554 555
noncomputable def o297 (P : Params) : Obj := sh16 P "_law_row" 42 42 "law_uf020009_05" 482 296
noncomputable def o298 (P : Params) : Obj := sh0 P 
noncomputable def o299 (P : Params) : Obj := sh1 P 
noncomputable def o300 (P : Params) : Obj := sh14 P "_law_parts" 43 43
noncomputable def o301 (P : Params) : Obj := sh19 P "_law_parts" 557 "_law_parts" 558 559 143 3 298 299 300 560 561
noncomputable def o302 (P : Params) : Obj := sh16 P "_law_parts" 43 43 "law_uf020009_05" 482 301
noncomputable def o303 (P : Params) : Obj := sh0 P 
noncomputable def o304 (P : Params) : Obj := sh1 P 
noncomputable def sh21 (P : Params) (a0 : Nat) (a1 : String) (a2 : Nat) (a3 : String) (a4 : Nat) (a5 : String) (a6 : Nat) (a7 : String) (a8 : Nat) : Obj := (@PySem.Obj.mk (@PySem.Value.type "tuple") none (@PySem.Data.seq (@List.toArray @PySem.Value [(@PySem.Value.str (@PySem.Str.ofString "_law_cell") a0), (@PySem.Value.str (@PySem.Str.ofString a1) a2), (@PySem.Value.str (@PySem.Str.ofString a3) a4), (@PySem.Value.str (@PySem.Str.ofString a5) a6), (@PySem.Value.str (@PySem.Str.ofString a7) a8)]) 0) (@List.toArray (@Option @PySem.Value) []))
noncomputable def o305 (P : Params) : Obj := sh21 P 566 "_law_signs_here" 567 "_law_some" 568 "_law_others" 569 "_law_at" 570
noncomputable def o306 (P : Params) : Obj := sh0 P 
noncomputable def o307 (P : Params) : Obj := sh14 P "_law_no_signs" 44 44
noncomputable def o308 (P : Params) : Obj := sh15 P "_law_no_signs" 563 564 565 146 2 303 304 305 306 307 571 572
noncomputable def o309 (P : Params) : Obj := sh16 P "_law_no_signs" 44 44 "law_uf020009_05" 482 308
noncomputable def o310 (P : Params) : Obj := sh0 P 
noncomputable def o311 (P : Params) : Obj := sh1 P 
noncomputable def o312 (P : Params) : Obj := sh21 P 577 "_law_row_here" 578 "_law_bad" 579 "_law_at" 580 "_law_some" 581
noncomputable def o313 (P : Params) : Obj := sh0 P 
noncomputable def o314 (P : Params) : Obj := sh14 P "_law_no_row" 45 45
noncomputable def o315 (P : Params) : Obj := sh15 P "_law_no_row" 574 575 576 155 2 310 311 312 313 314 582 583
noncomputable def o316 (P : Params) : Obj := sh16 P "_law_no_row" 45 45 "law_uf020009_05" 482 315
noncomputable def o3_11 (P : Params) : Obj := (@PySem.Obj.mk (@PySem.Value.type "dict") none (@PySem.Data.dict (@List.toArray @PySem.DictEntry [(dE P "__name__" 165 (@PySem.Value.str (@PySem.Str.ofString "law_uf020009_05") 482)), (dE P "__doc__" 166 @PySem.Value.none), (dE P "__package__" 167 @PySem.Value.none), (dE P "__loader__" 168 (@PySem.Value.builtin "__main__.__loader__#opaque")), (dE P "__spec__" 169 @PySem.Value.none), (dE P "__annotations__" 170 (@PySem.Value.ref 6)), (dE P "__builtins__" 171 (@PySem.Value.ref 4)), (dE P "__file__" 173 (@PySem.Value.str (@PySem.Str.ofString "/claim/cut.py") 172)), (dE P "__cached__" 174 @PySem.Value.none), (dE P "WeighError" 206 (@PySem.Value.ref 24)), (dE P "Nought" 222 (@PySem.Value.ref 37)), (dE P "NoText" 238 (@PySem.Value.ref 49)), (dE P "NoRow" 254 (@PySem.Value.ref 61)), (dE P "NoMachine" 270 (@PySem.Value.ref 73)), (dE P "NoWord" 286 (@PySem.Value.ref 85)), (dE P "OtherSigns" 302 (@PySem.Value.ref 97)), (dE P "TooMany" 318 (@PySem.Value.ref 109)), (dE P "NOUGHT" 323 (@PySem.Value.ref 112)), (dE P "is_whole" 330 (@PySem.Value.ref 119)), (dE P "common" 338 (@PySem.Value.ref 126)), (dE P "is_share" 345 (@PySem.Value.ref 133)), (dE P "share" 354 (@PySem.Value.ref 140)), (dE P "plus" 362 (@PySem.Value.ref 147)), (dE P "times" 370 (@PySem.Value.ref 154)), (dE P "summed_up" 379 (@PySem.Value.ref 161)), (dE P "crossed" 385 (@PySem.Value.ref 166)), (dE P "LETTERS" 389 (@PySem.Value.str (@PySem.Str.ofString "abcdefghijklmnopqrstuvwxyz") 388)), (dE P "MOST_SIGNS" 391 (@PySem.Value.int (@OfNat.ofNat @Int 6 (@instOfNat 6)) 390)), (dE P "MOST_ROOMS" 393 (@PySem.Value.int (@OfNat.ofNat @Int 12 (@instOfNat 12)) 392)), (dE P "is_signs" 402 (@PySem.Value.ref 173)), (dE P "is_row" 408 (@PySem.Value.ref 178)), (dE P "is_table" 414 (@PySem.Value.ref 183)), (dE P "Machine" 444 (@PySem.Value.ref 198)), (dE P "rooms" 451 (@PySem.Value.ref 209)), (dE P "led" 457 (@PySem.Value.ref 214)), (dE P "need_word" 463 (@PySem.Value.ref 219)), (dE P "row_of" 473 (@PySem.Value.ref 226)), (dE P "weight" 481 (@PySem.Value.ref 233)), (dE P "_law_cell_at" 491 (@PySem.Value.ref 240)), (dE P "_law_common" 499 (@PySem.Value.ref 247)), (dE P "_law_share" 508 (@PySem.Value.ref 254)), (dE P "_law_word_of" 516 (@PySem.Value.ref 261)), (dE P "_law_drawn" 524 (@PySem.Value.ref 268)), (dE P "_law_top" 531 (@PySem.Value.ref 275)), (dE P "_law_scales" 538 (@PySem.Value.ref 282)), (dE P "_law_signs" 544 (@PySem.Value.ref 287)), (dE P "_law_tops" 550 (@PySem.Value.ref 292)), (dE P "_law_row" 556 (@PySem.Value.ref 297)), (dE P "_law_parts" 562 (@PySem.Value.ref 302)), (dE P "_law_no_signs" 573 (@PySem.Value.ref 309)), (dE P "_law_no_row" 584 (@PySem.Value.ref 316)), (dE P "_law_spoilt" 590 (@PySem.Value.ref 321)), (dE P "_law_told" 598 (@PySem.Value.ref 328)), (dE P "_law_wide" 604 (@PySem.Value.ref 333)), (dE P "_law_word_refused" 614 (@PySem.Value.ref 340)), (dE P "_law_words_refused" 620 (@PySem.Value.ref 345)), (dE P "law" 626 (@PySem.Value.ref 350))]) 57) (@List.toArray (@Option @PySem.Value) []))
noncomputable def o12_11 (P : Params) : Obj := (@PySem.Obj.mk @PySem.Value.none none (@PySem.Data.fields (@List.toArray @PySem.Value [(@PySem.Value.int (@OfNat.ofNat @Int 2 (@instOfNat 2)) 0), (@PySem.Value.int (@OfNat.ofNat @Int 0 (@instOfNat 0)) 0), (@PySem.Value.ref 20), (@PySem.Value.int (@OfNat.ofNat @Int 4 (@instOfNat 4)) 0), (@PySem.Value.int (@OfNat.ofNat @Int 0 (@instOfNat 0)) 0), (@PySem.Value.ref 33), (@PySem.Value.int (@OfNat.ofNat @Int 6 (@instOfNat 6)) 0), (@PySem.Value.int (@OfNat.ofNat @Int 0 (@instOfNat 0)) 0), (@PySem.Value.ref 45), (@PySem.Value.int (@OfNat.ofNat @Int 8 (@instOfNat 8)) 0), (@PySem.Value.int (@OfNat.ofNat @Int 0 (@instOfNat 0)) 0), (@PySem.Value.ref 57), (@PySem.Value.int (@OfNat.ofNat @Int 10 (@instOfNat 10)) 0), (@PySem.Value.int (@OfNat.ofNat @Int 0 (@instOfNat 0)) 0), (@PySem.Value.ref 69), (@PySem.Value.int (@OfNat.ofNat @Int 12 (@instOfNat 12)) 0), (@PySem.Value.int (@OfNat.ofNat @Int 0 (@instOfNat 0)) 0), (@PySem.Value.ref 81), (@PySem.Value.int (@OfNat.ofNat @Int 14 (@instOfNat 14)) 0), (@PySem.Value.int (@OfNat.ofNat @Int 0 (@instOfNat 0)) 0), (@PySem.Value.ref 93), (@PySem.Value.int (@OfNat.ofNat @Int 16 (@instOfNat 16)) 0), (@PySem.Value.int (@OfNat.ofNat @Int 0 (@instOfNat 0)) 0), (@PySem.Value.ref 105), (@PySem.Value.int (@OfNat.ofNat @Int 20 (@instOfNat 20)) 0), (@PySem.Value.int (@OfNat.ofNat @Int 0 (@instOfNat 0)) 0), (@PySem.Value.ref 118), (@PySem.Value.int (@OfNat.ofNat @Int 22 (@instOfNat 22)) 0), (@PySem.Value.int (@OfNat.ofNat @Int 0 (@instOfNat 0)) 0), (@PySem.Value.ref 125), (@PySem.Value.int (@OfNat.ofNat @Int 26 (@instOfNat 26)) 0), (@PySem.Value.int (@OfNat.ofNat @Int 0 (@instOfNat 0)) 0), (@PySem.Value.ref 132), (@PySem.Value.int (@OfNat.ofNat @Int 30 (@instOfNat 30)) 0), (@PySem.Value.int (@OfNat.ofNat @Int 0 (@instOfNat 0)) 0), (@PySem.Value.ref 139), (@PySem.Value.int (@OfNat.ofNat @Int 37 (@instOfNat 37)) 0), (@PySem.Value.int (@OfNat.ofNat @Int 0 (@instOfNat 0)) 0), (@PySem.Value.ref 146), (@PySem.Value.int (@OfNat.ofNat @Int 39 (@instOfNat 39)) 0), (@PySem.Value.int (@OfNat.ofNat @Int 0 (@instOfNat 0)) 0), (@PySem.Value.ref 153), (@PySem.Value.int (@OfNat.ofNat @Int 41 (@instOfNat 41)) 0), (@PySem.Value.int (@OfNat.ofNat @Int 0 (@instOfNat 0)) 0), (@PySem.Value.ref 160), (@PySem.Value.int (@OfNat.ofNat @Int 46 (@instOfNat 46)) 0), (@PySem.Value.int (@OfNat.ofNat @Int 0 (@instOfNat 0)) 0), (@PySem.Value.ref 165), (@PySem.Value.int (@OfNat.ofNat @Int 52 (@instOfNat 52)) 0), (@PySem.Value.int (@OfNat.ofNat @Int 0 (@instOfNat 0)) 0), (@PySem.Value.ref 172), (@PySem.Value.int (@OfNat.ofNat @Int 61 (@instOfNat 61)) 0), (@PySem.Value.int (@OfNat.ofNat @Int 0 (@instOfNat 0)) 0), (@PySem.Value.ref 177), (@PySem.Value.int (@OfNat.ofNat @Int 63 (@instOfNat 63)) 0), (@PySem.Value.int (@OfNat.ofNat @Int 0 (@instOfNat 0)) 0), (@PySem.Value.ref 182), (@PySem.Value.int (@OfNat.ofNat @Int 65 (@instOfNat 65)) 0), (@PySem.Value.int (@OfNat.ofNat @Int 0 (@instOfNat 0)) 0), (@PySem.Value.ref 189), (@PySem.Value.int (@OfNat.ofNat @Int 81 (@instOfNat 81)) 0), (@PySem.Value.int (@OfNat.ofNat @Int 0 (@instOfNat 0)) 0), (@PySem.Value.ref 208), (@PySem.Value.int (@OfNat.ofNat @Int 83 (@instOfNat 83)) 0), (@PySem.Value.int (@OfNat.ofNat @Int 0 (@instOfNat 0)) 0), (@PySem.Value.ref 213), (@PySem.Value.int (@OfNat.ofNat @Int 85 (@instOfNat 85)) 0), (@PySem.Value.int (@OfNat.ofNat @Int 0 (@instOfNat 0)) 0), (@PySem.Value.ref 218), (@PySem.Value.int (@OfNat.ofNat @Int 88 (@instOfNat 88)) 0), (@PySem.Value.int (@OfNat.ofNat @Int 0 (@instOfNat 0)) 0), (@PySem.Value.ref 225), (@PySem.Value.int (@OfNat.ofNat @Int 94 (@instOfNat 94)) 0), (@PySem.Value.int (@OfNat.ofNat @Int 0 (@instOfNat 0)) 0), (@PySem.Value.ref 232), (@PySem.Value.int (@OfNat.ofNat @Int 97 (@instOfNat 97)) 0), (@PySem.Value.int (@OfNat.ofNat @Int 0 (@instOfNat 0)) 0), (@PySem.Value.ref 239), (@PySem.Value.int (@OfNat.ofNat @Int 101 (@instOfNat 101)) 0), (@PySem.Value.int (@OfNat.ofNat @Int 0 (@instOfNat 0)) 0), (@PySem.Value.ref 246), (@PySem.Value.int (@OfNat.ofNat @Int 105 (@instOfNat 105)) 0), (@PySem.Value.int (@OfNat.ofNat @Int 0 (@instOfNat 0)) 0), (@PySem.Value.ref 253), (@PySem.Value.int (@OfNat.ofNat @Int 108 (@instOfNat 108)) 0), (@PySem.Value.int (@OfNat.ofNat @Int 0 (@instOfNat 0)) 0), (@PySem.Value.ref 260), (@PySem.Value.int (@OfNat.ofNat @Int 114 (@instOfNat 114)) 0), (@PySem.Value.int (@OfNat.ofNat @Int 0 (@instOfNat 0)) 0), (@PySem.Value.ref 267), (@PySem.Value.int (@OfNat.ofNat @Int 118 (@instOfNat 118)) 0), (@PySem.Value.int (@OfNat.ofNat @Int 0 (@instOfNat 0)) 0), (@PySem.Value.ref 274), (@PySem.Value.int (@OfNat.ofNat @Int 124 (@instOfNat 124)) 0), (@PySem.Value.int (@OfNat.ofNat @Int 0 (@instOfNat 0)) 0), (@PySem.Value.ref 281), (@PySem.Value.int (@OfNat.ofNat @Int 128 (@instOfNat 128)) 0), (@PySem.Value.int (@OfNat.ofNat @Int 0 (@instOfNat 0)) 0), (@PySem.Value.ref 286), (@PySem.Value.int (@OfNat.ofNat @Int 133 (@instOfNat 133)) 0), (@PySem.Value.int (@OfNat.ofNat @Int 0 (@instOfNat 0)) 0), (@PySem.Value.ref 291), (@PySem.Value.int (@OfNat.ofNat @Int 141 (@instOfNat 141)) 0), (@PySem.Value.int (@OfNat.ofNat @Int 0 (@instOfNat 0)) 0), (@PySem.Value.ref 296), (@PySem.Value.int (@OfNat.ofNat @Int 143 (@instOfNat 143)) 0), (@PySem.Value.int (@OfNat.ofNat @Int 0 (@instOfNat 0)) 0), (@PySem.Value.ref 301), (@PySem.Value.int (@OfNat.ofNat @Int 146 (@instOfNat 146)) 0), (@PySem.Value.int (@OfNat.ofNat @Int 0 (@instOfNat 0)) 0), (@PySem.Value.ref 308), (@PySem.Value.int (@OfNat.ofNat @Int 155 (@instOfNat 155)) 0), (@PySem.Value.int (@OfNat.ofNat @Int 0 (@instOfNat 0)) 0), (@PySem.Value.ref 315), (@PySem.Value.int (@OfNat.ofNat @Int 161 (@instOfNat 161)) 0), (@PySem.Value.int (@OfNat.ofNat @Int 0 (@instOfNat 0)) 0), (@PySem.Value.ref 320), (@PySem.Value.int (@OfNat.ofNat @Int 185 (@instOfNat 185)) 0), (@PySem.Value.int (@OfNat.ofNat @Int 0 (@instOfNat 0)) 0), (@PySem.Value.ref 327), (@PySem.Value.int (@OfNat.ofNat @Int 190 (@instOfNat 190)) 0), (@PySem.Value.int (@OfNat.ofNat @Int 0 (@instOfNat 0)) 0), (@PySem.Value.ref 332), (@PySem.Value.int (@OfNat.ofNat @Int 193 (@instOfNat 193)) 0), (@PySem.Value.int (@OfNat.ofNat @Int 0 (@instOfNat 0)) 0), (@PySem.Value.ref 339), (@PySem.Value.int (@OfNat.ofNat @Int 202 (@instOfNat 202)) 0), (@PySem.Value.int (@OfNat.ofNat @Int 0 (@instOfNat 0)) 0), (@PySem.Value.ref 344), (@PySem.Value.int (@OfNat.ofNat @Int 212 (@instOfNat 212)) 0), (@PySem.Value.int (@OfNat.ofNat @Int 0 (@instOfNat 0)) 0), (@PySem.Value.ref 349)])) (@List.toArray (@Option @PySem.Value) []))
noncomputable def o317 (P : Params) : Obj := sh0 P 
noncomputable def o318 (P : Params) : Obj := sh1 P 
noncomputable def o319 (P : Params) : Obj := sh14 P "_law_spoilt" 46 46
noncomputable def o320 (P : Params) : Obj := sh19 P "_law_spoilt" 585 "_law_spoilt" 586 587 161 2 317 318 319 588 589
noncomputable def o321 (P : Params) : Obj := sh16 P "_law_spoilt" 46 46 "law_uf020009_05" 482 320
noncomputable def o322 (P : Params) : Obj := sh0 P 
noncomputable def o323 (P : Params) : Obj := sh1 P 
noncomputable def o324 (P : Params) : Obj := sh17 P "_law_parts_here" 594 "_law_e" 595
noncomputable def o325 (P : Params) : Obj := sh0 P 
noncomputable def o326 (P : Params) : Obj := sh14 P "_law_told" 47 47
noncomputable def o327 (P : Params) : Obj := sh15 P "_law_told" 591 592 593 185 1 322 323 324 325 326 596 597
noncomputable def o328 (P : Params) : Obj := sh16 P "_law_told" 47 47 "law_uf020009_05" 482 327
noncomputable def o329 (P : Params) : Obj := sh0 P 
noncomputable def o330 (P : Params) : Obj := sh1 P 
noncomputable def o331 (P : Params) : Obj := sh14 P "_law_wide" 48 48
noncomputable def o332 (P : Params) : Obj := sh19 P "_law_wide" 599 "_law_wide" 600 601 190 2 329 330 331 602 603
noncomputable def o333 (P : Params) : Obj := sh16 P "_law_wide" 48 48 "law_uf020009_05" 482 332
noncomputable def o334 (P : Params) : Obj := sh0 P 
noncomputable def o335 (P : Params) : Obj := sh1 P 
noncomputable def o336 (P : Params) : Obj := sh20 P "_law_way" 608 "_law_machine" 609 "_law_word" 610 "_law_e" 611
noncomputable def o337 (P : Params) : Obj := sh0 P 
noncomputable def o338 (P : Params) : Obj := sh14 P "_law_word_refused" 49 49
noncomputable def o339 (P : Params) : Obj := sh15 P "_law_word_refused" 605 606 607 193 3 334 335 336 337 338 612 613
noncomputable def o340 (P : Params) : Obj := sh16 P "_law_word_refused" 49 49 "law_uf020009_05" 482 339
noncomputable def o341 (P : Params) : Obj := sh0 P 
noncomputable def o342 (P : Params) : Obj := sh1 P 
noncomputable def o343 (P : Params) : Obj := sh14 P "_law_words_refused" 50 50
noncomputable def o344 (P : Params) : Obj := sh19 P "_law_words_refused" 615 "_law_words_refused" 616 617 202 3 341 342 343 618 619
noncomputable def o345 (P : Params) : Obj := sh16 P "_law_words_refused" 50 50 "law_uf020009_05" 482 344
noncomputable def o346 (P : Params) : Obj := sh0 P 
noncomputable def o347 (P : Params) : Obj := sh1 P 
noncomputable def o348 (P : Params) : Obj := sh14 P "law" 51 51
noncomputable def o349 (P : Params) : Obj := sh19 P "law" 621 "law" 622 623 212 1 346 347 348 624 625
noncomputable def o350 (P : Params) : Obj := sh16 P "law" 51 51 "law_uf020009_05" 482 349
noncomputable def LA (P : Params) : List Obj := [boot_o_0 P, boot_o_1 P, boot_o_2 P, boot_o_3 P, boot_o_4 P, boot_o_5 P, boot_o_6 P, boot_o_7 P, boot_o_8 P, boot_o_9 P, boot_o_10 P, o11 P, o12 P, o13 P, o14 P]
noncomputable def LB (P : Params) : List Obj := [boot_o_0 P, boot_o_1 P, boot_o_2 P, boot_o_3 P, boot_o_4 P, boot_o_5 P, boot_o_6 P, boot_o_7 P, boot_o_8 P, boot_o_9 P, boot_o_10 P, o11 P, o12 P, o13 P, o14 P]
noncomputable def L0 (P : Params) : List Obj := [boot_o_0 P, boot_o_1 P, boot_o_2 P, o3_0 P, boot_o_4 P, boot_o_5 P, boot_o_6 P, boot_o_7 P, boot_o_8 P, boot_o_9 P, boot_o_10 P, o11 P, o12_0 P, o13 P, o14 P, o15 P, o16 P, o17 P, o18 P, o19 P, o20 P, o21 P, o22 P, o23 P, o24 P, o25 P, o26 P, o27 P]
noncomputable def L1 (P : Params) : List Obj := [boot_o_0 P, boot_o_1 P, boot_o_2 P, o3_1 P, boot_o_4 P, boot_o_5 P, boot_o_6 P, boot_o_7 P, boot_o_8 P, boot_o_9 P, boot_o_10 P, o11 P, o12_1 P, o13 P, o14 P, o15 P, o16 P, o17 P, o18 P, o19 P, o20 P, o21 P, o22 P, o23 P, o24_1 P, o25 P, o26 P, o27 P, o28 P, o29 P, o30 P, o31 P, o32 P, o33 P, o34 P, o35 P, o36 P, o37 P, o38 P, o39 P]
noncomputable def L2 (P : Params) : List Obj := [boot_o_0 P, boot_o_1 P, boot_o_2 P, o3_2 P, boot_o_4 P, boot_o_5 P, boot_o_6 P, boot_o_7 P, boot_o_8 P, boot_o_9 P, boot_o_10 P, o11 P, o12_2 P, o13 P, o14 P, o15 P, o16 P, o17 P, o18 P, o19 P, o20 P, o21 P, o22 P, o23 P, o24_2 P, o25 P, o26 P, o27 P, o28 P, o29 P, o30 P, o31 P, o32 P, o33 P, o34 P, o35 P, o36 P, o37 P, o38 P, o39 P, o40 P, o41 P, o42 P, o43 P, o44 P, o45 P, o46 P, o47 P, o48 P, o49 P, o50 P, o51 P]
noncomputable def L3 (P : Params) : List Obj := [boot_o_0 P, boot_o_1 P, boot_o_2 P, o3_3 P, boot_o_4 P, boot_o_5 P, boot_o_6 P, boot_o_7 P, boot_o_8 P, boot_o_9 P, boot_o_10 P, o11 P, o12_3 P, o13 P, o14 P, o15 P, o16 P, o17 P, o18 P, o19 P, o20 P, o21 P, o22 P, o23 P, o24_3 P, o25 P, o26 P, o27 P, o28 P, o29 P, o30 P, o31 P, o32 P, o33 P, o34 P, o35 P, o36 P, o37 P, o38 P, o39 P, o40 P, o41 P, o42 P, o43 P, o44 P, o45 P, o46 P, o47 P, o48 P, o49 P, o50 P, o51 P, o52 P, o53 P, o54 P, o55 P, o56 P, o57 P, o58 P, o59 P, o60 P, o61 P, o62 P, o63 P]
noncomputable def L4 (P : Params) : List Obj := [boot_o_0 P, boot_o_1 P, boot_o_2 P, o3_4 P, boot_o_4 P, boot_o_5 P, boot_o_6 P, boot_o_7 P, boot_o_8 P, boot_o_9 P, boot_o_10 P, o11 P, o12_4 P, o13 P, o14 P, o15 P, o16 P, o17 P, o18 P, o19 P, o20 P, o21 P, o22 P, o23 P, o24_4 P, o25 P, o26 P, o27 P, o28 P, o29 P, o30 P, o31 P, o32 P, o33 P, o34 P, o35 P, o36 P, o37 P, o38 P, o39 P, o40 P, o41 P, o42 P, o43 P, o44 P, o45 P, o46 P, o47 P, o48 P, o49 P, o50 P, o51 P, o52 P, o53 P, o54 P, o55 P, o56 P, o57 P, o58 P, o59 P, o60 P, o61 P, o62 P, o63 P, o64 P, o65 P, o66 P, o67 P, o68 P, o69 P, o70 P, o71 P, o72 P, o73 P, o74 P, o75 P]
noncomputable def L5 (P : Params) : List Obj := [boot_o_0 P, boot_o_1 P, boot_o_2 P, o3_5 P, boot_o_4 P, boot_o_5 P, boot_o_6 P, boot_o_7 P, boot_o_8 P, boot_o_9 P, boot_o_10 P, o11 P, o12_5 P, o13 P, o14 P, o15 P, o16 P, o17 P, o18 P, o19 P, o20 P, o21 P, o22 P, o23 P, o24_5 P, o25 P, o26 P, o27 P, o28 P, o29 P, o30 P, o31 P, o32 P, o33 P, o34 P, o35 P, o36 P, o37 P, o38 P, o39 P, o40 P, o41 P, o42 P, o43 P, o44 P, o45 P, o46 P, o47 P, o48 P, o49 P, o50 P, o51 P, o52 P, o53 P, o54 P, o55 P, o56 P, o57 P, o58 P, o59 P, o60 P, o61 P, o62 P, o63 P, o64 P, o65 P, o66 P, o67 P, o68 P, o69 P, o70 P, o71 P, o72 P, o73 P, o74 P, o75 P, o76 P, o77 P, o78 P, o79 P, o80 P, o81 P, o82 P, o83 P, o84 P, o85 P, o86 P, o87 P]
noncomputable def L6 (P : Params) : List Obj := [boot_o_0 P, boot_o_1 P, boot_o_2 P, o3_6 P, boot_o_4 P, boot_o_5 P, boot_o_6 P, boot_o_7 P, boot_o_8 P, boot_o_9 P, boot_o_10 P, o11 P, o12_6 P, o13 P, o14 P, o15 P, o16 P, o17 P, o18 P, o19 P, o20 P, o21 P, o22 P, o23 P, o24_6 P, o25 P, o26 P, o27 P, o28 P, o29 P, o30 P, o31 P, o32 P, o33 P, o34 P, o35 P, o36 P, o37 P, o38 P, o39 P, o40 P, o41 P, o42 P, o43 P, o44 P, o45 P, o46 P, o47 P, o48 P, o49 P, o50 P, o51 P, o52 P, o53 P, o54 P, o55 P, o56 P, o57 P, o58 P, o59 P, o60 P, o61 P, o62 P, o63 P, o64 P, o65 P, o66 P, o67 P, o68 P, o69 P, o70 P, o71 P, o72 P, o73 P, o74 P, o75 P, o76 P, o77 P, o78 P, o79 P, o80 P, o81 P, o82 P, o83 P, o84 P, o85 P, o86 P, o87 P, o88 P, o89 P, o90 P, o91 P, o92 P, o93 P, o94 P, o95 P, o96 P, o97 P, o98 P, o99 P]
noncomputable def L7 (P : Params) : List Obj := [boot_o_0 P, boot_o_1 P, boot_o_2 P, o3_7 P, boot_o_4 P, boot_o_5 P, boot_o_6 P, boot_o_7 P, boot_o_8 P, boot_o_9 P, boot_o_10 P, o11 P, o12_7 P, o13 P, o14 P, o15 P, o16 P, o17 P, o18 P, o19 P, o20 P, o21 P, o22 P, o23 P, o24_7 P, o25 P, o26 P, o27 P, o28 P, o29 P, o30 P, o31 P, o32 P, o33 P, o34 P, o35 P, o36 P, o37 P, o38 P, o39 P, o40 P, o41 P, o42 P, o43 P, o44 P, o45 P, o46 P, o47 P, o48 P, o49 P, o50 P, o51 P, o52 P, o53 P, o54 P, o55 P, o56 P, o57 P, o58 P, o59 P, o60 P, o61 P, o62 P, o63 P, o64 P, o65 P, o66 P, o67 P, o68 P, o69 P, o70 P, o71 P, o72 P, o73 P, o74 P, o75 P, o76 P, o77 P, o78 P, o79 P, o80 P, o81 P, o82 P, o83 P, o84 P, o85 P, o86 P, o87 P, o88 P, o89 P, o90 P, o91 P, o92 P, o93 P, o94 P, o95 P, o96 P, o97 P, o98 P, o99 P, o100 P, o101 P, o102 P, o103 P, o104 P, o105 P, o106 P, o107 P, o108 P, o109 P, o110 P, o111 P, o112 P, o113 P, o114 P, o115 P, o116 P, o117 P, o118 P, o119 P, o120 P, o121 P, o122 P, o123 P, o124 P, o125 P, o126 P, o127 P, o128 P, o129 P, o130 P, o131 P, o132 P, o133 P, o134 P, o135 P, o136 P, o137 P, o138 P, o139 P, o140 P, o141 P, o142 P, o143 P, o144 P, o145 P, o146 P, o147 P]
noncomputable def L8 (P : Params) : List Obj := [boot_o_0 P, boot_o_1 P, boot_o_2 P, o3_8 P, boot_o_4 P, boot_o_5 P, boot_o_6 P, boot_o_7 P, boot_o_8 P, boot_o_9 P, boot_o_10 P, o11 P, o12_8 P, o13 P, o14 P, o15 P, o16 P, o17 P, o18 P, o19 P, o20 P, o21 P, o22 P, o23 P, o24_7 P, o25 P, o26 P, o27 P, o28 P, o29 P, o30 P, o31 P, o32 P, o33 P, o34 P, o35 P, o36 P, o37 P, o38 P, o39 P, o40 P, o41 P, o42 P, o43 P, o44 P, o45 P, o46 P, o47 P, o48 P, o49 P, o50 P, o51 P, o52 P, o53 P, o54 P, o55 P, o56 P, o57 P, o58 P, o59 P, o60 P, o61 P, o62 P, o63 P, o64 P, o65 P, o66 P, o67 P, o68 P, o69 P, o70 P, o71 P, o72 P, o73 P, o74 P, o75 P, o76 P, o77 P, o78 P, o79 P, o80 P, o81 P, o82 P, o83 P, o84 P, o85 P, o86 P, o87 P, o88 P, o89 P, o90 P, o91 P, o92 P, o93 P, o94 P, o95 P, o96 P, o97 P, o98 P, o99 P, o100 P, o101 P, o102 P, o103 P, o104 P, o105 P, o106 P, o107 P, o108 P, o109 P, o110 P, o111 P, o112 P, o113 P, o114 P, o115 P, o116 P, o117 P, o118 P, o119 P, o120 P, o121 P, o122 P, o123 P, o124 P, o125 P, o126 P, o127 P, o128 P, o129 P, o130 P, o131 P, o132 P, o133 P, o134 P, o135 P, o136 P, o137 P, o138 P, o139 P, o140 P, o141 P, o142 P, o143 P, o144 P, o145 P, o146 P, o147 P, o148 P, o149 P, o150 P, o151 P, o152 P, o153 P, o154 P, o155 P, o156 P, o157 P, o158 P, o159 P, o160 P, o161 P, o162 P, o163 P, o164 P, o165 P, o166 P, o167 P, o168 P, o169 P, o170 P, o171 P, o172 P, o173 P, o174 P, o175 P, o176 P, o177 P, o178 P, o179 P, o180 P, o181 P, o182 P, o183 P]
noncomputable def L9 (P : Params) : List Obj := [boot_o_0 P, boot_o_1 P, boot_o_2 P, o3_9 P, boot_o_4 P, boot_o_5 P, boot_o_6 P, boot_o_7 P, boot_o_8 P, boot_o_9 P, boot_o_10 P, o11 P, o12_9 P, o13 P, o14 P, o15 P, o16 P, o17 P, o18 P, o19 P, o20 P, o21 P, o22 P, o23 P, o24_7 P, o25 P, o26 P, o27 P, o28 P, o29 P, o30 P, o31 P, o32 P, o33 P, o34 P, o35 P, o36 P, o37 P, o38 P, o39 P, o40 P, o41 P, o42 P, o43 P, o44 P, o45 P, o46 P, o47 P, o48 P, o49 P, o50 P, o51 P, o52 P, o53 P, o54 P, o55 P, o56 P, o57 P, o58 P, o59 P, o60 P, o61 P, o62 P, o63 P, o64 P, o65 P, o66 P, o67 P, o68 P, o69 P, o70 P, o71 P, o72 P, o73 P, o74 P, o75 P, o76 P, o77 P, o78 P, o79 P, o80 P, o81 P, o82 P, o83 P, o84 P, o85 P, o86 P, o87 P, o88 P, o89 P, o90 P, o91 P, o92 P, o93 P, o94 P, o95 P, o96 P, o97 P, o98 P, o99 P, o100 P, o101 P, o102 P, o103 P, o104 P, o105 P, o106 P, o107 P, o108 P, o109 P, o110 P, o111 P, o112 P, o113 P, o114 P, o115 P, o116 P, o117 P, o118 P, o119 P, o120 P, o121 P, o122 P, o123 P, o124 P, o125 P, o126 P, o127 P, o128 P, o129 P, o130 P, o131 P, o132 P, o133 P, o134 P, o135 P, o136 P, o137 P, o138 P, o139 P, o140 P, o141 P, o142 P, o143 P, o144 P, o145 P, o146 P, o147 P, o148 P, o149 P, o150 P, o151 P, o152 P, o153 P, o154 P, o155 P, o156 P, o157 P, o158 P, o159 P, o160 P, o161 P, o162 P, o163 P, o164 P, o165 P, o166 P, o167 P, o168 P, o169 P, o170 P, o171 P, o172 P, o173 P, o174 P, o175 P, o176 P, o177 P, o178 P, o179 P, o180 P, o181 P, o182 P, o183 P, o184 P, o185 P, o186 P, o187 P, o188 P, o189 P, o190 P, o191 P, o192 P, o193 P, o194 P, o195 P, o196 P, o197 P, o198 P, o199 P, o200 P, o201 P, o202 P, o203 P, o204 P, o205 P, o206 P, o207 P, o208 P, o209 P, o210 P, o211 P, o212 P, o213 P, o214 P, o215 P, o216 P, o217 P, o218 P, o219 P, o220 P, o221 P, o222 P, o223 P, o224 P, o225 P, o226 P, o227 P, o228 P, o229 P, o230 P, o231 P, o232 P, o233 P]
noncomputable def L10 (P : Params) : List Obj := [boot_o_0 P, boot_o_1 P, boot_o_2 P, o3_10 P, boot_o_4 P, boot_o_5 P, boot_o_6 P, boot_o_7 P, boot_o_8 P, boot_o_9 P, boot_o_10 P, o11 P, o12_10 P, o13 P, o14 P, o15 P, o16 P, o17 P, o18 P, o19 P, o20 P, o21 P, o22 P, o23 P, o24_7 P, o25 P, o26 P, o27 P, o28 P, o29 P, o30 P, o31 P, o32 P, o33 P, o34 P, o35 P, o36 P, o37 P, o38 P, o39 P, o40 P, o41 P, o42 P, o43 P, o44 P, o45 P, o46 P, o47 P, o48 P, o49 P, o50 P, o51 P, o52 P, o53 P, o54 P, o55 P, o56 P, o57 P, o58 P, o59 P, o60 P, o61 P, o62 P, o63 P, o64 P, o65 P, o66 P, o67 P, o68 P, o69 P, o70 P, o71 P, o72 P, o73 P, o74 P, o75 P, o76 P, o77 P, o78 P, o79 P, o80 P, o81 P, o82 P, o83 P, o84 P, o85 P, o86 P, o87 P, o88 P, o89 P, o90 P, o91 P, o92 P, o93 P, o94 P, o95 P, o96 P, o97 P, o98 P, o99 P, o100 P, o101 P, o102 P, o103 P, o104 P, o105 P, o106 P, o107 P, o108 P, o109 P, o110 P, o111 P, o112 P, o113 P, o114 P, o115 P, o116 P, o117 P, o118 P, o119 P, o120 P, o121 P, o122 P, o123 P, o124 P, o125 P, o126 P, o127 P, o128 P, o129 P, o130 P, o131 P, o132 P, o133 P, o134 P, o135 P, o136 P, o137 P, o138 P, o139 P, o140 P, o141 P, o142 P, o143 P, o144 P, o145 P, o146 P, o147 P, o148 P, o149 P, o150 P, o151 P, o152 P, o153 P, o154 P, o155 P, o156 P, o157 P, o158 P, o159 P, o160 P, o161 P, o162 P, o163 P, o164 P, o165 P, o166 P, o167 P, o168 P, o169 P, o170 P, o171 P, o172 P, o173 P, o174 P, o175 P, o176 P, o177 P, o178 P, o179 P, o180 P, o181 P, o182 P, o183 P, o184 P, o185 P, o186 P, o187 P, o188 P, o189 P, o190 P, o191 P, o192 P, o193 P, o194 P, o195 P, o196 P, o197 P, o198 P, o199 P, o200 P, o201 P, o202 P, o203 P, o204 P, o205 P, o206 P, o207 P, o208 P, o209 P, o210 P, o211 P, o212 P, o213 P, o214 P, o215 P, o216 P, o217 P, o218 P, o219 P, o220 P, o221 P, o222 P, o223 P, o224 P, o225 P, o226 P, o227 P, o228 P, o229 P, o230 P, o231 P, o232 P, o233 P, o234 P, o235 P, o236 P, o237 P, o238 P, o239 P, o240 P, o241 P, o242 P, o243 P, o244 P, o245 P, o246 P, o247 P, o248 P, o249 P, o250 P, o251 P, o252 P, o253 P, o254 P, o255 P, o256 P, o257 P, o258 P, o259 P, o260 P, o261 P, o262 P, o263 P, o264 P, o265 P, o266 P, o267 P, o268 P, o269 P, o270 P, o271 P, o272 P, o273 P, o274 P, o275 P, o276 P, o277 P, o278 P, o279 P, o280 P, o281 P, o282 P, o283 P, o284 P, o285 P, o286 P, o287 P, o288 P, o289 P, o290 P, o291 P, o292 P, o293 P, o294 P, o295 P, o296 P, o297 P, o298 P, o299 P, o300 P, o301 P, o302 P, o303 P, o304 P, o305 P, o306 P, o307 P, o308 P, o309 P, o310 P, o311 P, o312 P, o313 P, o314 P, o315 P, o316 P]
noncomputable def L11 (P : Params) : List Obj := [boot_o_0 P, boot_o_1 P, boot_o_2 P, o3_11 P, boot_o_4 P, boot_o_5 P, boot_o_6 P, boot_o_7 P, boot_o_8 P, boot_o_9 P, boot_o_10 P, o11 P, o12_11 P, o13 P, o14 P, o15 P, o16 P, o17 P, o18 P, o19 P, o20 P, o21 P, o22 P, o23 P, o24_7 P, o25 P, o26 P, o27 P, o28 P, o29 P, o30 P, o31 P, o32 P, o33 P, o34 P, o35 P, o36 P, o37 P, o38 P, o39 P, o40 P, o41 P, o42 P, o43 P, o44 P, o45 P, o46 P, o47 P, o48 P, o49 P, o50 P, o51 P, o52 P, o53 P, o54 P, o55 P, o56 P, o57 P, o58 P, o59 P, o60 P, o61 P, o62 P, o63 P, o64 P, o65 P, o66 P, o67 P, o68 P, o69 P, o70 P, o71 P, o72 P, o73 P, o74 P, o75 P, o76 P, o77 P, o78 P, o79 P, o80 P, o81 P, o82 P, o83 P, o84 P, o85 P, o86 P, o87 P, o88 P, o89 P, o90 P, o91 P, o92 P, o93 P, o94 P, o95 P, o96 P, o97 P, o98 P, o99 P, o100 P, o101 P, o102 P, o103 P, o104 P, o105 P, o106 P, o107 P, o108 P, o109 P, o110 P, o111 P, o112 P, o113 P, o114 P, o115 P, o116 P, o117 P, o118 P, o119 P, o120 P, o121 P, o122 P, o123 P, o124 P, o125 P, o126 P, o127 P, o128 P, o129 P, o130 P, o131 P, o132 P, o133 P, o134 P, o135 P, o136 P, o137 P, o138 P, o139 P, o140 P, o141 P, o142 P, o143 P, o144 P, o145 P, o146 P, o147 P, o148 P, o149 P, o150 P, o151 P, o152 P, o153 P, o154 P, o155 P, o156 P, o157 P, o158 P, o159 P, o160 P, o161 P, o162 P, o163 P, o164 P, o165 P, o166 P, o167 P, o168 P, o169 P, o170 P, o171 P, o172 P, o173 P, o174 P, o175 P, o176 P, o177 P, o178 P, o179 P, o180 P, o181 P, o182 P, o183 P, o184 P, o185 P, o186 P, o187 P, o188 P, o189 P, o190 P, o191 P, o192 P, o193 P, o194 P, o195 P, o196 P, o197 P, o198 P, o199 P, o200 P, o201 P, o202 P, o203 P, o204 P, o205 P, o206 P, o207 P, o208 P, o209 P, o210 P, o211 P, o212 P, o213 P, o214 P, o215 P, o216 P, o217 P, o218 P, o219 P, o220 P, o221 P, o222 P, o223 P, o224 P, o225 P, o226 P, o227 P, o228 P, o229 P, o230 P, o231 P, o232 P, o233 P, o234 P, o235 P, o236 P, o237 P, o238 P, o239 P, o240 P, o241 P, o242 P, o243 P, o244 P, o245 P, o246 P, o247 P, o248 P, o249 P, o250 P, o251 P, o252 P, o253 P, o254 P, o255 P, o256 P, o257 P, o258 P, o259 P, o260 P, o261 P, o262 P, o263 P, o264 P, o265 P, o266 P, o267 P, o268 P, o269 P, o270 P, o271 P, o272 P, o273 P, o274 P, o275 P, o276 P, o277 P, o278 P, o279 P, o280 P, o281 P, o282 P, o283 P, o284 P, o285 P, o286 P, o287 P, o288 P, o289 P, o290 P, o291 P, o292 P, o293 P, o294 P, o295 P, o296 P, o297 P, o298 P, o299 P, o300 P, o301 P, o302 P, o303 P, o304 P, o305 P, o306 P, o307 P, o308 P, o309 P, o310 P, o311 P, o312 P, o313 P, o314 P, o315 P, o316 P, o317 P, o318 P, o319 P, o320 P, o321 P, o322 P, o323 P, o324 P, o325 P, o326 P, o327 P, o328 P, o329 P, o330 P, o331 P, o332 P, o333 P, o334 P, o335 P, o336 P, o337 P, o338 P, o339 P, o340 P, o341 P, o342 P, o343 P, o344 P, o345 P, o346 P, o347 P, o348 P, o349 P, o350 P]
noncomputable def LF (P : Params) : List Obj := [boot_o_0 P, boot_o_1 P, boot_o_2 P, o3_11 P, boot_o_4 P, boot_o_5 P, boot_o_6 P, boot_o_7 P, boot_o_8 P, boot_o_9 P, boot_o_10 P, o11 P, o12_11 P, o13 P, o14 P, o15 P, o16 P, o17 P, o18 P, o19 P, o20 P, o21 P, o22 P, o23 P, o24_7 P, o25 P, o26 P, o27 P, o28 P, o29 P, o30 P, o31 P, o32 P, o33 P, o34 P, o35 P, o36 P, o37 P, o38 P, o39 P, o40 P, o41 P, o42 P, o43 P, o44 P, o45 P, o46 P, o47 P, o48 P, o49 P, o50 P, o51 P, o52 P, o53 P, o54 P, o55 P, o56 P, o57 P, o58 P, o59 P, o60 P, o61 P, o62 P, o63 P, o64 P, o65 P, o66 P, o67 P, o68 P, o69 P, o70 P, o71 P, o72 P, o73 P, o74 P, o75 P, o76 P, o77 P, o78 P, o79 P, o80 P, o81 P, o82 P, o83 P, o84 P, o85 P, o86 P, o87 P, o88 P, o89 P, o90 P, o91 P, o92 P, o93 P, o94 P, o95 P, o96 P, o97 P, o98 P, o99 P, o100 P, o101 P, o102 P, o103 P, o104 P, o105 P, o106 P, o107 P, o108 P, o109 P, o110 P, o111 P, o112 P, o113 P, o114 P, o115 P, o116 P, o117 P, o118 P, o119 P, o120 P, o121 P, o122 P, o123 P, o124 P, o125 P, o126 P, o127 P, o128 P, o129 P, o130 P, o131 P, o132 P, o133 P, o134 P, o135 P, o136 P, o137 P, o138 P, o139 P, o140 P, o141 P, o142 P, o143 P, o144 P, o145 P, o146 P, o147 P, o148 P, o149 P, o150 P, o151 P, o152 P, o153 P, o154 P, o155 P, o156 P, o157 P, o158 P, o159 P, o160 P, o161 P, o162 P, o163 P, o164 P, o165 P, o166 P, o167 P, o168 P, o169 P, o170 P, o171 P, o172 P, o173 P, o174 P, o175 P, o176 P, o177 P, o178 P, o179 P, o180 P, o181 P, o182 P, o183 P, o184 P, o185 P, o186 P, o187 P, o188 P, o189 P, o190 P, o191 P, o192 P, o193 P, o194 P, o195 P, o196 P, o197 P, o198 P, o199 P, o200 P, o201 P, o202 P, o203 P, o204 P, o205 P, o206 P, o207 P, o208 P, o209 P, o210 P, o211 P, o212 P, o213 P, o214 P, o215 P, o216 P, o217 P, o218 P, o219 P, o220 P, o221 P, o222 P, o223 P, o224 P, o225 P, o226 P, o227 P, o228 P, o229 P, o230 P, o231 P, o232 P, o233 P, o234 P, o235 P, o236 P, o237 P, o238 P, o239 P, o240 P, o241 P, o242 P, o243 P, o244 P, o245 P, o246 P, o247 P, o248 P, o249 P, o250 P, o251 P, o252 P, o253 P, o254 P, o255 P, o256 P, o257 P, o258 P, o259 P, o260 P, o261 P, o262 P, o263 P, o264 P, o265 P, o266 P, o267 P, o268 P, o269 P, o270 P, o271 P, o272 P, o273 P, o274 P, o275 P, o276 P, o277 P, o278 P, o279 P, o280 P, o281 P, o282 P, o283 P, o284 P, o285 P, o286 P, o287 P, o288 P, o289 P, o290 P, o291 P, o292 P, o293 P, o294 P, o295 P, o296 P, o297 P, o298 P, o299 P, o300 P, o301 P, o302 P, o303 P, o304 P, o305 P, o306 P, o307 P, o308 P, o309 P, o310 P, o311 P, o312 P, o313 P, o314 P, o315 P, o316 P, o317 P, o318 P, o319 P, o320 P, o321 P, o322 P, o323 P, o324 P, o325 P, o326 P, o327 P, o328 P, o329 P, o330 P, o331 P, o332 P, o333 P, o334 P, o335 P, o336 P, o337 P, o338 P, o339 P, o340 P, o341 P, o342 P, o343 P, o344 P, o345 P, o346 P, o347 P, o348 P, o349 P, o350 P]
noncomputable def env : Env := { scope := PW.main.scope, locals := mainNs, globals := mainNs, cells := [], code := (@PySem.Value.ref 13), frame := some 14 }
noncomputable def cE : Code := .body (behindTheImports PW) env
noncomputable def B : List Frame := [topFrame (@PySem.Pos.mk 0 0 0 0)]
theorem pre_f (w : World) (os : OsState) : PySem.W.Fast.tw15667345088766844465 PySem.W.Fast.tw14364793385576792824 PW w 11 (some (@PySem.Value.ref 6)) 12 (Shared.mk (boot_heap w.params) (Array.mk []) boot_drawn boot_toks os) (topStub PW) = some ((Shared.mk (Heap.mk (Array.mk (LA w.params)) (@PySem.Life.mk [] [] [] 0 [] [] @Bool.false (@List.toArray @Nat []) [] 0 @Bool.false @Bool.false @Bool.false (@OfNat.ofNat @Int 0 (@instOfNat 0)) [(@OfNat.ofNat @Int 2000 (@instOfNat 2000)), (@OfNat.ofNat @Int 10 (@instOfNat 10)), (@OfNat.ofNat @Int 10 (@instOfNat 10))] @Bool.false 0 @Bool.true [] [] 0 @Bool.false)) (Array.mk []) (@PySem.Drawn.mk 0 0 0 0) 187 os), Thread.mk (PySem.W.Fast.tw11892475500146522536 PySem.W.Fast.tw14364793385576792824 cE) cE (@PySem.Pos.mk 0 0 0 0) B) := by kernel_rfl
theorem pre (w : World) (os : OsState) : topGo treeTable PW w 11 (some (@PySem.Value.ref 6)) 12 (Shared.mk (boot_heap w.params) (Array.mk []) boot_drawn boot_toks os) (topStub PW) = some ((Shared.mk (Heap.mk (Array.mk (LA w.params)) (@PySem.Life.mk [] [] [] 0 [] [] @Bool.false (@List.toArray @Nat []) [] 0 @Bool.false @Bool.false @Bool.false (@OfNat.ofNat @Int 0 (@instOfNat 0)) [(@OfNat.ofNat @Int 2000 (@instOfNat 2000)), (@OfNat.ofNat @Int 10 (@instOfNat 10)), (@OfNat.ofNat @Int 10 (@instOfNat 10))] @Bool.false 0 @Bool.true [] [] 0 @Bool.false)) (Array.mk []) (@PySem.Drawn.mk 0 0 0 0) 187 os), Thread.mk (denote treeTable cE) cE (@PySem.Pos.mk 0 0 0 0) B) := by
  rw [PySem.W.Fast.te15667345088766844465, PySem.W.Fast.te11892475500146522536, PySem.W.Fast.te14364793385576792824]
  exact pre_f w os
theorem block_f (w : World) (os : OsState) : PySem.W.Fast.tw14374325043358763698 PySem.W.Fast.tw14364793385576792824 PW w 11 (some (@PySem.Value.ref 6)) 1 1 (Shared.mk (Heap.mk (Array.mk (LA w.params)) (@PySem.Life.mk [] [] [] 0 [] [] @Bool.false (@List.toArray @Nat []) [] 0 @Bool.false @Bool.false @Bool.false (@OfNat.ofNat @Int 0 (@instOfNat 0)) [(@OfNat.ofNat @Int 2000 (@instOfNat 2000)), (@OfNat.ofNat @Int 10 (@instOfNat 10)), (@OfNat.ofNat @Int 10 (@instOfNat 10))] @Bool.false 0 @Bool.true [] [] 0 @Bool.false)) (Array.mk []) (@PySem.Drawn.mk 0 0 0 0) 187 os) (blockOf (behindTheImports PW) env cE (@PySem.Pos.mk 0 0 0 0) B) = some (Flow.next, SharedT.abs (SharedT.mk (btOf 12 (LB w.params)) 15 (@PySem.Life.mk [] [] [] 0 [] [] @Bool.false (@List.toArray @Nat []) [] 0 @Bool.false @Bool.false @Bool.false (@OfNat.ofNat @Int 0 (@instOfNat 0)) [(@OfNat.ofNat @Int 2000 (@instOfNat 2000)), (@OfNat.ofNat @Int 10 (@instOfNat 10)), (@OfNat.ofNat @Int 10 (@instOfNat 10))] @Bool.false 0 @Bool.true [] [] 0 @Bool.false) (Array.mk []) (@PySem.Drawn.mk 0 0 0 0) 187 os), cE, (@PySem.Pos.mk 0 0 0 0)) := by kernel_rfl
theorem block (w : World) (os : OsState) : segRun treeTable PW w 11 (some (@PySem.Value.ref 6)) 1 1 (Shared.mk (Heap.mk (Array.mk (LA w.params)) (@PySem.Life.mk [] [] [] 0 [] [] @Bool.false (@List.toArray @Nat []) [] 0 @Bool.false @Bool.false @Bool.false (@OfNat.ofNat @Int 0 (@instOfNat 0)) [(@OfNat.ofNat @Int 2000 (@instOfNat 2000)), (@OfNat.ofNat @Int 10 (@instOfNat 10)), (@OfNat.ofNat @Int 10 (@instOfNat 10))] @Bool.false 0 @Bool.true [] [] 0 @Bool.false)) (Array.mk []) (@PySem.Drawn.mk 0 0 0 0) 187 os) (blockOf (behindTheImports PW) env cE (@PySem.Pos.mk 0 0 0 0) B) = some (Flow.next, SharedT.abs (SharedT.mk (btOf 12 (LB w.params)) 15 (@PySem.Life.mk [] [] [] 0 [] [] @Bool.false (@List.toArray @Nat []) [] 0 @Bool.false @Bool.false @Bool.false (@OfNat.ofNat @Int 0 (@instOfNat 0)) [(@OfNat.ofNat @Int 2000 (@instOfNat 2000)), (@OfNat.ofNat @Int 10 (@instOfNat 10)), (@OfNat.ofNat @Int 10 (@instOfNat 10))] @Bool.false 0 @Bool.true [] [] 0 @Bool.false) (Array.mk []) (@PySem.Drawn.mk 0 0 0 0) 187 os), cE, (@PySem.Pos.mk 0 0 0 0)) := by
  rw [PySem.W.Fast.te14364793385576792824, PySem.W.Fast.te14374325043358763698]
  exact block_f w os
theorem pc0_f (w : World) (os : OsState) : PySem.W.Fast.tw10110043849684766642 PySem.W.Fast.tw14364793385576792824 PW w 11 (some (@PySem.Value.ref 6)) 1 196 (SharedT.mk (btOf 12 (LB w.params)) 15 (@PySem.Life.mk [] [] [] 0 [] [] @Bool.false (@List.toArray @Nat []) [] 0 @Bool.false @Bool.false @Bool.false (@OfNat.ofNat @Int 0 (@instOfNat 0)) [(@OfNat.ofNat @Int 2000 (@instOfNat 2000)), (@OfNat.ofNat @Int 10 (@instOfNat 10)), (@OfNat.ofNat @Int 10 (@instOfNat 10))] @Bool.false 0 @Bool.true [] [] 0 @Bool.false) (Array.mk []) (@PySem.Drawn.mk 0 0 0 0) 187 os) (piecesOf (stsAt PW 0 2) env cE (@PySem.Pos.mk 0 0 0 0) B) = some (Flow.next, (SharedT.mk (btOf 12 (L0 w.params)) 28 (@PySem.Life.mk [] [] [] 0 [] [] @Bool.false (@List.toArray @Nat []) [] 0 @Bool.false @Bool.false @Bool.false (@OfNat.ofNat @Int 0 (@instOfNat 0)) [(@OfNat.ofNat @Int 2000 (@instOfNat 2000)), (@OfNat.ofNat @Int 10 (@instOfNat 10)), (@OfNat.ofNat @Int 10 (@instOfNat 10))] @Bool.false 0 @Bool.true [] [] 0 @Bool.false) (Array.mk []) (@PySem.Drawn.mk 0 0 0 0) 207 os), cE, (@PySem.Pos.mk 2 0 3 8)) := by kernel_rfl
theorem pc0 (w : World) (os : OsState) : segRunT treeTable PW w 11 (some (@PySem.Value.ref 6)) 1 196 (SharedT.mk (btOf 12 (LB w.params)) 15 (@PySem.Life.mk [] [] [] 0 [] [] @Bool.false (@List.toArray @Nat []) [] 0 @Bool.false @Bool.false @Bool.false (@OfNat.ofNat @Int 0 (@instOfNat 0)) [(@OfNat.ofNat @Int 2000 (@instOfNat 2000)), (@OfNat.ofNat @Int 10 (@instOfNat 10)), (@OfNat.ofNat @Int 10 (@instOfNat 10))] @Bool.false 0 @Bool.true [] [] 0 @Bool.false) (Array.mk []) (@PySem.Drawn.mk 0 0 0 0) 187 os) (piecesOf (stsAt PW 0 2) env cE (@PySem.Pos.mk 0 0 0 0) B) = some (Flow.next, (SharedT.mk (btOf 12 (L0 w.params)) 28 (@PySem.Life.mk [] [] [] 0 [] [] @Bool.false (@List.toArray @Nat []) [] 0 @Bool.false @Bool.false @Bool.false (@OfNat.ofNat @Int 0 (@instOfNat 0)) [(@OfNat.ofNat @Int 2000 (@instOfNat 2000)), (@OfNat.ofNat @Int 10 (@instOfNat 10)), (@OfNat.ofNat @Int 10 (@instOfNat 10))] @Bool.false 0 @Bool.true [] [] 0 @Bool.false) (Array.mk []) (@PySem.Drawn.mk 0 0 0 0) 207 os), cE, (@PySem.Pos.mk 2 0 3 8)) := by
  rw [PySem.W.Fast.te14364793385576792824, PySem.W.Fast.te10110043849684766642]
  exact pc0_f w os
theorem pc1_f (w : World) (os : OsState) : PySem.W.Fast.tw10110043849684766642 PySem.W.Fast.tw14364793385576792824 PW w 11 (some (@PySem.Value.ref 6)) 1 214 (SharedT.mk (btOf 12 (L0 w.params)) 28 (@PySem.Life.mk [] [] [] 0 [] [] @Bool.false (@List.toArray @Nat []) [] 0 @Bool.false @Bool.false @Bool.false (@OfNat.ofNat @Int 0 (@instOfNat 0)) [(@OfNat.ofNat @Int 2000 (@instOfNat 2000)), (@OfNat.ofNat @Int 10 (@instOfNat 10)), (@OfNat.ofNat @Int 10 (@instOfNat 10))] @Bool.false 0 @Bool.true [] [] 0 @Bool.false) (Array.mk []) (@PySem.Drawn.mk 0 0 0 0) 207 os) (piecesOf (stsAt PW 2 1) env cE (@PySem.Pos.mk 2 0 3 8) B) = some (Flow.next, (SharedT.mk (btOf 12 (L1 w.params)) 40 (@PySem.Life.mk [] [] [] 0 [] [] @Bool.false (@List.toArray @Nat []) [] 0 @Bool.false @Bool.false @Bool.false (@OfNat.ofNat @Int 0 (@instOfNat 0)) [(@OfNat.ofNat @Int 2000 (@instOfNat 2000)), (@OfNat.ofNat @Int 10 (@instOfNat 10)), (@OfNat.ofNat @Int 10 (@instOfNat 10))] @Bool.false 0 @Bool.true [] [] 0 @Bool.false) (Array.mk []) (@PySem.Drawn.mk 0 0 0 0) 223 os), cE, (@PySem.Pos.mk 4 0 5 8)) := by kernel_rfl
theorem pc1 (w : World) (os : OsState) : segRunT treeTable PW w 11 (some (@PySem.Value.ref 6)) 1 214 (SharedT.mk (btOf 12 (L0 w.params)) 28 (@PySem.Life.mk [] [] [] 0 [] [] @Bool.false (@List.toArray @Nat []) [] 0 @Bool.false @Bool.false @Bool.false (@OfNat.ofNat @Int 0 (@instOfNat 0)) [(@OfNat.ofNat @Int 2000 (@instOfNat 2000)), (@OfNat.ofNat @Int 10 (@instOfNat 10)), (@OfNat.ofNat @Int 10 (@instOfNat 10))] @Bool.false 0 @Bool.true [] [] 0 @Bool.false) (Array.mk []) (@PySem.Drawn.mk 0 0 0 0) 207 os) (piecesOf (stsAt PW 2 1) env cE (@PySem.Pos.mk 2 0 3 8) B) = some (Flow.next, (SharedT.mk (btOf 12 (L1 w.params)) 40 (@PySem.Life.mk [] [] [] 0 [] [] @Bool.false (@List.toArray @Nat []) [] 0 @Bool.false @Bool.false @Bool.false (@OfNat.ofNat @Int 0 (@instOfNat 0)) [(@OfNat.ofNat @Int 2000 (@instOfNat 2000)), (@OfNat.ofNat @Int 10 (@instOfNat 10)), (@OfNat.ofNat @Int 10 (@instOfNat 10))] @Bool.false 0 @Bool.true [] [] 0 @Bool.false) (Array.mk []) (@PySem.Drawn.mk 0 0 0 0) 223 os), cE, (@PySem.Pos.mk 4 0 5 8)) := by
  rw [PySem.W.Fast.te14364793385576792824, PySem.W.Fast.te10110043849684766642]
  exact pc1_f w os
theorem pc2_f (w : World) (os : OsState) : PySem.W.Fast.tw10110043849684766642 PySem.W.Fast.tw14364793385576792824 PW w 11 (some (@PySem.Value.ref 6)) 1 214 (SharedT.mk (btOf 12 (L1 w.params)) 40 (@PySem.Life.mk [] [] [] 0 [] [] @Bool.false (@List.toArray @Nat []) [] 0 @Bool.false @Bool.false @Bool.false (@OfNat.ofNat @Int 0 (@instOfNat 0)) [(@OfNat.ofNat @Int 2000 (@instOfNat 2000)), (@OfNat.ofNat @Int 10 (@instOfNat 10)), (@OfNat.ofNat @Int 10 (@instOfNat 10))] @Bool.false 0 @Bool.true [] [] 0 @Bool.false) (Array.mk []) (@PySem.Drawn.mk 0 0 0 0) 223 os) (piecesOf (stsAt PW 3 1) env cE (@PySem.Pos.mk 4 0 5 8) B) = some (Flow.next, (SharedT.mk (btOf 12 (L2 w.params)) 52 (@PySem.Life.mk [] [] [] 0 [] [] @Bool.false (@List.toArray @Nat []) [] 0 @Bool.false @Bool.false @Bool.false (@OfNat.ofNat @Int 0 (@instOfNat 0)) [(@OfNat.ofNat @Int 2000 (@instOfNat 2000)), (@OfNat.ofNat @Int 10 (@instOfNat 10)), (@OfNat.ofNat @Int 10 (@instOfNat 10))] @Bool.false 0 @Bool.true [] [] 0 @Bool.false) (Array.mk []) (@PySem.Drawn.mk 0 0 0 0) 239 os), cE, (@PySem.Pos.mk 6 0 7 8)) := by kernel_rfl
theorem pc2 (w : World) (os : OsState) : segRunT treeTable PW w 11 (some (@PySem.Value.ref 6)) 1 214 (SharedT.mk (btOf 12 (L1 w.params)) 40 (@PySem.Life.mk [] [] [] 0 [] [] @Bool.false (@List.toArray @Nat []) [] 0 @Bool.false @Bool.false @Bool.false (@OfNat.ofNat @Int 0 (@instOfNat 0)) [(@OfNat.ofNat @Int 2000 (@instOfNat 2000)), (@OfNat.ofNat @Int 10 (@instOfNat 10)), (@OfNat.ofNat @Int 10 (@instOfNat 10))] @Bool.false 0 @Bool.true [] [] 0 @Bool.false) (Array.mk []) (@PySem.Drawn.mk 0 0 0 0) 223 os) (piecesOf (stsAt PW 3 1) env cE (@PySem.Pos.mk 4 0 5 8) B) = some (Flow.next, (SharedT.mk (btOf 12 (L2 w.params)) 52 (@PySem.Life.mk [] [] [] 0 [] [] @Bool.false (@List.toArray @Nat []) [] 0 @Bool.false @Bool.false @Bool.false (@OfNat.ofNat @Int 0 (@instOfNat 0)) [(@OfNat.ofNat @Int 2000 (@instOfNat 2000)), (@OfNat.ofNat @Int 10 (@instOfNat 10)), (@OfNat.ofNat @Int 10 (@instOfNat 10))] @Bool.false 0 @Bool.true [] [] 0 @Bool.false) (Array.mk []) (@PySem.Drawn.mk 0 0 0 0) 239 os), cE, (@PySem.Pos.mk 6 0 7 8)) := by
  rw [PySem.W.Fast.te14364793385576792824, PySem.W.Fast.te10110043849684766642]
  exact pc2_f w os
theorem pc3_f (w : World) (os : OsState) : PySem.W.Fast.tw10110043849684766642 PySem.W.Fast.tw14364793385576792824 PW w 11 (some (@PySem.Value.ref 6)) 1 214 (SharedT.mk (btOf 12 (L2 w.params)) 52 (@PySem.Life.mk [] [] [] 0 [] [] @Bool.false (@List.toArray @Nat []) [] 0 @Bool.false @Bool.false @Bool.false (@OfNat.ofNat @Int 0 (@instOfNat 0)) [(@OfNat.ofNat @Int 2000 (@instOfNat 2000)), (@OfNat.ofNat @Int 10 (@instOfNat 10)), (@OfNat.ofNat @Int 10 (@instOfNat 10))] @Bool.false 0 @Bool.true [] [] 0 @Bool.false) (Array.mk []) (@PySem.Drawn.mk 0 0 0 0) 239 os) (piecesOf (stsAt PW 4 1) env cE (@PySem.Pos.mk 6 0 7 8) B) = some (Flow.next, (SharedT.mk (btOf 12 (L3 w.params)) 64 (@PySem.Life.mk [] [] [] 0 [] [] @Bool.false (@List.toArray @Nat []) [] 0 @Bool.false @Bool.false @Bool.false (@OfNat.ofNat @Int 0 (@instOfNat 0)) [(@OfNat.ofNat @Int 2000 (@instOfNat 2000)), (@OfNat.ofNat @Int 10 (@instOfNat 10)), (@OfNat.ofNat @Int 10 (@instOfNat 10))] @Bool.false 0 @Bool.true [] [] 0 @Bool.false) (Array.mk []) (@PySem.Drawn.mk 0 0 0 0) 255 os), cE, (@PySem.Pos.mk 8 0 9 8)) := by kernel_rfl
theorem pc3 (w : World) (os : OsState) : segRunT treeTable PW w 11 (some (@PySem.Value.ref 6)) 1 214 (SharedT.mk (btOf 12 (L2 w.params)) 52 (@PySem.Life.mk [] [] [] 0 [] [] @Bool.false (@List.toArray @Nat []) [] 0 @Bool.false @Bool.false @Bool.false (@OfNat.ofNat @Int 0 (@instOfNat 0)) [(@OfNat.ofNat @Int 2000 (@instOfNat 2000)), (@OfNat.ofNat @Int 10 (@instOfNat 10)), (@OfNat.ofNat @Int 10 (@instOfNat 10))] @Bool.false 0 @Bool.true [] [] 0 @Bool.false) (Array.mk []) (@PySem.Drawn.mk 0 0 0 0) 239 os) (piecesOf (stsAt PW 4 1) env cE (@PySem.Pos.mk 6 0 7 8) B) = some (Flow.next, (SharedT.mk (btOf 12 (L3 w.params)) 64 (@PySem.Life.mk [] [] [] 0 [] [] @Bool.false (@List.toArray @Nat []) [] 0 @Bool.false @Bool.false @Bool.false (@OfNat.ofNat @Int 0 (@instOfNat 0)) [(@OfNat.ofNat @Int 2000 (@instOfNat 2000)), (@OfNat.ofNat @Int 10 (@instOfNat 10)), (@OfNat.ofNat @Int 10 (@instOfNat 10))] @Bool.false 0 @Bool.true [] [] 0 @Bool.false) (Array.mk []) (@PySem.Drawn.mk 0 0 0 0) 255 os), cE, (@PySem.Pos.mk 8 0 9 8)) := by
  rw [PySem.W.Fast.te14364793385576792824, PySem.W.Fast.te10110043849684766642]
  exact pc3_f w os
theorem pc4_f (w : World) (os : OsState) : PySem.W.Fast.tw10110043849684766642 PySem.W.Fast.tw14364793385576792824 PW w 11 (some (@PySem.Value.ref 6)) 1 214 (SharedT.mk (btOf 12 (L3 w.params)) 64 (@PySem.Life.mk [] [] [] 0 [] [] @Bool.false (@List.toArray @Nat []) [] 0 @Bool.false @Bool.false @Bool.false (@OfNat.ofNat @Int 0 (@instOfNat 0)) [(@OfNat.ofNat @Int 2000 (@instOfNat 2000)), (@OfNat.ofNat @Int 10 (@instOfNat 10)), (@OfNat.ofNat @Int 10 (@instOfNat 10))] @Bool.false 0 @Bool.true [] [] 0 @Bool.false) (Array.mk []) (@PySem.Drawn.mk 0 0 0 0) 255 os) (piecesOf (stsAt PW 5 1) env cE (@PySem.Pos.mk 8 0 9 8) B) = some (Flow.next, (SharedT.mk (btOf 12 (L4 w.params)) 76 (@PySem.Life.mk [] [] [] 0 [] [] @Bool.false (@List.toArray @Nat []) [] 0 @Bool.false @Bool.false @Bool.false (@OfNat.ofNat @Int 0 (@instOfNat 0)) [(@OfNat.ofNat @Int 2000 (@instOfNat 2000)), (@OfNat.ofNat @Int 10 (@instOfNat 10)), (@OfNat.ofNat @Int 10 (@instOfNat 10))] @Bool.false 0 @Bool.true [] [] 0 @Bool.false) (Array.mk []) (@PySem.Drawn.mk 0 0 0 0) 271 os), cE, (@PySem.Pos.mk 10 0 11 8)) := by kernel_rfl
theorem pc4 (w : World) (os : OsState) : segRunT treeTable PW w 11 (some (@PySem.Value.ref 6)) 1 214 (SharedT.mk (btOf 12 (L3 w.params)) 64 (@PySem.Life.mk [] [] [] 0 [] [] @Bool.false (@List.toArray @Nat []) [] 0 @Bool.false @Bool.false @Bool.false (@OfNat.ofNat @Int 0 (@instOfNat 0)) [(@OfNat.ofNat @Int 2000 (@instOfNat 2000)), (@OfNat.ofNat @Int 10 (@instOfNat 10)), (@OfNat.ofNat @Int 10 (@instOfNat 10))] @Bool.false 0 @Bool.true [] [] 0 @Bool.false) (Array.mk []) (@PySem.Drawn.mk 0 0 0 0) 255 os) (piecesOf (stsAt PW 5 1) env cE (@PySem.Pos.mk 8 0 9 8) B) = some (Flow.next, (SharedT.mk (btOf 12 (L4 w.params)) 76 (@PySem.Life.mk [] [] [] 0 [] [] @Bool.false (@List.toArray @Nat []) [] 0 @Bool.false @Bool.false @Bool.false (@OfNat.ofNat @Int 0 (@instOfNat 0)) [(@OfNat.ofNat @Int 2000 (@instOfNat 2000)), (@OfNat.ofNat @Int 10 (@instOfNat 10)), (@OfNat.ofNat @Int 10 (@instOfNat 10))] @Bool.false 0 @Bool.true [] [] 0 @Bool.false) (Array.mk []) (@PySem.Drawn.mk 0 0 0 0) 271 os), cE, (@PySem.Pos.mk 10 0 11 8)) := by
  rw [PySem.W.Fast.te14364793385576792824, PySem.W.Fast.te10110043849684766642]
  exact pc4_f w os
theorem pc5_f (w : World) (os : OsState) : PySem.W.Fast.tw10110043849684766642 PySem.W.Fast.tw14364793385576792824 PW w 11 (some (@PySem.Value.ref 6)) 1 214 (SharedT.mk (btOf 12 (L4 w.params)) 76 (@PySem.Life.mk [] [] [] 0 [] [] @Bool.false (@List.toArray @Nat []) [] 0 @Bool.false @Bool.false @Bool.false (@OfNat.ofNat @Int 0 (@instOfNat 0)) [(@OfNat.ofNat @Int 2000 (@instOfNat 2000)), (@OfNat.ofNat @Int 10 (@instOfNat 10)), (@OfNat.ofNat @Int 10 (@instOfNat 10))] @Bool.false 0 @Bool.true [] [] 0 @Bool.false) (Array.mk []) (@PySem.Drawn.mk 0 0 0 0) 271 os) (piecesOf (stsAt PW 6 1) env cE (@PySem.Pos.mk 10 0 11 8) B) = some (Flow.next, (SharedT.mk (btOf 12 (L5 w.params)) 88 (@PySem.Life.mk [] [] [] 0 [] [] @Bool.false (@List.toArray @Nat []) [] 0 @Bool.false @Bool.false @Bool.false (@OfNat.ofNat @Int 0 (@instOfNat 0)) [(@OfNat.ofNat @Int 2000 (@instOfNat 2000)), (@OfNat.ofNat @Int 10 (@instOfNat 10)), (@OfNat.ofNat @Int 10 (@instOfNat 10))] @Bool.false 0 @Bool.true [] [] 0 @Bool.false) (Array.mk []) (@PySem.Drawn.mk 0 0 0 0) 287 os), cE, (@PySem.Pos.mk 12 0 13 8)) := by kernel_rfl
theorem pc5 (w : World) (os : OsState) : segRunT treeTable PW w 11 (some (@PySem.Value.ref 6)) 1 214 (SharedT.mk (btOf 12 (L4 w.params)) 76 (@PySem.Life.mk [] [] [] 0 [] [] @Bool.false (@List.toArray @Nat []) [] 0 @Bool.false @Bool.false @Bool.false (@OfNat.ofNat @Int 0 (@instOfNat 0)) [(@OfNat.ofNat @Int 2000 (@instOfNat 2000)), (@OfNat.ofNat @Int 10 (@instOfNat 10)), (@OfNat.ofNat @Int 10 (@instOfNat 10))] @Bool.false 0 @Bool.true [] [] 0 @Bool.false) (Array.mk []) (@PySem.Drawn.mk 0 0 0 0) 271 os) (piecesOf (stsAt PW 6 1) env cE (@PySem.Pos.mk 10 0 11 8) B) = some (Flow.next, (SharedT.mk (btOf 12 (L5 w.params)) 88 (@PySem.Life.mk [] [] [] 0 [] [] @Bool.false (@List.toArray @Nat []) [] 0 @Bool.false @Bool.false @Bool.false (@OfNat.ofNat @Int 0 (@instOfNat 0)) [(@OfNat.ofNat @Int 2000 (@instOfNat 2000)), (@OfNat.ofNat @Int 10 (@instOfNat 10)), (@OfNat.ofNat @Int 10 (@instOfNat 10))] @Bool.false 0 @Bool.true [] [] 0 @Bool.false) (Array.mk []) (@PySem.Drawn.mk 0 0 0 0) 287 os), cE, (@PySem.Pos.mk 12 0 13 8)) := by
  rw [PySem.W.Fast.te14364793385576792824, PySem.W.Fast.te10110043849684766642]
  exact pc5_f w os
theorem pc6_f (w : World) (os : OsState) : PySem.W.Fast.tw10110043849684766642 PySem.W.Fast.tw14364793385576792824 PW w 11 (some (@PySem.Value.ref 6)) 1 214 (SharedT.mk (btOf 12 (L5 w.params)) 88 (@PySem.Life.mk [] [] [] 0 [] [] @Bool.false (@List.toArray @Nat []) [] 0 @Bool.false @Bool.false @Bool.false (@OfNat.ofNat @Int 0 (@instOfNat 0)) [(@OfNat.ofNat @Int 2000 (@instOfNat 2000)), (@OfNat.ofNat @Int 10 (@instOfNat 10)), (@OfNat.ofNat @Int 10 (@instOfNat 10))] @Bool.false 0 @Bool.true [] [] 0 @Bool.false) (Array.mk []) (@PySem.Drawn.mk 0 0 0 0) 287 os) (piecesOf (stsAt PW 7 1) env cE (@PySem.Pos.mk 12 0 13 8) B) = some (Flow.next, (SharedT.mk (btOf 12 (L6 w.params)) 100 (@PySem.Life.mk [] [] [] 0 [] [] @Bool.false (@List.toArray @Nat []) [] 0 @Bool.false @Bool.false @Bool.false (@OfNat.ofNat @Int 0 (@instOfNat 0)) [(@OfNat.ofNat @Int 2000 (@instOfNat 2000)), (@OfNat.ofNat @Int 10 (@instOfNat 10)), (@OfNat.ofNat @Int 10 (@instOfNat 10))] @Bool.false 0 @Bool.true [] [] 0 @Bool.false) (Array.mk []) (@PySem.Drawn.mk 0 0 0 0) 303 os), cE, (@PySem.Pos.mk 14 0 15 8)) := by kernel_rfl
theorem pc6 (w : World) (os : OsState) : segRunT treeTable PW w 11 (some (@PySem.Value.ref 6)) 1 214 (SharedT.mk (btOf 12 (L5 w.params)) 88 (@PySem.Life.mk [] [] [] 0 [] [] @Bool.false (@List.toArray @Nat []) [] 0 @Bool.false @Bool.false @Bool.false (@OfNat.ofNat @Int 0 (@instOfNat 0)) [(@OfNat.ofNat @Int 2000 (@instOfNat 2000)), (@OfNat.ofNat @Int 10 (@instOfNat 10)), (@OfNat.ofNat @Int 10 (@instOfNat 10))] @Bool.false 0 @Bool.true [] [] 0 @Bool.false) (Array.mk []) (@PySem.Drawn.mk 0 0 0 0) 287 os) (piecesOf (stsAt PW 7 1) env cE (@PySem.Pos.mk 12 0 13 8) B) = some (Flow.next, (SharedT.mk (btOf 12 (L6 w.params)) 100 (@PySem.Life.mk [] [] [] 0 [] [] @Bool.false (@List.toArray @Nat []) [] 0 @Bool.false @Bool.false @Bool.false (@OfNat.ofNat @Int 0 (@instOfNat 0)) [(@OfNat.ofNat @Int 2000 (@instOfNat 2000)), (@OfNat.ofNat @Int 10 (@instOfNat 10)), (@OfNat.ofNat @Int 10 (@instOfNat 10))] @Bool.false 0 @Bool.true [] [] 0 @Bool.false) (Array.mk []) (@PySem.Drawn.mk 0 0 0 0) 303 os), cE, (@PySem.Pos.mk 14 0 15 8)) := by
  rw [PySem.W.Fast.te14364793385576792824, PySem.W.Fast.te10110043849684766642]
  exact pc6_f w os
theorem pc7_f (w : World) (os : OsState) : PySem.W.Fast.tw10110043849684766642 PySem.W.Fast.tw14364793385576792824 PW w 11 (some (@PySem.Value.ref 6)) 1 384 (SharedT.mk (btOf 12 (L6 w.params)) 100 (@PySem.Life.mk [] [] [] 0 [] [] @Bool.false (@List.toArray @Nat []) [] 0 @Bool.false @Bool.false @Bool.false (@OfNat.ofNat @Int 0 (@instOfNat 0)) [(@OfNat.ofNat @Int 2000 (@instOfNat 2000)), (@OfNat.ofNat @Int 10 (@instOfNat 10)), (@OfNat.ofNat @Int 10 (@instOfNat 10))] @Bool.false 0 @Bool.true [] [] 0 @Bool.false) (Array.mk []) (@PySem.Drawn.mk 0 0 0 0) 303 os) (piecesOf (stsAt PW 8 8) env cE (@PySem.Pos.mk 14 0 15 8) B) = some (Flow.next, (SharedT.mk (btOf 12 (L7 w.params)) 148 (@PySem.Life.mk [] [] [] 0 [] [] @Bool.false (@List.toArray @Nat []) [] 0 @Bool.false @Bool.false @Bool.false (@OfNat.ofNat @Int 0 (@instOfNat 0)) [(@OfNat.ofNat @Int 2000 (@instOfNat 2000)), (@OfNat.ofNat @Int 10 (@instOfNat 10)), (@OfNat.ofNat @Int 10 (@instOfNat 10))] @Bool.false 0 @Bool.true [] [] 0 @Bool.false) (Array.mk []) (@PySem.Drawn.mk 0 0 0 0) 363 os), cE, (@PySem.Pos.mk 37 0 38 74)) := by kernel_rfl
theorem pc7 (w : World) (os : OsState) : segRunT treeTable PW w 11 (some (@PySem.Value.ref 6)) 1 384 (SharedT.mk (btOf 12 (L6 w.params)) 100 (@PySem.Life.mk [] [] [] 0 [] [] @Bool.false (@List.toArray @Nat []) [] 0 @Bool.false @Bool.false @Bool.false (@OfNat.ofNat @Int 0 (@instOfNat 0)) [(@OfNat.ofNat @Int 2000 (@instOfNat 2000)), (@OfNat.ofNat @Int 10 (@instOfNat 10)), (@OfNat.ofNat @Int 10 (@instOfNat 10))] @Bool.false 0 @Bool.true [] [] 0 @Bool.false) (Array.mk []) (@PySem.Drawn.mk 0 0 0 0) 303 os) (piecesOf (stsAt PW 8 8) env cE (@PySem.Pos.mk 14 0 15 8) B) = some (Flow.next, (SharedT.mk (btOf 12 (L7 w.params)) 148 (@PySem.Life.mk [] [] [] 0 [] [] @Bool.false (@List.toArray @Nat []) [] 0 @Bool.false @Bool.false @Bool.false (@OfNat.ofNat @Int 0 (@instOfNat 0)) [(@OfNat.ofNat @Int 2000 (@instOfNat 2000)), (@OfNat.ofNat @Int 10 (@instOfNat 10)), (@OfNat.ofNat @Int 10 (@instOfNat 10))] @Bool.false 0 @Bool.true [] [] 0 @Bool.false) (Array.mk []) (@PySem.Drawn.mk 0 0 0 0) 363 os), cE, (@PySem.Pos.mk 37 0 38 74)) := by
  rw [PySem.W.Fast.te14364793385576792824, PySem.W.Fast.te10110043849684766642]
  exact pc7_f w os
theorem pc8_f (w : World) (os : OsState) : PySem.W.Fast.tw10110043849684766642 PySem.W.Fast.tw14364793385576792824 PW w 11 (some (@PySem.Value.ref 6)) 1 207 (SharedT.mk (btOf 12 (L7 w.params)) 148 (@PySem.Life.mk [] [] [] 0 [] [] @Bool.false (@List.toArray @Nat []) [] 0 @Bool.false @Bool.false @Bool.false (@OfNat.ofNat @Int 0 (@instOfNat 0)) [(@OfNat.ofNat @Int 2000 (@instOfNat 2000)), (@OfNat.ofNat @Int 10 (@instOfNat 10)), (@OfNat.ofNat @Int 10 (@instOfNat 10))] @Bool.false 0 @Bool.true [] [] 0 @Bool.false) (Array.mk []) (@PySem.Drawn.mk 0 0 0 0) 363 os) (piecesOf (stsAt PW 16 10) env cE (@PySem.Pos.mk 37 0 38 74) B) = some (Flow.next, (SharedT.mk (btOf 12 (L8 w.params)) 184 (@PySem.Life.mk [] [] [] 0 [] [] @Bool.false (@List.toArray @Nat []) [] 0 @Bool.false @Bool.false @Bool.false (@OfNat.ofNat @Int 0 (@instOfNat 0)) [(@OfNat.ofNat @Int 2000 (@instOfNat 2000)), (@OfNat.ofNat @Int 10 (@instOfNat 10)), (@OfNat.ofNat @Int 10 (@instOfNat 10))] @Bool.false 0 @Bool.true [] [] 0 @Bool.false) (Array.mk []) (@PySem.Drawn.mk 0 0 0 0) 415 os), cE, (@PySem.Pos.mk 63 0 64 103)) := by kernel_rfl
theorem pc8 (w : World) (os : OsState) : segRunT treeTable PW w 11 (some (@PySem.Value.ref 6)) 1 207 (SharedT.mk (btOf 12 (L7 w.params)) 148 (@PySem.Life.mk [] [] [] 0 [] [] @Bool.false (@List.toArray @Nat []) [] 0 @Bool.false @Bool.false @Bool.false (@OfNat.ofNat @Int 0 (@instOfNat 0)) [(@OfNat.ofNat @Int 2000 (@instOfNat 2000)), (@OfNat.ofNat @Int 10 (@instOfNat 10)), (@OfNat.ofNat @Int 10 (@instOfNat 10))] @Bool.false 0 @Bool.true [] [] 0 @Bool.false) (Array.mk []) (@PySem.Drawn.mk 0 0 0 0) 363 os) (piecesOf (stsAt PW 16 10) env cE (@PySem.Pos.mk 37 0 38 74) B) = some (Flow.next, (SharedT.mk (btOf 12 (L8 w.params)) 184 (@PySem.Life.mk [] [] [] 0 [] [] @Bool.false (@List.toArray @Nat []) [] 0 @Bool.false @Bool.false @Bool.false (@OfNat.ofNat @Int 0 (@instOfNat 0)) [(@OfNat.ofNat @Int 2000 (@instOfNat 2000)), (@OfNat.ofNat @Int 10 (@instOfNat 10)), (@OfNat.ofNat @Int 10 (@instOfNat 10))] @Bool.false 0 @Bool.true [] [] 0 @Bool.false) (Array.mk []) (@PySem.Drawn.mk 0 0 0 0) 415 os), cE, (@PySem.Pos.mk 63 0 64 103)) := by
  rw [PySem.W.Fast.te14364793385576792824, PySem.W.Fast.te10110043849684766642]
  exact pc8_f w os
theorem pc9_f (w : World) (os : OsState) : PySem.W.Fast.tw10110043849684766642 PySem.W.Fast.tw14364793385576792824 PW w 11 (some (@PySem.Value.ref 6)) 1 374 (SharedT.mk (btOf 12 (L8 w.params)) 184 (@PySem.Life.mk [] [] [] 0 [] [] @Bool.false (@List.toArray @Nat []) [] 0 @Bool.false @Bool.false @Bool.false (@OfNat.ofNat @Int 0 (@instOfNat 0)) [(@OfNat.ofNat @Int 2000 (@instOfNat 2000)), (@OfNat.ofNat @Int 10 (@instOfNat 10)), (@OfNat.ofNat @Int 10 (@instOfNat 10))] @Bool.false 0 @Bool.true [] [] 0 @Bool.false) (Array.mk []) (@PySem.Drawn.mk 0 0 0 0) 415 os) (piecesOf (stsAt PW 26 7) env cE (@PySem.Pos.mk 63 0 64 103) B) = some (Flow.next, (SharedT.mk (btOf 12 (L9 w.params)) 234 (@PySem.Life.mk [] [] [] 0 [] [] @Bool.false (@List.toArray @Nat []) [] 0 @Bool.false @Bool.false @Bool.false (@OfNat.ofNat @Int 0 (@instOfNat 0)) [(@OfNat.ofNat @Int 2000 (@instOfNat 2000)), (@OfNat.ofNat @Int 10 (@instOfNat 10)), (@OfNat.ofNat @Int 10 (@instOfNat 10))] @Bool.false 0 @Bool.true [] [] 0 @Bool.false) (Array.mk []) (@PySem.Drawn.mk 0 0 0 0) 484 os), cE, (@PySem.Pos.mk 96 0 96 8)) := by kernel_rfl
theorem pc9 (w : World) (os : OsState) : segRunT treeTable PW w 11 (some (@PySem.Value.ref 6)) 1 374 (SharedT.mk (btOf 12 (L8 w.params)) 184 (@PySem.Life.mk [] [] [] 0 [] [] @Bool.false (@List.toArray @Nat []) [] 0 @Bool.false @Bool.false @Bool.false (@OfNat.ofNat @Int 0 (@instOfNat 0)) [(@OfNat.ofNat @Int 2000 (@instOfNat 2000)), (@OfNat.ofNat @Int 10 (@instOfNat 10)), (@OfNat.ofNat @Int 10 (@instOfNat 10))] @Bool.false 0 @Bool.true [] [] 0 @Bool.false) (Array.mk []) (@PySem.Drawn.mk 0 0 0 0) 415 os) (piecesOf (stsAt PW 26 7) env cE (@PySem.Pos.mk 63 0 64 103) B) = some (Flow.next, (SharedT.mk (btOf 12 (L9 w.params)) 234 (@PySem.Life.mk [] [] [] 0 [] [] @Bool.false (@List.toArray @Nat []) [] 0 @Bool.false @Bool.false @Bool.false (@OfNat.ofNat @Int 0 (@instOfNat 0)) [(@OfNat.ofNat @Int 2000 (@instOfNat 2000)), (@OfNat.ofNat @Int 10 (@instOfNat 10)), (@OfNat.ofNat @Int 10 (@instOfNat 10))] @Bool.false 0 @Bool.true [] [] 0 @Bool.false) (Array.mk []) (@PySem.Drawn.mk 0 0 0 0) 484 os), cE, (@PySem.Pos.mk 96 0 96 8)) := by
  rw [PySem.W.Fast.te14364793385576792824, PySem.W.Fast.te10110043849684766642]
  exact pc9_f w os
theorem pc10_f (w : World) (os : OsState) : PySem.W.Fast.tw10110043849684766642 PySem.W.Fast.tw14364793385576792824 PW w 11 (some (@PySem.Value.ref 6)) 1 380 (SharedT.mk (btOf 12 (L9 w.params)) 234 (@PySem.Life.mk [] [] [] 0 [] [] @Bool.false (@List.toArray @Nat []) [] 0 @Bool.false @Bool.false @Bool.false (@OfNat.ofNat @Int 0 (@instOfNat 0)) [(@OfNat.ofNat @Int 2000 (@instOfNat 2000)), (@OfNat.ofNat @Int 10 (@instOfNat 10)), (@OfNat.ofNat @Int 10 (@instOfNat 10))] @Bool.false 0 @Bool.true [] [] 0 @Bool.false) (Array.mk []) (@PySem.Drawn.mk 0 0 0 0) 484 os) (piecesOf (stsAt PW 33 13) env cE (@PySem.Pos.mk 96 0 96 8) B) = some (Flow.next, (SharedT.mk (btOf 12 (L10 w.params)) 317 (@PySem.Life.mk [] [] [] 0 [] [] @Bool.false (@List.toArray @Nat []) [] 0 @Bool.false @Bool.false @Bool.false (@OfNat.ofNat @Int 0 (@instOfNat 0)) [(@OfNat.ofNat @Int 2000 (@instOfNat 2000)), (@OfNat.ofNat @Int 10 (@instOfNat 10)), (@OfNat.ofNat @Int 10 (@instOfNat 10))] @Bool.false 0 @Bool.true [] [] 0 @Bool.false) (Array.mk []) (@PySem.Drawn.mk 0 0 0 0) 585 os), cE, (@PySem.Pos.mk 155 0 160 35)) := by kernel_rfl
theorem pc10 (w : World) (os : OsState) : segRunT treeTable PW w 11 (some (@PySem.Value.ref 6)) 1 380 (SharedT.mk (btOf 12 (L9 w.params)) 234 (@PySem.Life.mk [] [] [] 0 [] [] @Bool.false (@List.toArray @Nat []) [] 0 @Bool.false @Bool.false @Bool.false (@OfNat.ofNat @Int 0 (@instOfNat 0)) [(@OfNat.ofNat @Int 2000 (@instOfNat 2000)), (@OfNat.ofNat @Int 10 (@instOfNat 10)), (@OfNat.ofNat @Int 10 (@instOfNat 10))] @Bool.false 0 @Bool.true [] [] 0 @Bool.false) (Array.mk []) (@PySem.Drawn.mk 0 0 0 0) 484 os) (piecesOf (stsAt PW 33 13) env cE (@PySem.Pos.mk 96 0 96 8) B) = some (Flow.next, (SharedT.mk (btOf 12 (L10 w.params)) 317 (@PySem.Life.mk [] [] [] 0 [] [] @Bool.false (@List.toArray @Nat []) [] 0 @Bool.false @Bool.false @Bool.false (@OfNat.ofNat @Int 0 (@instOfNat 0)) [(@OfNat.ofNat @Int 2000 (@instOfNat 2000)), (@OfNat.ofNat @Int 10 (@instOfNat 10)), (@OfNat.ofNat @Int 10 (@instOfNat 10))] @Bool.false 0 @Bool.true [] [] 0 @Bool.false) (Array.mk []) (@PySem.Drawn.mk 0 0 0 0) 585 os), cE, (@PySem.Pos.mk 155 0 160 35)) := by
  rw [PySem.W.Fast.te14364793385576792824, PySem.W.Fast.te10110043849684766642]
  exact pc10_f w os
theorem pc11_f (w : World) (os : OsState) : PySem.W.Fast.tw10110043849684766642 PySem.W.Fast.tw14364793385576792824 PW w 11 (some (@PySem.Value.ref 6)) 1 167 (SharedT.mk (btOf 12 (L10 w.params)) 317 (@PySem.Life.mk [] [] [] 0 [] [] @Bool.false (@List.toArray @Nat []) [] 0 @Bool.false @Bool.false @Bool.false (@OfNat.ofNat @Int 0 (@instOfNat 0)) [(@OfNat.ofNat @Int 2000 (@instOfNat 2000)), (@OfNat.ofNat @Int 10 (@instOfNat 10)), (@OfNat.ofNat @Int 10 (@instOfNat 10))] @Bool.false 0 @Bool.true [] [] 0 @Bool.false) (Array.mk []) (@PySem.Drawn.mk 0 0 0 0) 585 os) (piecesOf (stsAt PW 46 6) env cE (@PySem.Pos.mk 155 0 160 35) B) = some (Flow.next, (SharedT.mk (btOf 12 (L11 w.params)) 351 (@PySem.Life.mk [] [] [] 0 [] [] @Bool.false (@List.toArray @Nat []) [] 0 @Bool.false @Bool.false @Bool.false (@OfNat.ofNat @Int 0 (@instOfNat 0)) [(@OfNat.ofNat @Int 2000 (@instOfNat 2000)), (@OfNat.ofNat @Int 10 (@instOfNat 10)), (@OfNat.ofNat @Int 10 (@instOfNat 10))] @Bool.false 0 @Bool.true [] [] 0 @Bool.false) (Array.mk []) (@PySem.Drawn.mk 0 0 0 0) 627 os), cE, (@PySem.Pos.mk 212 0 245 107)) := by kernel_rfl
theorem pc11 (w : World) (os : OsState) : segRunT treeTable PW w 11 (some (@PySem.Value.ref 6)) 1 167 (SharedT.mk (btOf 12 (L10 w.params)) 317 (@PySem.Life.mk [] [] [] 0 [] [] @Bool.false (@List.toArray @Nat []) [] 0 @Bool.false @Bool.false @Bool.false (@OfNat.ofNat @Int 0 (@instOfNat 0)) [(@OfNat.ofNat @Int 2000 (@instOfNat 2000)), (@OfNat.ofNat @Int 10 (@instOfNat 10)), (@OfNat.ofNat @Int 10 (@instOfNat 10))] @Bool.false 0 @Bool.true [] [] 0 @Bool.false) (Array.mk []) (@PySem.Drawn.mk 0 0 0 0) 585 os) (piecesOf (stsAt PW 46 6) env cE (@PySem.Pos.mk 155 0 160 35) B) = some (Flow.next, (SharedT.mk (btOf 12 (L11 w.params)) 351 (@PySem.Life.mk [] [] [] 0 [] [] @Bool.false (@List.toArray @Nat []) [] 0 @Bool.false @Bool.false @Bool.false (@OfNat.ofNat @Int 0 (@instOfNat 0)) [(@OfNat.ofNat @Int 2000 (@instOfNat 2000)), (@OfNat.ofNat @Int 10 (@instOfNat 10)), (@OfNat.ofNat @Int 10 (@instOfNat 10))] @Bool.false 0 @Bool.true [] [] 0 @Bool.false) (Array.mk []) (@PySem.Drawn.mk 0 0 0 0) 627 os), cE, (@PySem.Pos.mk 212 0 245 107)) := by
  rw [PySem.W.Fast.te14364793385576792824, PySem.W.Fast.te10110043849684766642]
  exact pc11_f w os
theorem fin_f (w : World) (os : OsState) : PySem.W.Fast.tw14082659384304107361 PySem.W.Fast.tw14364793385576792824 PW w 11 (some (@PySem.Value.ref 6)) 2 (SharedT.abs (SharedT.mk (btOf 12 (L11 w.params)) 351 (@PySem.Life.mk [] [] [] 0 [] [] @Bool.false (@List.toArray @Nat []) [] 0 @Bool.false @Bool.false @Bool.false (@OfNat.ofNat @Int 0 (@instOfNat 0)) [(@OfNat.ofNat @Int 2000 (@instOfNat 2000)), (@OfNat.ofNat @Int 10 (@instOfNat 10)), (@OfNat.ofNat @Int 10 (@instOfNat 10))] @Bool.false 0 @Bool.true [] [] 0 @Bool.false) (Array.mk []) (@PySem.Drawn.mk 0 0 0 0) 627 os)) (Thread.mk (doneF Flow.next) cE (@PySem.Pos.mk 212 0 245 107) B) = some (Shared.mk (Heap.mk (Array.mk (LF w.params)) (@PySem.Life.mk [] [] [] 0 [] [] @Bool.false (@List.toArray @Nat []) [] 0 @Bool.false @Bool.false @Bool.false (@OfNat.ofNat @Int 0 (@instOfNat 0)) [(@OfNat.ofNat @Int 2000 (@instOfNat 2000)), (@OfNat.ofNat @Int 10 (@instOfNat 10)), (@OfNat.ofNat @Int 10 (@instOfNat 10))] @Bool.false 0 @Bool.true [] [] 0 @Bool.false)) (Array.mk []) (@PySem.Drawn.mk 0 0 0 0) 627 os) := by kernel_rfl
theorem fin (w : World) (os : OsState) : topRun treeTable PW w 11 (some (@PySem.Value.ref 6)) 2 (SharedT.abs (SharedT.mk (btOf 12 (L11 w.params)) 351 (@PySem.Life.mk [] [] [] 0 [] [] @Bool.false (@List.toArray @Nat []) [] 0 @Bool.false @Bool.false @Bool.false (@OfNat.ofNat @Int 0 (@instOfNat 0)) [(@OfNat.ofNat @Int 2000 (@instOfNat 2000)), (@OfNat.ofNat @Int 10 (@instOfNat 10)), (@OfNat.ofNat @Int 10 (@instOfNat 10))] @Bool.false 0 @Bool.true [] [] 0 @Bool.false) (Array.mk []) (@PySem.Drawn.mk 0 0 0 0) 627 os)) (Thread.mk (doneF Flow.next) cE (@PySem.Pos.mk 212 0 245 107) B) = some (Shared.mk (Heap.mk (Array.mk (LF w.params)) (@PySem.Life.mk [] [] [] 0 [] [] @Bool.false (@List.toArray @Nat []) [] 0 @Bool.false @Bool.false @Bool.false (@OfNat.ofNat @Int 0 (@instOfNat 0)) [(@OfNat.ofNat @Int 2000 (@instOfNat 2000)), (@OfNat.ofNat @Int 10 (@instOfNat 10)), (@OfNat.ofNat @Int 10 (@instOfNat 10))] @Bool.false 0 @Bool.true [] [] 0 @Bool.false)) (Array.mk []) (@PySem.Drawn.mk 0 0 0 0) 627 os) := by
  rw [PySem.W.Fast.te14364793385576792824, PySem.W.Fast.te14082659384304107361]
  exact fin_f w os
theorem body_eq : behindTheImports PW = (stsAt PW 0 2 ++ (stsAt PW 2 1 ++ (stsAt PW 3 1 ++ (stsAt PW 4 1 ++ (stsAt PW 5 1 ++ (stsAt PW 6 1 ++ (stsAt PW 7 1 ++ (stsAt PW 8 8 ++ (stsAt PW 16 10 ++ (stsAt PW 26 7 ++ (stsAt PW 33 13 ++ (stsAt PW 46 6 ++ [])))))))))))) := by kernel_rfl
theorem rest_ok (w : World) (os : OsState) : topRun treeTable PW w 11 (some (@PySem.Value.ref 6)) (196 + (214 + (214 + (214 + (214 + (214 + (214 + (384 + (207 + (374 + (380 + (167 + 2)))))))))))) (SharedT.abs (SharedT.mk (btOf 12 (LB w.params)) 15 (@PySem.Life.mk [] [] [] 0 [] [] @Bool.false (@List.toArray @Nat []) [] 0 @Bool.false @Bool.false @Bool.false (@OfNat.ofNat @Int 0 (@instOfNat 0)) [(@OfNat.ofNat @Int 2000 (@instOfNat 2000)), (@OfNat.ofNat @Int 10 (@instOfNat 10)), (@OfNat.ofNat @Int 10 (@instOfNat 10))] @Bool.false 0 @Bool.true [] [] 0 @Bool.false) (Array.mk []) (@PySem.Drawn.mk 0 0 0 0) 187 os)) (restOf (stsAt PW 0 2 ++ (stsAt PW 2 1 ++ (stsAt PW 3 1 ++ (stsAt PW 4 1 ++ (stsAt PW 5 1 ++ (stsAt PW 6 1 ++ (stsAt PW 7 1 ++ (stsAt PW 8 8 ++ (stsAt PW 16 10 ++ (stsAt PW 26 7 ++ (stsAt PW 33 13 ++ (stsAt PW 46 6 ++ [])))))))))))) env cE (@PySem.Pos.mk 0 0 0 0) B) = some (Shared.mk (Heap.mk (Array.mk (LF w.params)) (@PySem.Life.mk [] [] [] 0 [] [] @Bool.false (@List.toArray @Nat []) [] 0 @Bool.false @Bool.false @Bool.false (@OfNat.ofNat @Int 0 (@instOfNat 0)) [(@OfNat.ofNat @Int 2000 (@instOfNat 2000)), (@OfNat.ofNat @Int 10 (@instOfNat 10)), (@OfNat.ofNat @Int 10 (@instOfNat 10))] @Bool.false 0 @Bool.true [] [] 0 @Bool.false)) (Array.mk []) (@PySem.Drawn.mk 0 0 0 0) 627 os) := (piece_app (segRun_of (pc0 w os)) (piece_app (segRun_of (pc1 w os)) (piece_app (segRun_of (pc2 w os)) (piece_app (segRun_of (pc3 w os)) (piece_app (segRun_of (pc4 w os)) (piece_app (segRun_of (pc5 w os)) (piece_app (segRun_of (pc6 w os)) (piece_app (segRun_of (pc7 w os)) (piece_app (segRun_of (pc8 w os)) (piece_app (segRun_of (pc9 w os)) (piece_app (segRun_of (pc10 w os)) (piece_app (segRun_of (pc11 w os)) (piece_nil (fin w os))))))))))))))
theorem run_ok (w : World) (os : OsState) : topRun treeTable PW w 11 (some (@PySem.Value.ref 6)) (12 + (1 + (196 + (214 + (214 + (214 + (214 + (214 + (214 + (384 + (207 + (374 + (380 + (167 + 2)))))))))))))) (Shared.mk (boot_heap w.params) (Array.mk []) boot_drawn boot_toks os) (topStub PW) = some (Shared.mk (Heap.mk (Array.mk (LF w.params)) (@PySem.Life.mk [] [] [] 0 [] [] @Bool.false (@List.toArray @Nat []) [] 0 @Bool.false @Bool.false @Bool.false (@OfNat.ofNat @Int 0 (@instOfNat 0)) [(@OfNat.ofNat @Int 2000 (@instOfNat 2000)), (@OfNat.ofNat @Int 10 (@instOfNat 10)), (@OfNat.ofNat @Int 10 (@instOfNat 10))] @Bool.false 0 @Bool.true [] [] 0 @Bool.false)) (Array.mk []) (@PySem.Drawn.mk 0 0 0 0) 627 os) :=
  go_top (pre w os) (piece_block (block w os) (by rw [body_eq]; exact rest_ok w os))
noncomputable def KH (P : Params) : Frag := [(2, boot_o_2 P), (3, o3_11 P), (15, o15 P), (22, o22 P), (23, o23 P), (24, o24_7 P), (25, o25 P), (28, o28 P), (35, o35 P), (36, o36 P), (37, o37 P), (40, o40 P), (47, o47 P), (48, o48 P), (49, o49 P), (52, o52 P), (59, o59 P), (60, o60 P), (61, o61 P), (64, o64 P), (71, o71 P), (72, o72 P), (73, o73 P), (76, o76 P), (83, o83 P), (84, o84 P), (85, o85 P), (88, o88 P), (95, o95 P), (96, o96 P), (97, o97 P), (100, o100 P), (107, o107 P), (108, o108 P), (109, o109 P), (112, o112 P), (113, o113 P), (115, o115 P), (116, o116 P), (118, o118 P), (119, o119 P), (120, o120 P), (122, o122 P), (123, o123 P), (125, o125 P), (126, o126 P), (127, o127 P), (129, o129 P), (130, o130 P), (132, o132 P), (133, o133 P), (134, o134 P), (136, o136 P), (137, o137 P), (139, o139 P), (140, o140 P), (141, o141 P), (143, o143 P), (144, o144 P), (146, o146 P), (147, o147 P), (148, o148 P), (150, o150 P), (151, o151 P), (153, o153 P), (154, o154 P), (155, o155 P), (157, o157 P), (158, o158 P), (160, o160 P), (161, o161 P), (162, o162 P), (165, o165 P), (166, o166 P), (167, o167 P), (169, o169 P), (170, o170 P), (172, o172 P), (173, o173 P), (174, o174 P), (177, o177 P), (178, o178 P), (179, o179 P), (182, o182 P), (183, o183 P), (191, o191 P), (194, o194 P), (195, o195 P), (196, o196 P), (197, o197 P), (198, o198 P), (199, o199 P), (200, o200 P), (203, o203 P), (205, o205 P), (206, o206 P), (208, o208 P), (209, o209 P), (210, o210 P), (213, o213 P), (214, o214 P), (215, o215 P), (218, o218 P), (219, o219 P), (220, o220 P), (222, o222 P), (223, o223 P), (225, o225 P), (226, o226 P), (227, o227 P), (229, o229 P), (230, o230 P), (232, o232 P), (233, o233 P), (234, o234 P), (236, o236 P), (237, o237 P), (239, o239 P), (240, o240 P), (241, o241 P), (243, o243 P), (244, o244 P), (246, o246 P), (247, o247 P), (248, o248 P), (250, o250 P), (251, o251 P), (253, o253 P), (254, o254 P), (255, o255 P), (257, o257 P), (258, o258 P), (260, o260 P), (261, o261 P), (262, o262 P), (264, o264 P), (265, o265 P), (267, o267 P), (268, o268 P), (269, o269 P), (271, o271 P), (272, o272 P), (274, o274 P), (275, o275 P), (276, o276 P), (278, o278 P), (279, o279 P), (281, o281 P), (282, o282 P), (283, o283 P), (286, o286 P), (287, o287 P), (288, o288 P), (291, o291 P), (292, o292 P), (293, o293 P), (296, o296 P), (297, o297 P), (298, o298 P), (301, o301 P), (302, o302 P), (303, o303 P), (305, o305 P), (306, o306 P), (308, o308 P), (309, o309 P), (310, o310 P), (312, o312 P), (313, o313 P), (315, o315 P), (316, o316 P), (317, o317 P), (320, o320 P), (321, o321 P), (322, o322 P), (324, o324 P), (325, o325 P), (327, o327 P), (328, o328 P), (329, o329 P), (332, o332 P), (333, o333 P), (334, o334 P), (336, o336 P), (337, o337 P), (339, o339 P), (340, o340 P), (341, o341 P), (344, o344 P), (345, o345 P), (346, o346 P), (349, o349 P), (350, o350 P)]
noncomputable def as : List Addr := [2, 3, 15, 22, 23, 24, 25, 28, 35, 36, 37, 40, 47, 48, 49, 52, 59, 60, 61, 64, 71, 72, 73, 76, 83, 84, 85, 88, 95, 96, 97, 100, 107, 108, 109, 112, 113, 115, 116, 118, 119, 120, 122, 123, 125, 126, 127, 129, 130, 132, 133, 134, 136, 137, 139, 140, 141, 143, 144, 146, 147, 148, 150, 151, 153, 154, 155, 157, 158, 160, 161, 162, 165, 166, 167, 169, 170, 172, 173, 174, 177, 178, 179, 182, 183, 191, 194, 195, 196, 197, 198, 199, 200, 203, 205, 206, 208, 209, 210, 213, 214, 215, 218, 219, 220, 222, 223, 225, 226, 227, 229, 230, 232, 233, 234, 236, 237, 239, 240, 241, 243, 244, 246, 247, 248, 250, 251, 253, 254, 255, 257, 258, 260, 261, 262, 264, 265, 267, 268, 269, 271, 272, 274, 275, 276, 278, 279, 281, 282, 283, 286, 287, 288, 291, 292, 293, 296, 297, 298, 301, 302, 303, 305, 306, 308, 309, 310, 312, 313, 315, 316, 317, 320, 321, 322, 324, 325, 327, 328, 329, 332, 333, 334, 336, 337, 339, 340, 341, 344, 345, 346, 349, 350]
theorem as_ok (P : Params) : as = (KH P).map (·.1) := by kernel_rfl
noncomputable def q : Program := view PW [51]
noncomputable def loose : List Str := [Str.ofString "WeighError", Str.ofString "Nought", Str.ofString "NoText", Str.ofString "NoRow", Str.ofString "NoMachine", Str.ofString "NoWord", Str.ofString "OtherSigns", Str.ofString "TooMany", Str.ofString "NOUGHT", Str.ofString "is_whole", Str.ofString "common", Str.ofString "is_share", Str.ofString "share", Str.ofString "plus", Str.ofString "times", Str.ofString "summed_up", Str.ofString "crossed", Str.ofString "LETTERS", Str.ofString "MOST_SIGNS", Str.ofString "MOST_ROOMS", Str.ofString "is_signs", Str.ofString "is_row", Str.ofString "is_table", Str.ofString "Machine", Str.ofString "rooms", Str.ofString "led", Str.ofString "need_word", Str.ofString "row_of", Str.ofString "weight", Str.ofString "_law_cell_at", Str.ofString "_law_common", Str.ofString "_law_share", Str.ofString "_law_word_of", Str.ofString "_law_drawn", Str.ofString "_law_top", Str.ofString "_law_scales", Str.ofString "_law_signs", Str.ofString "_law_tops", Str.ofString "_law_row", Str.ofString "_law_parts", Str.ofString "_law_no_signs", Str.ofString "_law_no_row", Str.ofString "_law_spoilt", Str.ofString "_law_told", Str.ofString "_law_wide", Str.ofString "_law_word_refused", Str.ofString "_law_words_refused"]
theorem size_f (w : World) : ((boot_heap w.params).isNs mainGlobals && (Array.mk ([] : List GenState)).size == 0, (boot_heap w.params).objs.size, (boot_heap w.params).nsMap mainGlobals "__annotations__") = (true, 11, (some (@PySem.Value.ref 6))) := by kernel_rfl
theorem size (w : World) : ((boot_heap w.params).isNs mainGlobals && (Array.mk ([] : List GenState)).size == 0, (boot_heap w.params).objs.size, (boot_heap w.params).nsMap mainGlobals "__annotations__") = (true, 11, (some (@PySem.Value.ref 6))) := by
  exact size_f w
theorem lk1_f (w : World) (os : OsState) : (staticsOk (PySem.W.Fast.tw5923862056798008813 PW.main.body) (boot_heap w.params) (Heap.mk (Array.mk (LF w.params)) (@PySem.Life.mk [] [] [] 0 [] [] @Bool.false (@List.toArray @Nat []) [] 0 @Bool.false @Bool.false @Bool.false (@OfNat.ofNat @Int 0 (@instOfNat 0)) [(@OfNat.ofNat @Int 2000 (@instOfNat 2000)), (@OfNat.ofNat @Int 10 (@instOfNat 10)), (@OfNat.ofNat @Int 10 (@instOfNat 10))] @Bool.false 0 @Bool.true [] [] 0 @Bool.false)) && namesBound PW (Heap.mk (Array.mk (LF w.params)) (@PySem.Life.mk [] [] [] 0 [] [] @Bool.false (@List.toArray @Nat []) [] 0 @Bool.false @Bool.false @Bool.false (@OfNat.ofNat @Int 0 (@instOfNat 0)) [(@OfNat.ofNat @Int 2000 (@instOfNat 2000)), (@OfNat.ofNat @Int 10 (@instOfNat 10)), (@OfNat.ofNat @Int 10 (@instOfNat 10))] @Bool.false 0 @Bool.true [] [] 0 @Bool.false)) && gensDone (Shared.mk (Heap.mk (Array.mk (LF w.params)) (@PySem.Life.mk [] [] [] 0 [] [] @Bool.false (@List.toArray @Nat []) [] 0 @Bool.false @Bool.false @Bool.false (@OfNat.ofNat @Int 0 (@instOfNat 0)) [(@OfNat.ofNat @Int 2000 (@instOfNat 2000)), (@OfNat.ofNat @Int 10 (@instOfNat 10)), (@OfNat.ofNat @Int 10 (@instOfNat 10))] @Bool.false 0 @Bool.true [] [] 0 @Bool.false)) (Array.mk []) (@PySem.Drawn.mk 0 0 0 0) 627 os) && laidKept (boot_heap w.params) (Heap.mk (Array.mk (LF w.params)) (@PySem.Life.mk [] [] [] 0 [] [] @Bool.false (@List.toArray @Nat []) [] 0 @Bool.false @Bool.false @Bool.false (@OfNat.ofNat @Int 0 (@instOfNat 0)) [(@OfNat.ofNat @Int 2000 (@instOfNat 2000)), (@OfNat.ofNat @Int 10 (@instOfNat 10)), (@OfNat.ofNat @Int 10 (@instOfNat 10))] @Bool.false 0 @Bool.true [] [] 0 @Bool.false))) = true := by kernel_rfl
theorem lk1 (w : World) (os : OsState) : (staticsOk (importedModules PW.main.body) (boot_heap w.params) (Heap.mk (Array.mk (LF w.params)) (@PySem.Life.mk [] [] [] 0 [] [] @Bool.false (@List.toArray @Nat []) [] 0 @Bool.false @Bool.false @Bool.false (@OfNat.ofNat @Int 0 (@instOfNat 0)) [(@OfNat.ofNat @Int 2000 (@instOfNat 2000)), (@OfNat.ofNat @Int 10 (@instOfNat 10)), (@OfNat.ofNat @Int 10 (@instOfNat 10))] @Bool.false 0 @Bool.true [] [] 0 @Bool.false)) && namesBound PW (Heap.mk (Array.mk (LF w.params)) (@PySem.Life.mk [] [] [] 0 [] [] @Bool.false (@List.toArray @Nat []) [] 0 @Bool.false @Bool.false @Bool.false (@OfNat.ofNat @Int 0 (@instOfNat 0)) [(@OfNat.ofNat @Int 2000 (@instOfNat 2000)), (@OfNat.ofNat @Int 10 (@instOfNat 10)), (@OfNat.ofNat @Int 10 (@instOfNat 10))] @Bool.false 0 @Bool.true [] [] 0 @Bool.false)) && gensDone (Shared.mk (Heap.mk (Array.mk (LF w.params)) (@PySem.Life.mk [] [] [] 0 [] [] @Bool.false (@List.toArray @Nat []) [] 0 @Bool.false @Bool.false @Bool.false (@OfNat.ofNat @Int 0 (@instOfNat 0)) [(@OfNat.ofNat @Int 2000 (@instOfNat 2000)), (@OfNat.ofNat @Int 10 (@instOfNat 10)), (@OfNat.ofNat @Int 10 (@instOfNat 10))] @Bool.false 0 @Bool.true [] [] 0 @Bool.false)) (Array.mk []) (@PySem.Drawn.mk 0 0 0 0) 627 os) && laidKept (boot_heap w.params) (Heap.mk (Array.mk (LF w.params)) (@PySem.Life.mk [] [] [] 0 [] [] @Bool.false (@List.toArray @Nat []) [] 0 @Bool.false @Bool.false @Bool.false (@OfNat.ofNat @Int 0 (@instOfNat 0)) [(@OfNat.ofNat @Int 2000 (@instOfNat 2000)), (@OfNat.ofNat @Int 10 (@instOfNat 10)), (@OfNat.ofNat @Int 10 (@instOfNat 10))] @Bool.false 0 @Bool.true [] [] 0 @Bool.false))) = true := by
  rw [PySem.W.Fast.te5923862056798008813]
  exact lk1_f w os
theorem lk2_f (w : World) (os : OsState) : PySem.W.Fast.tw4187177175401517315 q loose (PySem.W.Fast.tw5923862056798008813 PW.main.body) (fun s => xlAt q [] s && recOk (RowW.records (OpenRow.toRowW (OpenLaw.row PySem.Challenge.rw_uf020009_05))) s) true (Shared.mk (Heap.mk (Array.mk (LF w.params)) (@PySem.Life.mk [] [] [] 0 [] [] @Bool.false (@List.toArray @Nat []) [] 0 @Bool.false @Bool.false @Bool.false (@OfNat.ofNat @Int 0 (@instOfNat 0)) [(@OfNat.ofNat @Int 2000 (@instOfNat 2000)), (@OfNat.ofNat @Int 10 (@instOfNat 10)), (@OfNat.ofNat @Int 10 (@instOfNat 10))] @Bool.false 0 @Bool.true [] [] 0 @Bool.false)) (Array.mk []) (@PySem.Drawn.mk 0 0 0 0) 627 os) = openGood q loose := by kernel_rfl
theorem lk2 (w : World) (os : OsState) : openSeen q loose (importedModules PW.main.body) (fun s => xlAt q [] s && recOk (RowW.records (OpenRow.toRowW (OpenLaw.row PySem.Challenge.rw_uf020009_05))) s) true (Shared.mk (Heap.mk (Array.mk (LF w.params)) (@PySem.Life.mk [] [] [] 0 [] [] @Bool.false (@List.toArray @Nat []) [] 0 @Bool.false @Bool.false @Bool.false (@OfNat.ofNat @Int 0 (@instOfNat 0)) [(@OfNat.ofNat @Int 2000 (@instOfNat 2000)), (@OfNat.ofNat @Int 10 (@instOfNat 10)), (@OfNat.ofNat @Int 10 (@instOfNat 10))] @Bool.false 0 @Bool.true [] [] 0 @Bool.false)) (Array.mk []) (@PySem.Drawn.mk 0 0 0 0) 627 os) = openGood q loose := by
  rw [PySem.W.Fast.te4187177175401517315, PySem.W.Fast.te5923862056798008813]
  exact lk2_f w os
theorem lk3_f (w : World) : as.map (Heap.mk (Array.mk (LF w.params)) (@PySem.Life.mk [] [] [] 0 [] [] @Bool.false (@List.toArray @Nat []) [] 0 @Bool.false @Bool.false @Bool.false (@OfNat.ofNat @Int 0 (@instOfNat 0)) [(@OfNat.ofNat @Int 2000 (@instOfNat 2000)), (@OfNat.ofNat @Int 10 (@instOfNat 10)), (@OfNat.ofNat @Int 10 (@instOfNat 10))] @Bool.false 0 @Bool.true [] [] 0 @Bool.false)).get? = (KH w.params).map fun p => some p.2 := by kernel_rfl
theorem lk3 (w : World) : as.map (Heap.mk (Array.mk (LF w.params)) (@PySem.Life.mk [] [] [] 0 [] [] @Bool.false (@List.toArray @Nat []) [] 0 @Bool.false @Bool.false @Bool.false (@OfNat.ofNat @Int 0 (@instOfNat 0)) [(@OfNat.ofNat @Int 2000 (@instOfNat 2000)), (@OfNat.ofNat @Int 10 (@instOfNat 10)), (@OfNat.ofNat @Int 10 (@instOfNat 10))] @Bool.false 0 @Bool.true [] [] 0 @Bool.false)).get? = (KH w.params).map fun p => some p.2 := by
  exact lk3_f w
theorem left : LeftO PW q loose (fun s => xlAt q [] s && recOk (RowW.records (OpenRow.toRowW (OpenLaw.row PySem.Challenge.rw_uf020009_05))) s) (Hook.obs (kHook KH as as_ok)) (Hook.val (kHook KH as as_ok)) 6086 :=
  LeftO.of_pieces (H₀ := boot_heap) (H₁ := fun P => Heap.mk (Array.mk (LF P)) (@PySem.Life.mk [] [] [] 0 [] [] @Bool.false (@List.toArray @Nat []) [] 0 @Bool.false @Bool.false @Bool.false (@OfNat.ofNat @Int 0 (@instOfNat 0)) [(@OfNat.ofNat @Int 2000 (@instOfNat 2000)), (@OfNat.ofNat @Int 10 (@instOfNat 10)), (@OfNat.ofNat @Int 10 (@instOfNat 10))] @Bool.false 0 @Bool.true [] [] 0 @Bool.false)) (gs₀ := Array.mk []) (gs₁ := (Array.mk [])) (d₀ := boot_drawn) (d₁ := (@PySem.Drawn.mk 0 0 0 0)) (k₀ := boot_toks) (k₁ := 627) (m₀ := 11) (ann := (some (@PySem.Value.ref 6))) (M := (12 + (1 + (196 + (214 + (214 + (214 + (214 + (214 + (214 + (384 + (207 + (374 + (380 + (167 + 2)))))))))))))))
    (boot_open (by kernel_rfl) (by decide) (fun s => by kernel_rfl)) size run_ok (by decide) fun w => funext fun os => by
      refine looks_pair (lk1 w os) (looks_pair (lk2 w os) (lk3 w))
noncomputable def dL : DefRec := ⟨Str.ofString "law", fnA (stAt PW 51), fnB (stAt PW 51), fnS (stAt PW 51), fnP (stAt PW 51)⟩
theorem hdef : defOf q (OpenRow.toRowW (OpenLaw.row PySem.Challenge.rw_uf020009_05)).name = some (dL, []) := by kernel_rfl
theorem hp : (OpenRow.toRowW (OpenLaw.row PySem.Challenge.rw_uf020009_05)).prog.theDef (OpenRow.toRowW (OpenLaw.row PySem.Challenge.rw_uf020009_05)).name = some (dL.params, dL.body, dL.scope) := by kernel_rfl
theorem hk : kwWritten? dL.params.kwonlyargs dL.params.kw_defaults = some [] := by kernel_rfl
theorem said_f : PySem.W.Fast.tw9446332074065402090 PySem.Challenge.rw_uf020009_05 = true := by kernel_rfl
theorem said : OpenLaw.wellSaid PySem.Challenge.rw_uf020009_05 = true := by rw [PySem.W.Fast.te9446332074065402090]; exact said_f
theorem okq : (chainsOk q && opensWell PW && (frees (OpenRow.toRowW (OpenLaw.row PySem.Challenge.rw_uf020009_05)) && (OpenRow.toRowW (OpenLaw.row PySem.Challenge.rw_uf020009_05)).within.isEmpty)) = true := by kernel_rfl
theorem bare : (OpenRow.toRowW (OpenLaw.row PySem.Challenge.rw_uf020009_05)).prog.bare := ⟨rfl, rfl, rfl, rfl, rfl, by decide +kernel⟩
theorem hd (hc : WalkO q loose (XL q []) (Hook.says (kHook KH as as_ok)) (OpenRow.toRowW (OpenLaw.row PySem.Challenge.rw_uf020009_05)) dL [] fun f vs => PySem.call f vs) : PySem.Challenge.rw_uf020009_05.Holds :=
  holds_law said fun said' => holds_open (q := q) (loose := loose) (Xt := (fun s => xlAt q [] s && recOk (RowW.records (OpenRow.toRowW (OpenLaw.row PySem.Challenge.rw_uf020009_05))) s)) (XP := XL q []) (Yf := Hook.obs (kHook KH as as_ok)) (Ya := Hook.val (kHook KH as as_ok)) (YP := Hook.says (kHook KH as as_ok)) (N := 6086)
    left (Hook.of _) (Hook.keeps _) (fun s e => xl_of s (Bool.and_eq_true_iff.mp e).1) XL.keeps hdef hp hk (fun s e => recFacts_of (Bool.and_eq_true_iff.mp e).2) rfl said' okq bare (by w_witness2) hc
end Hd
end Mine

open PySem PySem.W PyProof.Rows
namespace Mine
noncomputable abbrev KH : Params → Frag := Hd.KH
noncomputable abbrev p_WeighError : Addr := 24
noncomputable abbrev p_Nought : Addr := 37
noncomputable abbrev p_NoText : Addr := 49
noncomputable abbrev p_NoRow : Addr := 61
noncomputable abbrev p_NoMachine : Addr := 73
noncomputable abbrev p_NoWord : Addr := 85
noncomputable abbrev p_OtherSigns : Addr := 97
noncomputable abbrev p_TooMany : Addr := 109
noncomputable abbrev p_NOUGHT : Addr := 112
noncomputable abbrev p_is_whole : Addr := 119
noncomputable abbrev p_common : Addr := 126
noncomputable abbrev p_is_share : Addr := 133
noncomputable abbrev p_share : Addr := 140
noncomputable abbrev p_plus : Addr := 147
noncomputable abbrev p_times : Addr := 154
noncomputable abbrev p_summed_up : Addr := 161
noncomputable abbrev p_crossed : Addr := 166
noncomputable abbrev p_is_signs : Addr := 173
noncomputable abbrev p_is_row : Addr := 178
noncomputable abbrev p_is_table : Addr := 183
noncomputable abbrev p_Machine : Addr := 198
noncomputable abbrev p_rooms : Addr := 209
noncomputable abbrev p_led : Addr := 214
noncomputable abbrev p_need_word : Addr := 219
noncomputable abbrev p_row_of : Addr := 226
noncomputable abbrev p_weight : Addr := 233
noncomputable abbrev l_cell_at : Addr := 240
noncomputable abbrev l_common : Addr := 247
noncomputable abbrev l_share : Addr := 254
noncomputable abbrev l_word_of : Addr := 261
noncomputable abbrev l_drawn : Addr := 268
noncomputable abbrev l_top : Addr := 275
noncomputable abbrev l_scales : Addr := 282
noncomputable abbrev l_signs : Addr := 287
noncomputable abbrev l_tops : Addr := 292
noncomputable abbrev l_row : Addr := 297
noncomputable abbrev l_parts : Addr := 302
noncomputable abbrev l_no_signs : Addr := 309
noncomputable abbrev l_no_row : Addr := 316
noncomputable abbrev l_spoilt : Addr := 321
noncomputable abbrev l_told : Addr := 328
noncomputable abbrev l_wide : Addr := 333
noncomputable abbrev l_word_refused : Addr := 340
noncomputable abbrev l_words_refused : Addr := 345
noncomputable abbrev p_law : Addr := 350
noncomputable abbrev gt : List (Str × Value) := [(Str.ofString "WeighError", .ref p_WeighError), (Str.ofString "Nought", .ref p_Nought), (Str.ofString "NoText", .ref p_NoText), (Str.ofString "NoRow", .ref p_NoRow), (Str.ofString "NoMachine", .ref p_NoMachine), (Str.ofString "NoWord", .ref p_NoWord), (Str.ofString "OtherSigns", .ref p_OtherSigns), (Str.ofString "TooMany", .ref p_TooMany), (Str.ofString "NOUGHT", .ref p_NOUGHT), (Str.ofString "is_whole", .ref p_is_whole), (Str.ofString "common", .ref p_common), (Str.ofString "is_share", .ref p_is_share), (Str.ofString "share", .ref p_share), (Str.ofString "plus", .ref p_plus), (Str.ofString "times", .ref p_times), (Str.ofString "summed_up", .ref p_summed_up), (Str.ofString "crossed", .ref p_crossed), (Str.ofString "LETTERS", (@PySem.Value.str (@PySem.Str.ofString "abcdefghijklmnopqrstuvwxyz") 388)), (Str.ofString "MOST_SIGNS", (@PySem.Value.int (@OfNat.ofNat @Int 6 (@instOfNat 6)) 390)), (Str.ofString "MOST_ROOMS", (@PySem.Value.int (@OfNat.ofNat @Int 12 (@instOfNat 12)) 392)), (Str.ofString "is_signs", .ref p_is_signs), (Str.ofString "is_row", .ref p_is_row), (Str.ofString "is_table", .ref p_is_table), (Str.ofString "Machine", .ref p_Machine), (Str.ofString "rooms", .ref p_rooms), (Str.ofString "led", .ref p_led), (Str.ofString "need_word", .ref p_need_word), (Str.ofString "row_of", .ref p_row_of), (Str.ofString "weight", .ref p_weight), (Str.ofString "_law_cell_at", .ref l_cell_at), (Str.ofString "_law_common", .ref l_common), (Str.ofString "_law_share", .ref l_share), (Str.ofString "_law_word_of", .ref l_word_of), (Str.ofString "_law_drawn", .ref l_drawn), (Str.ofString "_law_top", .ref l_top), (Str.ofString "_law_scales", .ref l_scales), (Str.ofString "_law_signs", .ref l_signs), (Str.ofString "_law_tops", .ref l_tops), (Str.ofString "_law_row", .ref l_row), (Str.ofString "_law_parts", .ref l_parts), (Str.ofString "_law_no_signs", .ref l_no_signs), (Str.ofString "_law_no_row", .ref l_no_row), (Str.ofString "_law_spoilt", .ref l_spoilt), (Str.ofString "_law_told", .ref l_told), (Str.ofString "_law_wide", .ref l_wide), (Str.ofString "_law_word_refused", .ref l_word_refused), (Str.ofString "_law_words_refused", .ref l_words_refused), (Str.ofString "law", .ref p_law)]
noncomputable abbrev bt : List (Str × Value) := [(Str.ofString "ValueError", .type "ValueError"), (Str.ofString "abs", .builtin "abs"), (Str.ofString "all", .builtin "all"), (Str.ofString "bool", .type "bool"), (Str.ofString "int", .type "int"), (Str.ofString "isinstance", .builtin "isinstance"), (Str.ofString "len", .builtin "len"), (Str.ofString "list", .type "list"), (Str.ofString "range", .type "range"), (Str.ofString "str", .type "str"), (Str.ofString "tuple", .type "tuple")]
theorem gt_ok (P : Params) : gtOk (KH P) gt = true := by kernel_rfl
theorem bt_ok (P : Params) : btOk (KH P) bt = true := by kernel_rfl
theorem bt_ok' : btOk' bt = true := by decide +kernel
noncomputable abbrev Wl (c : Cx) := Wd c KH gt bt
noncomputable abbrev m_Machine_init : Addr := 195
local macro_rules | `(tactic| walk_at "m.one") => `(tactic| with_reducible (first
    | (show SE _ _ _ _ _ _ _ _ _; first | (show SE _ _ _ _ _ _ (Expr.Name _ _) _ _; first | refine A.var ?_   | refine A.gint ?_ | refine A.gstr ?_ | refine A.gname ?_ | refine A.bname ?_) | refine SE.int ?_ | (show SE _ _ _ _ _ _ (Expr.Call _ _ _ _) _ _; first | refine A.gcall ?_ | refine A.bcall ?_ | refine A.tcall ?_) | refine SE.slice ?_ | refine SE.sub ?_ | refine SE.bin ?_ | refine SE.cmp ?_ | refine SE.tup ?_ | refine SE.lst ?_ | refine SE.bool ?_ | refine SE.str ?_ | refine SE.boolop ?_ | refine SE.not ?_ | refine SE.un ?_  | refine SE.none ?_ | refine SE.dict0 ?_)
    | (show S2 _ _ _ _ _ _ _ _ _; first | refine A.itup ?_ | refine A.ilst ?_ | refine S2.addI ?_ | refine S2.subI ?_ | refine S2.eqI ?_ | refine S2.neI ?_ | refine S2.ltI ?_  | refine S2.gtI ?_ | refine S2.geI ?_   | refine S2.notInS ?_ | refine S2.inS ?_)
    | refine SL.cons ?_
    | refine SL.nil ?_
    | (show SS _ _ _ _ _ _ _ _ _ _; first | refine SS.assign ?_ | refine SS.ret ?_ | refine SS.nil ?_)
    | refine SB.bool ?_
    | refine ST.cmp ?_
    
    | refine STs.and_cons ?_
    | refine STs.or_cons ?_
    | refine SBo.one ?_
    | refine SBo.and_cons ?_
    
    | refine STs.and_nil ?_
    | refine STs.or_nil ?_
    
    | refine ST.val ?_
    | refine S1.negI ?_
    | (show SC _ _ _ _ _ _ _ _; first | refine SC.len_tup ?_ | refine SC.len_lst ?_ | refine SC.abs ?_ | refine SC.int_bool ?_ | refine SC.range1 ?_ )
    | refine A.put ?_
    | refine A.len ?_))

section
variable {c : Cx} {η : Hp} {d : Nat} {hd : Bool} {Q : V → Hp → Prop} {X : Addr → Hp → Prop} {v : V}

theorem c_common (W : Wl c) {a b : Int} (ha : 0 ≤ a) (hb : 0 ≤ b) (q : Q (.int (Int.gcd a b)) η) : SC c (d + 1) true (.ref p_common) [.int a, .int b] η Q X := by
  ((refine SC.def2 (by assumption) (by rfl) (by kernel_rfl) (by kernel_rfl) (by rfl) (by rfl) ?_; dsimp only [initσ]))
  refine SS.while ⟨b.toNat + 1, ?_⟩
  generalize hn : b.toNat = n
  replace hn : b.toNat ≤ n := by omega
  induction n generalizing a b with
  | zero =>
    have h0 : b = 0 := by omega
    subst h0
    unfold WhileN
    (repeat (first | walk_at "m.one" | with_reducible (first | refine SS.if ?_ | refine SS.while ?_ | refine ST.not ?_ | refine ST.boolop ?_ | (show ite _ _ _; first | refine iteT ?_ | refine iteF ?_ | refine iteNT ?_ | refine iteNF ?_))))
    simp only [bne_self_eq_false, Bool.false_eq_true, if_false]
    (repeat (first | walk_at "m.one" | with_reducible (first | refine SS.if ?_ | refine SS.while ?_ | refine ST.not ?_ | refine ST.boolop ?_ | (show ite _ _ _; first | refine iteT ?_ | refine iteF ?_ | refine iteNT ?_ | refine iteNF ?_))))
    simpa [Int.natAbs_of_nonneg ha] using q
  | succ n ih =>
    unfold WhileN
    (repeat (first | walk_at "m.one" | with_reducible (first | refine SS.if ?_ | refine SS.while ?_ | refine ST.not ?_ | refine ST.boolop ?_ | (show ite _ _ _; first | refine iteT ?_ | refine iteF ?_ | refine iteNT ?_ | refine iteNF ?_))))
    by_cases h0 : b = 0
    · subst h0
      simp only [bne_self_eq_false, Bool.false_eq_true, if_false]
      (repeat (first | walk_at "m.one" | with_reducible (first | refine SS.if ?_ | refine SS.while ?_ | refine ST.not ?_ | refine ST.boolop ?_ | (show ite _ _ _; first | refine iteT ?_ | refine iteF ?_ | refine iteNT ?_ | refine iteNF ?_))))
      simpa [Int.natAbs_of_nonneg ha] using q
    · simp only [bne_iff_ne, ne_eq, h0, not_false_eq_true, if_true]
      refine SS.swap (by (with_reducible (repeat (first | exact List.mem_cons_self | apply List.mem_cons_of_mem)))) (by (with_reducible (repeat (first | exact List.mem_cons_self | apply List.mem_cons_of_mem)))) (by decide +kernel) ?_
      (repeat (first | walk_at "m.one" | with_reducible (first | refine SS.if ?_ | refine SS.while ?_ | refine ST.not ?_ | refine ST.boolop ?_ | (show ite _ _ _; first | refine iteT ?_ | refine iteF ?_ | refine iteNT ?_ | refine iteNF ?_))))
      refine S2.modI h0 ?_
      refine ⟨_, _, by (with_reducible (repeat (first | exact Put.loc | exact Put.cell | apply Put.tail))), by (with_reducible (repeat (first | exact Put.loc | exact Put.cell | apply Put.tail))), ?_⟩
      (repeat (first | walk_at "m.one" | with_reducible (first | refine SS.if ?_ | refine SS.while ?_ | refine ST.not ?_ | refine ST.boolop ?_ | (show ite _ _ _; first | refine iteT ?_ | refine iteF ?_ | refine iteNT ?_ | refine iteNF ?_))))
      have hb' : 0 < b := by omega
      have e := Int.fmod_eq_emod_of_nonneg a (b := b) (by omega)
      have l1 := Int.emod_nonneg a h0
      have l2 := Int.emod_lt_of_pos a hb'
      exact ih hb (by omega) (by rw [gcd_step a b hb']; exact q) (by omega)

theorem c_share (W : Wl c) {t b : Int} (hz : b.natAbs < 2 ^ 9000) (q0 : b = 0 → X p_Nought η) (q : b ≠ 0 → Q (shareOf t b) η) : SC c (d + 2) true (.ref p_share) [.int t, .int b] η Q X := by
  ((refine SC.def2 (by assumption) (by rfl) (by kernel_rfl) (by kernel_rfl) (by rfl) (by rfl) ?_; dsimp only [initσ]))
  (repeat (first | walk_at "m.one" | with_reducible (first | refine SS.if ?_ | refine SS.while ?_ | refine ST.not ?_ | refine ST.boolop ?_ | (show ite _ _ _; first | refine iteT ?_ | refine iteF ?_ | refine iteNT ?_ | refine iteNF ?_))))
  refine iteS (fun h => ?_) fun h => ?_
  · refine SS.raise W (by (with_reducible (repeat (first | exact List.mem_cons_self | apply List.mem_cons_of_mem)))) (by (with_reducible (repeat (first | exact List.mem_cons_self | apply List.mem_cons_of_mem)))) (by kernel_rfl) ?_
    (repeat (first | walk_at "m.one" | with_reducible (first | refine SS.if ?_ | refine SS.while ?_ | refine ST.not ?_ | refine ST.boolop ?_ | (show ite _ _ _; first | refine iteT ?_ | refine iteF ?_ | refine iteNT ?_ | refine iteNF ?_))))
    exact q0 (by simpa using h)
  · have hb : b ≠ 0 := by simpa using h
    (repeat (first | walk_at "m.one" | with_reducible (first | refine SS.if ?_ | refine SS.while ?_ | refine ST.not ?_ | refine ST.boolop ?_ | (show ite _ _ _; first | refine iteT ?_ | refine iteF ?_ | refine iteNT ?_ | refine iteNF ?_))))
    refine c_common W (by omega) (by omega) ?_
    have e : Int.gcd (t.natAbs : Int) (b.natAbs : Int) = Int.gcd t b := by simp [Int.gcd]
    rw [e]
    (repeat (first | walk_at "m.one" | with_reducible (first | refine SS.if ?_ | refine SS.while ?_ | refine ST.not ?_ | refine ST.boolop ?_ | (show ite _ _ _; first | refine iteT ?_ | refine iteF ?_ | refine iteNT ?_ | refine iteNF ?_))))
    have fin : ∀ g : Int, g = byOf t b → Q (.tup [.int (t.fdiv g), .int (b.fdiv g)]) η := fun g e => by rw [e]; exact q hb
    refine iteS (fun h => ?_) fun h => ?_
    · (repeat (first | walk_at "m.one" | with_reducible (first | refine SS.if ?_ | refine SS.while ?_ | refine ST.not ?_ | refine ST.boolop ?_ | (show ite _ _ _; first | refine iteT ?_ | refine iteF ?_ | refine iteNT ?_ | refine iteNF ?_))))
      have eg : 0 - (Int.gcd t b : Int) = byOf t b := by unfold byOf; rw [if_pos (by simpa using h)]
      rw [eg]
      have := @byOf_small t b hb
      refine S2.divI (byOf_ne hb) (noPylong_pow (by omega)) ?_
      (repeat (first | walk_at "m.one" | with_reducible (first | refine SS.if ?_ | refine SS.while ?_ | refine ST.not ?_ | refine ST.boolop ?_ | (show ite _ _ _; first | refine iteT ?_ | refine iteF ?_ | refine iteNT ?_ | refine iteNF ?_))))
      refine S2.divI (byOf_ne hb) (noPylong_pow (by omega)) ?_
      (repeat (first | walk_at "m.one" | with_reducible (first | refine SS.if ?_ | refine SS.while ?_ | refine ST.not ?_ | refine ST.boolop ?_ | (show ite _ _ _; first | refine iteT ?_ | refine iteF ?_ | refine iteNT ?_ | refine iteNF ?_))))
      exact q hb
    · (repeat (first | walk_at "m.one" | with_reducible (first | refine SS.if ?_ | refine SS.while ?_ | refine ST.not ?_ | refine ST.boolop ?_ | (show ite _ _ _; first | refine iteT ?_ | refine iteF ?_ | refine iteNT ?_ | refine iteNF ?_))))
      have eg : (Int.gcd t b : Int) = byOf t b := by unfold byOf; rw [if_neg (by simpa using h)]
      rw [eg]
      have := @byOf_small t b hb
      refine S2.divI (byOf_ne hb) (noPylong_pow (by omega)) ?_
      (repeat (first | walk_at "m.one" | with_reducible (first | refine SS.if ?_ | refine SS.while ?_ | refine ST.not ?_ | refine ST.boolop ?_ | (show ite _ _ _; first | refine iteT ?_ | refine iteF ?_ | refine iteNT ?_ | refine iteNF ?_))))
      refine S2.divI (byOf_ne hb) (noPylong_pow (by omega)) ?_
      (repeat (first | walk_at "m.one" | with_reducible (first | refine SS.if ?_ | refine SS.while ?_ | refine ST.not ?_ | refine ST.boolop ?_ | (show ite _ _ _; first | refine iteT ?_ | refine iteF ?_ | refine iteNT ?_ | refine iteNF ?_))))
      exact q hb

theorem fmod_range (a : Int) {b : Int} (hb : 0 < b) : 0 ≤ a.fmod b ∧ a.fmod b < b := by
  rw [Int.fmod_eq_emod_of_nonneg _ (by omega)]; exact ⟨Int.emod_nonneg _ (by omega), Int.emod_lt_of_pos _ hb⟩

theorem c_is_whole (W : Wl c) {a b : Bool} (h1 : isiT "int" v = some a) (h2 : isiT "bool" v = some b) (q : Q (.bool (a && !b)) η) : SC c (d + 1) hd (.ref p_is_whole) [v] η Q X := by
  ((refine SC.def2 (by assumption) (by rfl) (by kernel_rfl) (by kernel_rfl) (by rfl) (by rfl) ?_; dsimp only [initσ]))
  (repeat (first | walk_at "m.one" | with_reducible (first | refine SS.if ?_ | refine SS.while ?_ | refine ST.not ?_ | refine ST.boolop ?_ | (show ite _ _ _; first | refine iteT ?_ | refine iteF ?_ | refine iteNT ?_ | refine iteNF ?_))))
  refine SC.isi h1 ?_
  (repeat (first | walk_at "m.one" | with_reducible (first | refine SS.if ?_ | refine SS.while ?_ | refine ST.not ?_ | refine ST.boolop ?_ | (show ite _ _ _; first | refine iteT ?_ | refine iteF ?_ | refine iteNT ?_ | refine iteNF ?_))))
  cases a with
  | false => exact q
  | true =>
    simp only [if_true]
    (repeat (first | walk_at "m.one" | with_reducible (first | refine SS.if ?_ | refine SS.while ?_ | refine ST.not ?_ | refine ST.boolop ?_ | (show ite _ _ _; first | refine iteT ?_ | refine iteF ?_ | refine iteNT ?_ | refine iteNF ?_))))
    refine SC.isi h2 ?_
    (repeat (first | walk_at "m.one" | with_reducible (first | refine SS.if ?_ | refine SS.while ?_ | refine ST.not ?_ | refine ST.boolop ?_ | (show ite _ _ _; first | refine iteT ?_ | refine iteF ?_ | refine iteNT ?_ | refine iteNF ?_))))
    exact q

noncomputable def shareV : V → Bool
  | .tup [.int a, .int b] => decide (b ≥ 1) && ((Int.gcd a b : Int) == 1)
  | _ => false

noncomputable def okV (v : V) : Bool := (isiT "tuple" v).isSome && (isiT "int" v).isSome && (isiT "bool" v).isSome

noncomputable def okT : V → Bool
  | .tup vs => vs.all okV
  | v => okV v

theorem okV_whole {v : V} (h : okV v = true) : ∃ a b, isiT "int" v = some a ∧ isiT "bool" v = some b ∧ ((a && !b) = true → ∃ i, v = .int i) ∧ ((a && !b) = false → ∀ i, v ≠ .int i) := by
  cases v <;> first | (simp [okV, isiT] at h; done) | exact ⟨_, _, rfl, rfl, by simp, by simp⟩

theorem c_is_share (W : Wl c) (h : okT v = true) (q : Q (.bool (shareV v)) η) : SC c (d + 2) true (.ref p_is_share) [v] η Q X := by
  ((refine SC.def2 (by assumption) (by rfl) (by kernel_rfl) (by kernel_rfl) (by rfl) (by rfl) ?_; dsimp only [initσ]))
  by_cases ht : ∃ vs, v = .tup vs
  · obtain ⟨vs, rfl⟩ := ht
    (repeat (first | walk_at "m.one" | with_reducible (first | refine SS.if ?_ | refine SS.while ?_ | refine ST.not ?_ | refine ST.boolop ?_ | (show ite _ _ _; first | refine iteT ?_ | refine iteF ?_ | refine iteNT ?_ | refine iteNF ?_))))
    refine SC.isi (b := true) (by rfl) ?_
    (repeat (first | walk_at "m.one" | with_reducible (first | refine SS.if ?_ | refine SS.while ?_ | refine ST.not ?_ | refine ST.boolop ?_ | (show ite _ _ _; first | refine iteT ?_ | refine iteF ?_ | refine iteNT ?_ | refine iteNF ?_))))
    refine iteS (fun h2 => ?_) fun h2 => ?_
    · (repeat (first | walk_at "m.one" | with_reducible (first | refine SS.if ?_ | refine SS.while ?_ | refine ST.not ?_ | refine ST.boolop ?_ | (show ite _ _ _; first | refine iteT ?_ | refine iteF ?_ | refine iteNT ?_ | refine iteNF ?_))))
      have : shareV (.tup vs) = false := by
        unfold shareV; split
        · rename_i e; cases e; simp at h2
        · rfl
      rw [← this]; exact q
    · obtain ⟨x, y, rfl⟩ : ∃ x y, vs = [x, y] := by
        match vs, h2 with
        | [x, y], _ => exact ⟨x, y, rfl⟩
        | [], h2 => simp at h2
        | [x], h2 => simp at h2
        | _ :: _ :: _ :: _, h2 => simp at h2; omega
      have hx : okV x = true ∧ okV y = true := by simpa [okT] using h
      obtain ⟨a, b, e1, e2, e3, e4⟩ := okV_whole hx.1
      obtain ⟨a', b', f1, f2, f3, f4⟩ := okV_whole hx.2
      (repeat (first | walk_at "m.one" | with_reducible (first | refine SS.if ?_ | refine SS.while ?_ | refine ST.not ?_ | refine ST.boolop ?_ | (show ite _ _ _; first | refine iteT ?_ | refine iteF ?_ | refine iteNT ?_ | refine iteNF ?_))))
      refine c_is_whole W e1 e2 ?_
      (repeat (first | walk_at "m.one" | with_reducible (first | refine SS.if ?_ | refine SS.while ?_ | refine ST.not ?_ | refine ST.boolop ?_ | (show ite _ _ _; first | refine iteT ?_ | refine iteF ?_ | refine iteNT ?_ | refine iteNF ?_))))
      cases hw : (a && !b) with
      | false =>
        (repeat (first | walk_at "m.one" | with_reducible (first | refine SS.if ?_ | refine SS.while ?_ | refine ST.not ?_ | refine ST.boolop ?_ | (show ite _ _ _; first | refine iteT ?_ | refine iteF ?_ | refine iteNT ?_ | refine iteNF ?_))))
        have : shareV (.tup [x, y]) = false := by
          unfold shareV; split
          · rename_i e; cases e; exact absurd rfl (e4 hw _)
          · rfl
        rw [← this]; exact q
      | true =>
        obtain ⟨i, rfl⟩ := e3 hw
        (repeat (first | walk_at "m.one" | with_reducible (first | refine SS.if ?_ | refine SS.while ?_ | refine ST.not ?_ | refine ST.boolop ?_ | (show ite _ _ _; first | refine iteT ?_ | refine iteF ?_ | refine iteNT ?_ | refine iteNF ?_))))
        refine c_is_whole W f1 f2 ?_
        (repeat (first | walk_at "m.one" | with_reducible (first | refine SS.if ?_ | refine SS.while ?_ | refine ST.not ?_ | refine ST.boolop ?_ | (show ite _ _ _; first | refine iteT ?_ | refine iteF ?_ | refine iteNT ?_ | refine iteNF ?_))))
        cases hw' : (a' && !b') with
        | false =>
          (repeat (first | walk_at "m.one" | with_reducible (first | refine SS.if ?_ | refine SS.while ?_ | refine ST.not ?_ | refine ST.boolop ?_ | (show ite _ _ _; first | refine iteT ?_ | refine iteF ?_ | refine iteNT ?_ | refine iteNF ?_))))
          have : shareV (.tup [.int i, y]) = false := by
            unfold shareV; split
            · rename_i e; cases e; exact absurd rfl (f4 hw' _)
            · rfl
          rw [← this]; exact q
        | true =>
          obtain ⟨j, rfl⟩ := f3 hw'
          (repeat (first | walk_at "m.one" | with_reducible (first | refine SS.if ?_ | refine SS.while ?_ | refine ST.not ?_ | refine ST.boolop ?_ | (show ite _ _ _; first | refine iteT ?_ | refine iteF ?_ | refine iteNT ?_ | refine iteNF ?_))))
          have qq : shareV (.tup [.int i, .int j]) = (decide (j ≥ 1) && ((Int.gcd i j : Int) == 1)) := rfl
          rw [qq] at q
          refine iteS (fun h3 => ?_) fun h3 => ?_
          · (repeat (first | walk_at "m.one" | with_reducible (first | refine SS.if ?_ | refine SS.while ?_ | refine ST.not ?_ | refine ST.boolop ?_ | (show ite _ _ _; first | refine iteT ?_ | refine iteF ?_ | refine iteNT ?_ | refine iteNF ?_))))
            refine c_common W (by omega) (by simp at h3; omega) ?_
            (repeat (first | walk_at "m.one" | with_reducible (first | refine SS.if ?_ | refine SS.while ?_ | refine ST.not ?_ | refine ST.boolop ?_ | (show ite _ _ _; first | refine iteT ?_ | refine iteF ?_ | refine iteNT ?_ | refine iteNF ?_))))
            rw [h3] at q
            simpa [Int.gcd] using q
          · rw [h3] at q
            rw [h3]; simpa using q
  · have e : isiT "tuple" v = some false ∧ shareV v = false := by
      cases v <;> first | exact ⟨rfl, rfl⟩ | (exact absurd ⟨_, rfl⟩ ht) | (simp [okT, okV, isiT] at h; done)
    (repeat (first | walk_at "m.one" | with_reducible (first | refine SS.if ?_ | refine SS.while ?_ | refine ST.not ?_ | refine ST.boolop ?_ | (show ite _ _ _; first | refine iteT ?_ | refine iteF ?_ | refine iteNT ?_ | refine iteNF ?_))))
    refine SC.isi e.1 ?_
    (repeat (first | walk_at "m.one" | with_reducible (first | refine SS.if ?_ | refine SS.while ?_ | refine ST.not ?_ | refine ST.boolop ?_ | (show ite _ _ _; first | refine iteT ?_ | refine iteF ?_ | refine iteNT ?_ | refine iteNF ?_))))
    rw [← e.2]; exact q

theorem c_plus (W : Wl c) {a b e f : Int} (ha : Sm a) (hb : Sm b) (he : Sm e) (hf : Sm f) (b0 : b ≠ 0) (f0 : f ≠ 0) (q : Q (shareOf (a * f + e * b) (b * f)) η) :
    SC c (d + 3) true (.ref p_plus) [.tup [.int a, .int b], .tup [.int e, .int f]] η Q X := by
  ((refine SC.def2 (by assumption) (by rfl) (by kernel_rfl) (by kernel_rfl) (by rfl) (by rfl) ?_; dsimp only [initσ]))
  (repeat (first | walk_at "m.one" | with_reducible (first | refine SS.if ?_ | refine SS.while ?_ | refine ST.not ?_ | refine ST.boolop ?_ | (show ite _ _ _; first | refine iteT ?_ | refine iteF ?_ | refine iteNT ?_ | refine iteNF ?_))))
  refine S2.mulI (ha.mul hf) ?_
  (repeat (first | walk_at "m.one" | with_reducible (first | refine SS.if ?_ | refine SS.while ?_ | refine ST.not ?_ | refine ST.boolop ?_ | (show ite _ _ _; first | refine iteT ?_ | refine iteF ?_ | refine iteNT ?_ | refine iteNF ?_))))
  refine S2.mulI (he.mul hb) ?_
  (repeat (first | walk_at "m.one" | with_reducible (first | refine SS.if ?_ | refine SS.while ?_ | refine ST.not ?_ | refine ST.boolop ?_ | (show ite _ _ _; first | refine iteT ?_ | refine iteF ?_ | refine iteNT ?_ | refine iteNF ?_))))
  refine S2.mulI (hb.mul hf) ?_
  (repeat (first | walk_at "m.one" | with_reducible (first | refine SS.if ?_ | refine SS.while ?_ | refine ST.not ?_ | refine ST.boolop ?_ | (show ite _ _ _; first | refine iteT ?_ | refine iteF ?_ | refine iteNT ?_ | refine iteNF ?_))))
  exact c_share W (hb.prod hf) (fun h => absurd h (Int.mul_ne_zero b0 f0)) fun _ => q
theorem c_plusS (W : Wl c) {t D u E : Int} (hD : 0 < D) (hE : 0 < E) (ht : Sm t) (sD : Sm D) (hu : Sm u) (sE : Sm E) (q : Q (shareOf (t * E + u * D) (D * E)) η) :
    SC c (d + 3) true (.ref p_plus) [shareOf t D, shareOf u E] η Q X := by
  obtain ⟨p, r, e1, N1⟩ := shareOf_parts (t := t) (b := D) (by omega)
  obtain ⟨p', r', e2, N2⟩ := shareOf_parts (t := u) (b := E) (by omega)
  rw [e1, e2]
  have r0 : r ≠ 0 := by have := N1.pos; omega
  have r0' : r' ≠ 0 := by have := N2.pos; omega
  refine c_plus W (Sm.top N1 ht) (Sm.bot N1 sD) (Sm.top N2 hu) (Sm.bot N2 sE) r0 r0' ?_
  rw [shareOf_eq (t' := t * E + u * D) (b' := D * E) (Int.mul_ne_zero r0 r0') (Int.mul_ne_zero (by omega) (by omega)) ?_]
  · exact q
  · have h1 : (p * r' + p' * r) * (D * E) = (p * D) * (r' * E) + (p' * E) * (r * D) := by
      rw [Int.add_mul]; simp only [Int.mul_comm, Int.mul_left_comm]
    rw [h1, N1.eq, N2.eq, Int.add_mul]
    simp only [Int.mul_comm, Int.mul_left_comm]

theorem c_times (W : Wl c) {a b e f : Int} (ha : Sm a) (hb : Sm b) (he : Sm e) (hf : Sm f) (b0 : b ≠ 0) (f0 : f ≠ 0) (q : Q (shareOf (a * e) (b * f)) η) :
    SC c (d + 3) true (.ref p_times) [.tup [.int a, .int b], .tup [.int e, .int f]] η Q X := by
  ((refine SC.def2 (by assumption) (by rfl) (by kernel_rfl) (by kernel_rfl) (by rfl) (by rfl) ?_; dsimp only [initσ]))
  (repeat (first | walk_at "m.one" | with_reducible (first | refine SS.if ?_ | refine SS.while ?_ | refine ST.not ?_ | refine ST.boolop ?_ | (show ite _ _ _; first | refine iteT ?_ | refine iteF ?_ | refine iteNT ?_ | refine iteNF ?_))))
  refine S2.mulI (ha.mul he) ?_
  (repeat (first | walk_at "m.one" | with_reducible (first | refine SS.if ?_ | refine SS.while ?_ | refine ST.not ?_ | refine ST.boolop ?_ | (show ite _ _ _; first | refine iteT ?_ | refine iteF ?_ | refine iteNT ?_ | refine iteNF ?_))))
  refine S2.mulI (hb.mul hf) ?_
  (repeat (first | walk_at "m.one" | with_reducible (first | refine SS.if ?_ | refine SS.while ?_ | refine ST.not ?_ | refine ST.boolop ?_ | (show ite _ _ _; first | refine iteT ?_ | refine iteF ?_ | refine iteNT ?_ | refine iteNF ?_))))
  exact c_share W (hb.prod hf) (fun h => absurd h (Int.mul_ne_zero b0 f0)) fun _ => q
theorem c_timesS (W : Wl c) {t D u E : Int} (hD : 0 < D) (hE : 0 < E) (ht : Sm t) (sD : Sm D) (hu : Sm u) (sE : Sm E) (q : Q (shareOf (t * u) (D * E)) η) :
    SC c (d + 3) true (.ref p_times) [shareOf t D, shareOf u E] η Q X := by
  obtain ⟨p, r, e1, N1⟩ := shareOf_parts (t := t) (b := D) (by omega)
  obtain ⟨p', r', e2, N2⟩ := shareOf_parts (t := u) (b := E) (by omega)
  rw [e1, e2]
  have r0 : r ≠ 0 := by have := N1.pos; omega
  have r0' : r' ≠ 0 := by have := N2.pos; omega
  refine c_times W (Sm.top N1 ht) (Sm.bot N1 sD) (Sm.top N2 hu) (Sm.bot N2 sE) r0 r0' ?_
  rw [shareOf_eq (t' := t * u) (b' := D * E) (Int.mul_ne_zero r0 r0') (Int.mul_ne_zero (by omega) (by omega)) ?_]
  · exact q
  · have h1 : (p * p') * (D * E) = (p * D) * (p' * E) := by simp only [Int.mul_comm, Int.mul_left_comm]
    rw [h1, N1.eq, N2.eq]
    simp only [Int.mul_comm, Int.mul_left_comm]

theorem share_zero {D : Int} (h : 0 < D) : shareOf 0 D = .tup [.int 0, .int 1] := by
  rw [shareOf_eq (t' := 0) (b' := 1) (by omega) (by decide) (by simp)]; rfl
theorem c_summed_up (W : Wl c) {n : Nat} {ts : Nat → Int} {D : Int} (hD : 0 < D) (sD : Sm D) (ht : ∀ k, k < n → Sm (ts k)) (hs : ∀ k, k ≤ n → Sm (sumN k ts)) (q : Q (shareOf (sumN n ts) D) η) :
    SC c (d + 4) true (.ref p_summed_up) [.lst ((List.range n).map fun k => shareOf (ts k) D)] η Q X := by
  ((refine SC.def2 (by assumption) (by rfl) (by kernel_rfl) (by kernel_rfl) (by rfl) (by rfl) ?_; dsimp only [initσ]))
  refine SS.assign ?_
  refine SE.gpair W (by (with_reducible (repeat (first | exact List.mem_cons_self | apply List.mem_cons_of_mem)))) (by (with_reducible (repeat (first | exact List.mem_cons_self | apply List.mem_cons_of_mem)))) (by rfl) ?_
  rw [← share_zero hD]
  (repeat walk_at "m.one")
  refine SS.for ["one"] ?_
  (repeat walk_at "m.one")
  refine ⟨_, SI.lst, ForL.mapN (fun k => [none, some (shareOf (sumN k ts) D), none, none, none]) (fun k hk => ⟨_, by (with_reducible (repeat (first | exact Put.loc | exact Put.cell | apply Put.tail))), ?_⟩) (fun σ' l => SS.forget l ?_) (by simp [Less, sumN_zero])⟩
  · (repeat walk_at "m.one")
    refine c_plusS W hD hD (hs k (by omega)) sD (ht k hk) sD ?_
    have e : shareOf (sumN k ts * D + ts k * D) (D * D) = shareOf (sumN (k + 1) ts) D := by
      refine shareOf_eq (Int.mul_ne_zero (by omega) (by omega)) (by omega) ?_
      rw [sumN_succ, Int.add_mul, Int.add_mul, Int.mul_assoc, Int.mul_assoc]
    rw [e]
    (repeat walk_at "m.one")
    exact ⟨by simp [Less], rfl⟩
  · (repeat walk_at "m.one")
    exact q

theorem c_crossed (W : Wl c) {n b e x y : Nat} {r o : Nat → Int} {D E : Int} (hD : 0 < D) (hE : 0 < E) (hn : n ≤ 16) (hr : ∀ k, k < n → Lb b (r k)) (ho : ∀ k, k < n → Lb e (o k)) (lD : Lb x D) (lE : Lb y E) (h1 : b + e + 4 < 4000) (h2 : x + y < 4000)
    (q : Q (shareOf (sumN n fun k => r k * o k) (D * E)) η) :
    SC c (d + 5) true (.ref p_crossed) [.lst ((List.range n).map fun k => shareOf (r k) D), .lst ((List.range n).map fun k => shareOf (o k) E)] η Q X := by
  have hp : ∀ k, k < n → Lb (b + e) (r k * o k) := fun k hk => (hr k hk).mul (ho k hk)
  ((refine SC.def2 (by assumption) (by rfl) (by kernel_rfl) (by kernel_rfl) (by rfl) (by rfl) ?_; dsimp only [initσ]))
  (repeat walk_at "m.one")
  refine SE.comp ["k"] none (by (with_reducible (repeat (first | exact CapR.nil | apply CapR.own (by decide) | apply CapR.cap (by repeat (first | exact At.head | apply At.tail)) | apply CapR.capF (by repeat (first | exact At.head | apply At.tail)))))) ?_
  (repeat walk_at "m.one")
  simp only [List.length_map, List.length_range]
  refine ⟨_, rng_ok (by omega), rng_len (by omega), CompL.rngN (g := fun k => shareOf (r k * o k) (D * E)) (fun k hk => ⟨_, by (with_reducible (repeat (first | exact Put.loc | exact Put.cell | apply Put.tail))), by simp [Less], ?_⟩) ?_⟩
  · (repeat walk_at "m.one")
    refine S2.item_lst (range_get _ hk) ?_
    (repeat walk_at "m.one")
    refine S2.item_lst (range_get _ hk) ?_
    (repeat walk_at "m.one")
    exact c_timesS W hD hE (hr k hk).sm lD.sm (ho k hk).sm lE.sm ⟨rfl, rfl⟩
  · (repeat walk_at "m.one")
    rw [List.nil_append]
    exact c_summed_up W (Int.mul_pos hD hE) (lD.mul lE).sm (fun k hk => (hp k hk).sm) (fun k hk => (Lb.sum (b := b + e) (by omega) fun j hj => hp j (by omega)).sm) q
theorem c_led (W : Wl c) {n b e x y : Nat} {r : Nat → Int} {T : Nat → Nat → Int} {D E : Int} (hD : 0 < D) (hE : 0 < E) (hn : n ≤ 16) (hr : ∀ k, k < n → Lb b (r k)) (hT : ∀ i j, i < n → j < n → Lb e (T i j)) (lD : Lb x D) (lE : Lb y E) (h1 : b + e + 4 < 4000) (h2 : x + y < 4000)
    (q : Q (.lst ((List.range n).map fun j => shareOf (sumN n fun k => r k * T k j) (D * E))) η) :
    SC c (d + 6) true (.ref p_led) [.lst ((List.range n).map fun k => shareOf (r k) D), .lst ((List.range n).map fun i => .lst ((List.range n).map fun j => shareOf (T i j) E))] η Q X := by
  ((refine SC.def2 (by assumption) (by rfl) (by kernel_rfl) (by kernel_rfl) (by rfl) (by rfl) ?_; dsimp only [initσ]))
  (repeat walk_at "m.one")
  refine SE.comp ["j"] none (by (with_reducible (repeat (first | exact CapR.nil | apply CapR.own (by decide) | apply CapR.cap (by repeat (first | exact At.head | apply At.tail)) | apply CapR.capF (by repeat (first | exact At.head | apply At.tail)))))) ?_
  (repeat walk_at "m.one")
  simp only [List.length_map, List.length_range]
  refine ⟨_, rng_ok (by omega), rng_len (by omega), CompL.rngN (g := fun j => shareOf (sumN n fun k => r k * T k j) (D * E)) (fun j hj => ⟨_, by (with_reducible (repeat (first | exact Put.loc | exact Put.cell | apply Put.tail))), by simp [Less], ?_⟩) ?_⟩
  · (repeat walk_at "m.one")
    refine SE.comp ["k"] none (by (with_reducible (repeat (first | exact CapR.nil | apply CapR.own (by decide) | apply CapR.cap (by repeat (first | exact At.head | apply At.tail)) | apply CapR.capF (by repeat (first | exact At.head | apply At.tail)))))) ?_
    (repeat walk_at "m.one")
    simp only [List.length_map, List.length_range]
    refine ⟨_, rng_ok (by omega), rng_len (by omega), CompL.rngN (g := fun k => shareOf (T k j) E) (fun k hk => ⟨_, by (with_reducible (repeat (first | exact Put.loc | exact Put.cell | apply Put.tail))), by simp [Less], ?_⟩) ?_⟩
    · (repeat walk_at "m.one")
      refine S2.item_lst (range_get _ hk) ?_
      (repeat walk_at "m.one")
      refine S2.item_lst (range_get _ hj) ?_
      exact ⟨rfl, rfl⟩
    · (repeat walk_at "m.one")
      rw [List.nil_append]
      exact c_crossed W hD hE hn hr (fun k hk => hT k j hk hj) lD lE h1 h2 ⟨rfl, rfl⟩
  · rw [List.nil_append]
    exact q

/-- a row of shares; a table of rows -/
noncomputable def rowV (m : Nat) : V → Bool
  | .lst vs => decide (vs.length = m) && vs.all shareV
  | _ => false
noncomputable def okR : V → Bool
  | .lst vs => decide (vs.length ≤ 10000) && vs.all okT
  | v => isiT "list" v == some false
noncomputable def tabV (m : Nat) : V → Bool
  | .lst vs => decide (vs.length = m) && vs.all (rowV m)
  | _ => false
noncomputable def okTab : V → Bool
  | .lst vs => decide (vs.length ≤ 10000) && vs.all okR
  | v => isiT "list" v == some false
theorem beq_len (a b : Nat) : ((a : Int) == (b : Int)) = decide (a = b) := by
  by_cases h : a = b
  · subst h; simp
  · rw [decide_eq_false h]; simp; omega
theorem c_is_row (W : Wl c) {m : Nat} (h : okR v = true) (q : Q (.bool (rowV m v)) η) : SC c (d + 3) true (.ref p_is_row) [v, .int m] η Q X := by
  have sl : sizeLine = 16777216 := by decide
  ((refine SC.def2 (by assumption) (by rfl) (by kernel_rfl) (by kernel_rfl) (by rfl) (by rfl) ?_; dsimp only [initσ]))
  by_cases ht : ∃ vs, v = .lst vs
  · obtain ⟨vs, rfl⟩ := ht
    have h' : vs.length ≤ 10000 ∧ ∀ x ∈ vs, okT x = true := by simpa [okR] using h
    (repeat (first | walk_at "m.one" | with_reducible (first | refine SS.if ?_ | refine SS.while ?_ | refine ST.not ?_ | refine ST.boolop ?_ | (show ite _ _ _; first | refine iteT ?_ | refine iteF ?_ | refine iteNT ?_ | refine iteNF ?_))))
    refine SC.isi (b := true) (by rfl) ?_
    (repeat (first | walk_at "m.one" | with_reducible (first | refine SS.if ?_ | refine SS.while ?_ | refine ST.not ?_ | refine ST.boolop ?_ | (show ite _ _ _; first | refine iteT ?_ | refine iteF ?_ | refine iteNT ?_ | refine iteNF ?_))))
    rw [beq_len]
    refine iteS (fun h2 => ?_) fun h2 => ?_
    · (repeat (first | walk_at "m.one" | with_reducible (first | refine SS.if ?_ | refine SS.while ?_ | refine ST.not ?_ | refine ST.boolop ?_ | (show ite _ _ _; first | refine iteT ?_ | refine iteF ?_ | refine iteNT ?_ | refine iteNF ?_))))
      refine SE.comp ["part"] none (by (with_reducible (repeat (first | exact CapR.nil | apply CapR.own (by decide) | apply CapR.cap (by repeat (first | exact At.head | apply At.tail)) | apply CapR.capF (by repeat (first | exact At.head | apply At.tail)))))) ?_
      (repeat (first | walk_at "m.one" | with_reducible (first | refine SS.if ?_ | refine SS.while ?_ | refine ST.not ?_ | refine ST.boolop ?_ | (show ite _ _ _; first | refine iteT ?_ | refine iteF ?_ | refine iteNT ?_ | refine iteNF ?_))))
      refine ⟨_, SI.lst, by omega, CompL.mapV (g := fun v => .bool (shareV v)) (fun x hx => ⟨_, by (with_reducible (repeat (first | exact Put.loc | exact Put.cell | apply Put.tail))), by simp [Less], ?_⟩) ?_⟩
      · (repeat (first | walk_at "m.one" | with_reducible (first | refine SS.if ?_ | refine SS.while ?_ | refine ST.not ?_ | refine ST.boolop ?_ | (show ite _ _ _; first | refine iteT ?_ | refine iteF ?_ | refine iteNT ?_ | refine iteNF ?_))))
        exact c_is_share W (h'.2 x hx) ⟨rfl, rfl⟩
      · (repeat (first | walk_at "m.one" | with_reducible (first | refine SS.if ?_ | refine SS.while ?_ | refine ST.not ?_ | refine ST.boolop ?_ | (show ite _ _ _; first | refine iteT ?_ | refine iteF ?_ | refine iteNT ?_ | refine iteNF ?_))))
        rw [List.nil_append, show (vs.map fun v => V.bool (shareV v)) = (vs.map shareV).map V.bool by simp]
        refine SC.all ?_
        have e : rowV m (.lst vs) = (vs.map shareV).all id := by
          unfold rowV; dsimp only; rw [h2, List.all_map]; rfl
        rw [← e]; exact q
    · have e : rowV m (.lst vs) = false := by unfold rowV; dsimp only; rw [h2]; rfl
      rw [e] at q
      rw [h2]; exact q
  · have e : isiT "list" v = some false ∧ rowV m v = false := by
      cases v <;> first | exact ⟨rfl, rfl⟩ | (exact absurd ⟨_, rfl⟩ ht) | (simp [okR, isiT] at h; done)
    (repeat (first | walk_at "m.one" | with_reducible (first | refine SS.if ?_ | refine SS.while ?_ | refine ST.not ?_ | refine ST.boolop ?_ | (show ite _ _ _; first | refine iteT ?_ | refine iteF ?_ | refine iteNT ?_ | refine iteNF ?_))))
    refine SC.isi e.1 ?_
    (repeat (first | walk_at "m.one" | with_reducible (first | refine SS.if ?_ | refine SS.while ?_ | refine ST.not ?_ | refine ST.boolop ?_ | (show ite _ _ _; first | refine iteT ?_ | refine iteF ?_ | refine iteNT ?_ | refine iteNF ?_))))
    rw [← e.2]; exact q
theorem c_is_table (W : Wl c) {m : Nat} (h : okTab v = true) (q : Q (.bool (tabV m v)) η) : SC c (d + 4) true (.ref p_is_table) [v, .int m] η Q X := by
  have sl : sizeLine = 16777216 := by decide
  ((refine SC.def2 (by assumption) (by rfl) (by kernel_rfl) (by kernel_rfl) (by rfl) (by rfl) ?_; dsimp only [initσ]))
  by_cases ht : ∃ vs, v = .lst vs
  · obtain ⟨vs, rfl⟩ := ht
    have h' : vs.length ≤ 10000 ∧ ∀ x ∈ vs, okR x = true := by simpa [okTab] using h
    (repeat (first | walk_at "m.one" | with_reducible (first | refine SS.if ?_ | refine SS.while ?_ | refine ST.not ?_ | refine ST.boolop ?_ | (show ite _ _ _; first | refine iteT ?_ | refine iteF ?_ | refine iteNT ?_ | refine iteNF ?_))))
    refine SC.isi (b := true) (by rfl) ?_
    (repeat (first | walk_at "m.one" | with_reducible (first | refine SS.if ?_ | refine SS.while ?_ | refine ST.not ?_ | refine ST.boolop ?_ | (show ite _ _ _; first | refine iteT ?_ | refine iteF ?_ | refine iteNT ?_ | refine iteNF ?_))))
    rw [beq_len]
    refine iteS (fun h2 => ?_) fun h2 => ?_
    · (repeat (first | walk_at "m.one" | with_reducible (first | refine SS.if ?_ | refine SS.while ?_ | refine ST.not ?_ | refine ST.boolop ?_ | (show ite _ _ _; first | refine iteT ?_ | refine iteF ?_ | refine iteNT ?_ | refine iteNF ?_))))
      refine SE.comp ["row"] none (by (with_reducible (repeat (first | exact CapR.nil | apply CapR.own (by decide) | apply CapR.cap (by repeat (first | exact At.head | apply At.tail)) | apply CapR.capF (by repeat (first | exact At.head | apply At.tail)))))) ?_
      (repeat (first | walk_at "m.one" | with_reducible (first | refine SS.if ?_ | refine SS.while ?_ | refine ST.not ?_ | refine ST.boolop ?_ | (show ite _ _ _; first | refine iteT ?_ | refine iteF ?_ | refine iteNT ?_ | refine iteNF ?_))))
      refine ⟨_, SI.lst, by omega, CompL.mapV (g := fun v => .bool (rowV m v)) (fun x hx => ⟨_, by (with_reducible (repeat (first | exact Put.loc | exact Put.cell | apply Put.tail))), by simp [Less], ?_⟩) ?_⟩
      · (repeat (first | walk_at "m.one" | with_reducible (first | refine SS.if ?_ | refine SS.while ?_ | refine ST.not ?_ | refine ST.boolop ?_ | (show ite _ _ _; first | refine iteT ?_ | refine iteF ?_ | refine iteNT ?_ | refine iteNF ?_))))
        exact c_is_row W (h'.2 x hx) ⟨rfl, rfl⟩
      · (repeat (first | walk_at "m.one" | with_reducible (first | refine SS.if ?_ | refine SS.while ?_ | refine ST.not ?_ | refine ST.boolop ?_ | (show ite _ _ _; first | refine iteT ?_ | refine iteF ?_ | refine iteNT ?_ | refine iteNF ?_))))
        rw [List.nil_append, show (vs.map fun v => V.bool (rowV m v)) = (vs.map (rowV m)).map V.bool by simp]
        refine SC.all ?_
        have e : tabV m (.lst vs) = (vs.map (rowV m)).all id := by
          unfold tabV; dsimp only; rw [h2, List.all_map]; rfl
        rw [← e]; exact q
    · have e : tabV m (.lst vs) = false := by unfold tabV; dsimp only; rw [h2]; rfl
      rw [e] at q
      rw [h2]; exact q
  · have e : isiT "list" v = some false ∧ tabV m v = false := by
      cases v <;> first | exact ⟨rfl, rfl⟩ | (exact absurd ⟨_, rfl⟩ ht) | (simp [okTab, isiT] at h; done)
    (repeat (first | walk_at "m.one" | with_reducible (first | refine SS.if ?_ | refine SS.while ?_ | refine ST.not ?_ | refine ST.boolop ?_ | (show ite _ _ _; first | refine iteT ?_ | refine iteF ?_ | refine iteNT ?_ | refine iteNF ?_))))
    refine SC.isi e.1 ?_
    (repeat (first | walk_at "m.one" | with_reducible (first | refine SS.if ?_ | refine SS.while ?_ | refine ST.not ?_ | refine ST.boolop ?_ | (show ite _ _ _; first | refine iteT ?_ | refine iteF ?_ | refine iteNT ?_ | refine iteNF ?_))))
    rw [← e.2]; exact q

noncomputable def letters : Str := Str.ofString "abcdefghijklmnopqrstuvwxyz"
noncomputable def risesL (last : List Nat) : List Nat → Bool
  | [] => true
  | k :: r => decide (k ∈ letters.cps.toList) && decide (last < [k]) && risesL [k] r
noncomputable def signsV : V → Bool
  | .str x => decide (x.length ≤ 6) && risesL [] x.cps.toList
  | _ => false
theorem c_is_signs (W : Wl c) (h : (isiT "str" v).isSome = true) (hz : ∀ x, v = .str x → x.length ≤ 10000) (q : Q (.bool (signsV v)) η) : SC c (d + 1) true (.ref p_is_signs) [v] η Q X := by
  have sl : sizeLine = 16777216 := by decide
  ((refine SC.def2 (by assumption) (by rfl) (by kernel_rfl) (by kernel_rfl) (by rfl) (by rfl) ?_; dsimp only [initσ]))
  by_cases ht : ∃ x, v = .str x
  · obtain ⟨x, rfl⟩ := ht
    have hx := hz x rfl
    refine SS.ifX (!true || decide ((x.length : Int) > 6)) (TP.or (TP.not ?_) fun _ => ?_) (fun h2 => ?_) fun h2 => ?_
    · (repeat walk_at "m.one")
      refine SC.isi (b := true) (by rfl) ?_
      (repeat walk_at "m.one")
      exact ⟨rfl, rfl⟩
    · (repeat walk_at "m.one")
      refine SC.len_str (by omega) ?_
      (repeat walk_at "m.one")
      exact ⟨rfl, rfl⟩
    · (repeat walk_at "m.one")
      have h3 : (x.length : Int) > 6 := by simpa using h2
      have e : signsV (.str x) = false := by unfold signsV; dsimp only; rw [decide_eq_false (by omega)]; rfl
      rw [← e]; exact q
    have h3 : x.length ≤ 6 := by
      have : ¬ ((x.length : Int) > 6) := by simpa using h2
      omega
    have e : signsV (.str x) = risesL [] x.cps.toList := by unfold signsV; dsimp only; rw [decide_eq_true h3]; rfl
    rw [e] at q
    (repeat walk_at "m.one")
    refine SS.for ["sign"] ?_
    (repeat walk_at "m.one")
    refine ⟨_, SI.str, ForL.foldH (α := Str) (fun last => [none, some (.str last), none, none, none, none, none, none]) (fun _ => η) (fun last vs => ∃ cs : List Nat, vs = cs.map (fun k => V.str (sgn k)) ∧ Q (.bool (risesL last.cps.toList cs)) η) (Str.ofString "") ⟨_, rfl, q⟩ (fun last u vs' hp => ?_) (fun last σ' hp l => SS.forget l ?_) (by simp [Less])⟩
    · obtain ⟨cs, hcs, hq⟩ := hp
      cases cs with
      | nil => cases hcs
      | cons k cs =>
        rw [List.map_cons, List.cons.injEq] at hcs
        obtain ⟨rfl, rfl⟩ := hcs
        unfold risesL at hq
        refine SA.name (by (with_reducible (repeat (first | exact Put.loc | exact Put.cell | apply Put.tail)))) ?_
        refine SS.ifX (!decide (k ∈ letters.cps.toList) || !decide (last.cps.toList < (sgn k).cps.toList)) (TP.or ?_ fun _ => ?_) (fun h4 => ?_) fun h4 => ?_
        · (repeat walk_at "m.one")
          exact ⟨rfl, rfl⟩
        · (repeat walk_at "m.one")
          refine S2.leS ?_
          (repeat walk_at "m.one")
          exact ⟨rfl, rfl⟩
        · (repeat walk_at "m.one")
          have e2 : (decide (k ∈ letters.cps.toList) && decide (last.cps.toList < [k]) && risesL [k] cs) = false := by
            have h5 : (!decide (k ∈ letters.cps.toList) || !decide (last.cps.toList < [k])) = true := h4
            revert h5
            generalize decide (k ∈ letters.cps.toList) = b1
            generalize decide (last.cps.toList < [k]) = b2
            cases b1 <;> cases b2 <;> simp
          rw [e2] at hq; exact hq
        · (repeat walk_at "m.one")
          refine ⟨sgn k, ⟨cs, rfl, ?_⟩, by simp [Less], rfl⟩
          have e2 : (decide (k ∈ letters.cps.toList) && decide (last.cps.toList < [k]) && risesL [k] cs) = risesL [k] cs := by
            have h5 : (!decide (k ∈ letters.cps.toList) || !decide (last.cps.toList < [k])) = false := h4
            revert h5
            generalize decide (k ∈ letters.cps.toList) = b1
            generalize decide (last.cps.toList < [k]) = b2
            cases b1 <;> cases b2 <;> simp
          rw [e2] at hq; exact hq
    · obtain ⟨cs, hcs, hq⟩ := hp
      cases cs with
      | cons k cs => cases hcs
      | nil =>
        (repeat walk_at "m.one")
        exact hq
  · have e : isiT "str" v = some false ∧ signsV v = false := by
      cases v <;> first | exact ⟨rfl, rfl⟩ | (exact absurd ⟨_, rfl⟩ ht) | (simp [isiT] at h; done)
    (repeat (first | walk_at "m.one" | with_reducible (first | refine SS.if ?_ | refine SS.while ?_ | refine ST.not ?_ | refine ST.boolop ?_ | (show ite _ _ _; first | refine iteT ?_ | refine iteF ?_ | refine iteNT ?_ | refine iteNF ?_))))
    refine SC.isi e.1 ?_
    (repeat (first | walk_at "m.one" | with_reducible (first | refine SS.if ?_ | refine SS.while ?_ | refine ST.not ?_ | refine ST.boolop ?_ | (show ite _ _ _; first | refine iteT ?_ | refine iteF ?_ | refine iteNT ?_ | refine iteNF ?_))))
    rw [← e.2]; exact q

theorem shareV_tup {v : V} (h : shareV v = true) : ∃ i j, v = .tup [.int i, .int j] := by
  unfold shareV at h
  split at h
  · exact ⟨_, _, rfl⟩
  · cases h
theorem shareV_ok {v : V} (h : shareV v = true) : okT v = true := by
  obtain ⟨i, j, rfl⟩ := shareV_tup h; rfl
theorem rowV_lst {m : Nat} {v : V} (h : rowV m v = true) : ∃ vs, v = .lst vs ∧ vs.length = m ∧ ∀ u ∈ vs, shareV u = true := by
  unfold rowV at h
  split at h
  · simp only [Bool.and_eq_true, decide_eq_true_eq, List.all_eq_true] at h
    exact ⟨_, rfl, h.1, h.2⟩
  · cases h
theorem rowV_ok {m : Nat} {v : V} (hm : m ≤ 10000) (h : rowV m v = true) : okR v = true := by
  obtain ⟨vs, rfl, e, hs⟩ := rowV_lst h
  unfold okR
  dsimp only
  rw [decide_eq_true (by omega), Bool.true_and, List.all_eq_true]
  exact fun u hu => shareV_ok (hs u hu)
theorem tabV_lst {m : Nat} {v : V} (h : tabV m v = true) : ∃ vs, v = .lst vs ∧ vs.length = m ∧ ∀ u ∈ vs, rowV m u = true := by
  unfold tabV at h
  split at h
  · simp only [Bool.and_eq_true, decide_eq_true_eq, List.all_eq_true] at h
    exact ⟨_, rfl, h.1, h.2⟩
  · cases h
theorem tabV_ok {m : Nat} {v : V} (hm : m ≤ 10000) (h : tabV m v = true) : okTab v = true := by
  obtain ⟨vs, rfl, e, hs⟩ := tabV_lst h
  unfold okTab
  dsimp only
  rw [decide_eq_true (by omega), Bool.true_and, List.all_eq_true]
  exact fun u hu => rowV_ok hm (hs u hu)
theorem shareV_lin {v : V} (h : shareV v = true) : Lin η v := by
  obtain ⟨i, j, rfl⟩ := shareV_tup h
  exact ⟨trivial, trivial, trivial⟩
theorem rowV_lin {m : Nat} {v : V} (h : rowV m v = true) : Lin η v := by
  obtain ⟨vs, rfl, _, hs⟩ := rowV_lst h
  exact lins_of fun u hu => shareV_lin (hs u hu)
theorem tabV_lin {m : Nat} {v : V} (h : tabV m v = true) : Lin η v := by
  obtain ⟨vs, rfl, _, hs⟩ := tabV_lst h
  exact lins_of fun u hu => rowV_lin (hs u hu)
noncomputable abbrev machKs : List Str := [Str.ofString "signs", Str.ofString "begins", Str.ofString "moves", Str.ofString "ends"]
noncomputable abbrev machV (x : Str) (bs ms es : List V) : V := .obj p_Machine machKs [.str x, .lst bs, .lst ms, .lst es]
/-- what a machine is made from -/
structure MachOk (x : Str) (bs ms es : List V) : Prop where
  signs : signsV (.str x) = true
  begins : rowV bs.length (.lst bs) = true
  ends : rowV bs.length (.lst es) = true
  many : ms.length = x.length
  moves : ∀ t ∈ ms, tabV bs.length t = true
  size : bs.length ≤ 12
theorem MachOk.len {x : Str} {bs ms es : List V} (h : MachOk x bs ms es) : x.length ≤ 6 := by
  have := h.signs
  unfold signsV at this
  simp only [Bool.and_eq_true, decide_eq_true_eq] at this
  exact this.1

theorem c_Machine_init (W : Wl c) {a dd : Addr} {x : Str} {bs ms es : List V} (ea : η a = some (.inst p_Machine dd)) (ed : η dd = some (.idict [] [])) (ok : MachOk x bs ms es)
    (q : Q .none (η.set dd (.idict machKs [.str x, .lst bs, .lst ms, .lst es]))) : SCc c (d + 5) true (.ref m_Machine_init) [.loc a, .str x, .lst bs, .lst ms, .lst es] η Q X := by
  have sl : sizeLine = 16777216 := by decide
  have hx := ok.len
  have hn := ok.size
  have ne : a ≠ dd := fun e => by rw [e, ed] at ea; cases ea
  refine SCc.def2 W (by rfl) (by kernel_rfl) (by kernel_rfl) (by rfl) (by rfl) ?_
  dsimp only [initσ]
  refine SS.ifX (!signsV (.str x) || !true || !rowV bs.length (.lst bs)) (TP.or3 (TP.not ?_) (fun _ => TP.not ?_) fun _ _ => TP.not ?_) (fun h => by rw [ok.signs, ok.begins] at h; simp at h) fun _ => ?_
  · (repeat walk_at "m.one")
    refine c_is_signs W (by rfl) (fun y e => by cases e; omega) ?_
    (repeat walk_at "m.one")
    exact ⟨rfl, rfl⟩
  · (repeat walk_at "m.one")
    refine SC.isi (b := true) (by rfl) ?_
    (repeat walk_at "m.one")
    exact ⟨rfl, rfl⟩
  · (repeat walk_at "m.one")
    refine c_is_row W (rowV_ok (by omega) ok.begins) ?_
    (repeat walk_at "m.one")
    exact ⟨rfl, rfl⟩
  (repeat walk_at "m.one")
  refine SS.ifX (!rowV bs.length (.lst es) || !true || ((ms.length : Int) != (x.length : Int))) (TP.or3 (TP.not ?_) (fun _ => TP.not ?_) fun _ _ => ?_) (fun h => by rw [ok.ends, ok.many] at h; simp at h) fun _ => ?_
  · (repeat walk_at "m.one")
    refine c_is_row W (rowV_ok (by omega) ok.ends) ?_
    (repeat walk_at "m.one")
    exact ⟨rfl, rfl⟩
  · (repeat walk_at "m.one")
    refine SC.isi (b := true) (by rfl) ?_
    (repeat walk_at "m.one")
    exact ⟨rfl, rfl⟩
  · (repeat walk_at "m.one")
    refine SC.len_str (by omega) ?_
    (repeat walk_at "m.one")
    exact ⟨rfl, rfl⟩
  refine SS.ifX (!true) (TP.not ?_) (fun h => by simp at h) fun _ => ?_
  · (repeat walk_at "m.one")
    refine SE.comp ["table"] none (by (with_reducible (repeat (first | exact CapR.nil | apply CapR.own (by decide) | apply CapR.cap (by repeat (first | exact At.head | apply At.tail)) | apply CapR.capF (by repeat (first | exact At.head | apply At.tail)))))) ?_
    (repeat walk_at "m.one")
    refine ⟨_, SI.lst, by have := ok.many; omega, CompL.mapV (g := fun _ => .bool true) (fun t ht => ⟨_, by (with_reducible (repeat (first | exact Put.loc | exact Put.cell | apply Put.tail))), by simp [Less], ?_⟩) ?_⟩
    · (repeat walk_at "m.one")
      have := ok.moves t ht
      exact c_is_table W (tabV_ok (by omega) this) ⟨by rw [this], rfl⟩
    · (repeat walk_at "m.one")
      rw [List.nil_append, show (ms.map fun _ => V.bool true) = (ms.map fun _ => true).map V.bool by simp]
      refine SC.all ?_
      (repeat walk_at "m.one")
      exact ⟨by simp, rfl⟩
  refine SS.ifX (decide ((bs.length : Int) > 12)) ?_ (fun h => by simp at h; omega) fun _ => ?_
  · (repeat walk_at "m.one")
    exact ⟨rfl, rfl⟩
  refine SS.setattr W ?_
  (repeat walk_at "m.one")
  refine ⟨a, _, dd, _, _, rfl, ea, ed, by simp, by kernel_rfl, by simp, ?_⟩
  refine SS.setattr W ?_
  (repeat walk_at "m.one")
  refine SC.listOf ?_
  (repeat walk_at "m.one")
  refine ⟨a, _, dd, _, _, rfl, (Hp.set_ne _ _ ne).trans ea, Hp.set_self .., by decide +kernel, by kernel_rfl, by simp, ?_⟩
  rw [Hp.set_set]
  refine SS.setattr W ?_
  refine SE.comp ["table"] none (by (with_reducible (repeat (first | exact CapR.nil | apply CapR.own (by decide) | apply CapR.cap (by repeat (first | exact At.head | apply At.tail)) | apply CapR.capF (by repeat (first | exact At.head | apply At.tail)))))) ?_
  (repeat walk_at "m.one")
  refine ⟨_, SI.lst, by have := ok.many; omega, CompL.mapV (g := fun v => v) (fun t ht => ⟨_, by (with_reducible (repeat (first | exact Put.loc | exact Put.cell | apply Put.tail))), by simp [Less], ?_⟩) ?_⟩
  · obtain ⟨rs, rfl, hl, hr⟩ := tabV_lst (ok.moves t ht)
    refine SE.comp ["row"] none (by (with_reducible (repeat (first | exact CapR.nil | apply CapR.own (by decide) | apply CapR.cap (by repeat (first | exact At.head | apply At.tail)) | apply CapR.capF (by repeat (first | exact At.head | apply At.tail)))))) ?_
    (repeat walk_at "m.one")
    refine ⟨_, SI.lst, by omega, CompL.mapV (g := fun v => v) (fun r hrr => ⟨_, by (with_reducible (repeat (first | exact Put.loc | exact Put.cell | apply Put.tail))), by simp [Less], ?_⟩) ?_⟩
    · obtain ⟨vs, rfl, _, _⟩ := rowV_lst (hr r hrr)
      (repeat walk_at "m.one")
      exact SC.listOf ⟨rfl, rfl⟩
    · rw [List.nil_append, List.map_id']
      exact ⟨rfl, rfl⟩
  rw [List.nil_append, List.map_id']
  (repeat walk_at "m.one")
  refine ⟨a, _, dd, _, _, rfl, (Hp.set_ne _ _ ne).trans ea, Hp.set_self .., by decide +kernel, by kernel_rfl, by simp, ?_⟩
  rw [Hp.set_set]
  refine SS.setattr W ?_
  (repeat walk_at "m.one")
  refine SC.listOf ?_
  (repeat walk_at "m.one")
  refine ⟨a, _, dd, _, _, rfl, (Hp.set_ne _ _ ne).trans ea, Hp.set_self .., by decide +kernel, by kernel_rfl, by simp, ?_⟩
  rw [Hp.set_set]
  (repeat walk_at "m.one")
  exact q
theorem c_Machine (W : Wl c) {x : Str} {bs ms es : List V} (ok : MachOk x bs ms es) (q : Q (machV x bs ms es) η) : SC c (d + 6) true (.ref p_Machine) [.str x, .lst bs, .lst ms, .lst es] η Q X := by
  refine SC.frz (SC.make W (fI := m_Machine_init) (by kernel_rfl) (by kernel_rfl) (by kernel_rfl) fun a dd na nd ne => ?_)
  have e1 : ((η.set dd (.idict [] [])).set a (.inst p_Machine dd)) dd = some (.idict [] []) := (Hp.set_ne _ _ (Ne.symm ne)).trans (Hp.set_self ..)
  refine c_Machine_init W (dd := dd) (Hp.set_self ..) e1 ok ⟨rfl, ?_, machV x bs ms es, .obj ((Hp.set_ne _ _ ne).trans (Hp.set_self ..)) (Hp.set_self ..) na nd (Frzs.keep ?_), q⟩
  · intro b o e
    have b1 : b ≠ dd := by rintro rfl; rw [nd] at e; cases e
    have b2 : b ≠ a := by rintro rfl; rw [na] at e; cases e
    rw [Hp.set_ne _ _ b1, Hp.set_ne _ _ b2, Hp.set_ne _ _ b1]; exact e
  · exact ⟨trivial, rowV_lin ok.begins, lins_of fun t ht => tabV_lin (ok.moves t ht), rowV_lin ok.ends, trivial⟩
theorem mach_signs (W : Wl c) {x : Str} {bs ms es : List V} (q : Q (.str x) η) : S1 c d hd (fun y => getAttr y (Str.ofString "signs") true) (machV x bs ms es) η Q X :=
  S1.attr_obj W 0 (by kernel_rfl) (by rfl) (by decide +kernel) (by rfl) (fun g h => by cases h) q
theorem mach_begins (W : Wl c) {x : Str} {bs ms es : List V} (q : Q (.lst bs) η) : S1 c d hd (fun y => getAttr y (Str.ofString "begins") true) (machV x bs ms es) η Q X :=
  S1.attr_obj W 1 (by kernel_rfl) (by rfl) (by decide +kernel) (by rfl) (fun g h => by cases h) q
theorem mach_moves (W : Wl c) {x : Str} {bs ms es : List V} (q : Q (.lst ms) η) : S1 c d hd (fun y => getAttr y (Str.ofString "moves") true) (machV x bs ms es) η Q X :=
  S1.attr_obj W 2 (by kernel_rfl) (by rfl) (by decide +kernel) (by rfl) (fun g h => by cases h) q
theorem mach_ends (W : Wl c) {x : Str} {bs ms es : List V} (q : Q (.lst es) η) : S1 c d hd (fun y => getAttr y (Str.ofString "ends") true) (machV x bs ms es) η Q X :=
  S1.attr_obj W 3 (by kernel_rfl) (by rfl) (by decide +kernel) (by rfl) (fun g h => by cases h) q

theorem shareV_of {t D : Int} (h : 0 < D) : shareV (shareOf t D) = true := by
  obtain ⟨p, q, e, N⟩ := shareOf_parts (t := t) (b := D) (by omega)
  rw [e]
  unfold shareV
  dsimp only
  rw [decide_eq_true N.pos, N.cop]; rfl
theorem rowV_of {n : Nat} {r : Nat → Int} {D : Int} (h : 0 < D) : rowV n (.lst (rowS n r D)) = true := by
  unfold rowV
  dsimp only
  rw [decide_eq_true (by simp), Bool.true_and, List.all_eq_true]
  intro v hv
  obtain ⟨k, _, rfl⟩ := List.mem_map.mp hv
  exact shareV_of h
theorem tabV_of {n : Nat} {T : Nat → Nat → Int} {D : Int} (h : 0 < D) : tabV n (.lst (tabS n T D)) = true := by
  unfold tabV
  dsimp only
  rw [decide_eq_true (by simp), Bool.true_and, List.all_eq_true]
  intro v hv
  obtain ⟨k, _, rfl⟩ := List.mem_map.mp hv
  exact rowV_of h
theorem letter_in {k : Nat} (h : 97 ≤ k ∧ k < 123) : k ∈ letters.cps.toList := by
  have : ∀ j, j < 26 → 97 + j ∈ letters.cps.toList := by decide +kernel
  have := this (k - 97) (by omega)
  rwa [show 97 + (k - 97) = k by omega] at this
theorem rises_of : ∀ (l last : List Nat), (∀ k ∈ l, 97 ≤ k ∧ k < 123) → l.Pairwise (· < ·) → (∀ k ∈ l, last < [k]) → risesL last l = true
  | [], _, _, _, _ => rfl
  | k :: l, last, h1, h2, h3 => by
    unfold risesL
    rw [decide_eq_true (letter_in (h1 k (.head _))), decide_eq_true (h3 k (.head _)), Bool.true_and, Bool.true_and]
    rw [List.pairwise_cons] at h2
    refine rises_of l [k] (fun j hj => h1 j (.tail _ hj)) h2.2 fun j hj => ?_
    exact List.cons_lt_cons_iff.mpr (.inl (h2.1 j hj))
theorem signsV_of {m : Nat} {g : Nat → Nat} (h : Sg m g) (hm : m ≤ 6) : signsV (.str (signS m g)) = true := by
  unfold signsV
  dsimp only
  rw [wordS_len, List.length_range, decide_eq_true hm, Bool.true_and, wordS_list]
  refine rises_of _ _ (fun k hk => ?_) ?_ fun k hk => List.nil_lt_cons ..
  · obtain ⟨i, hi, rfl⟩ := List.mem_map.mp hk
    exact h.lo i (List.mem_range.mp hi)
  · rw [List.pairwise_map]
    exact (List.pairwise_lt_range (n := m)).imp_of_mem fun {a b} ha hb hab => h.up a b hab (List.mem_range.mp hb)
theorem machOk_of {m n : Nat} {g : Nat → Nat} {b e : Nat → Int} {T : Nat → Nat → Nat → Int} {D E F : Int} (sg : Sg m g) (hm : m ≤ 6) (hn : n ≤ 12) (hD : 0 < D) (hE : 0 < E) (hF : 0 < F) : MachOk (signS m g) (rowS n b D) (tabsS m n T E) (rowS n e F) := by
  have l : (rowS n b D).length = n := by simp
  refine ⟨signsV_of sg hm, by rw [l]; exact rowV_of hD, by rw [l]; exact rowV_of hF, by rw [wordS_len]; simp, fun t ht => ?_, by rw [l]; exact hn⟩
  obtain ⟨s, _, rfl⟩ := List.mem_map.mp ht
  rw [l]; exact tabV_of hE

theorem c_need_word (W : Wl c) {m : Nat} {g : Nat → Nat} {w : List Nat} {bs ms es : List V} (hw : ∀ s ∈ w, s < m) (hl : w.length ≤ 20) (q : Q .none η) : SC c (d + 1) true (.ref p_need_word) [machV (signS m g) bs ms es, .str (wordS g w)] η Q X := by
  have sl : sizeLine = 16777216 := by decide
  ((refine SC.def2 (by assumption) (by rfl) (by kernel_rfl) (by kernel_rfl) (by rfl) (by rfl) ?_; dsimp only [initσ]))
  refine SS.ifX (!true || !true) (TP.or (TP.not ?_) fun _ => TP.not ?_) (fun h => by simp at h) fun _ => ?_
  · (repeat walk_at "m.one")
    refine SC.isi (b := true) (by rfl) ?_
    (repeat walk_at "m.one")
    exact ⟨rfl, rfl⟩
  · (repeat walk_at "m.one")
    refine SE.comp ["sign"] none (by (with_reducible (repeat (first | exact CapR.nil | apply CapR.own (by decide) | apply CapR.cap (by repeat (first | exact At.head | apply At.tail)) | apply CapR.capF (by repeat (first | exact At.head | apply At.tail)))))) ?_
    (repeat walk_at "m.one")
    refine ⟨_, SI.str, by rw [List.length_map, wordS_list, List.length_map]; omega, ?_⟩
    rw [wordS_list, List.map_map]
    refine CompL.mapL (u := fun s => V.str (sgn (g s))) (g := fun _ => .bool true) (fun s hs => ⟨_, by (with_reducible (repeat (first | exact Put.loc | exact Put.cell | apply Put.tail))), by simp [Less], ?_⟩) ?_
    · (repeat walk_at "m.one")
      refine SE.attr (A.var ?_)
      refine mach_signs W ?_
      refine S2.inS ⟨?_, rfl⟩
      rw [decide_eq_true]
      rw [wordS_list]
      exact List.mem_map.mpr ⟨s, List.mem_range.mpr (hw s hs), rfl⟩
    · (repeat walk_at "m.one")
      rw [List.nil_append, show (w.map fun _ => V.bool true) = (w.map fun _ => true).map V.bool by simp]
      refine SC.all ?_
      (repeat walk_at "m.one")
      exact ⟨by simp, rfl⟩
  (repeat walk_at "m.one")
  exact q
theorem lb_wordG {n m e : Nat} {T : Nat → Nat → Nat → Int} (hn : n ≤ 16) (lT : ∀ s i j, s < m → i < n → j < n → Lb e (T s i j)) : ∀ (w : List Nat) (a : Nat) (r : Nat → Int), (∀ s ∈ w, s < m) → (∀ k, k < n → Lb a (r k)) → ∀ k, k < n → Lb (a + (e + 4) * w.length) (wordF n T r w k)
  | [], a, r, _, hr, k, hk => by simpa [wordF] using hr k hk
  | s :: w, a, r, hs, hr, k, hk => by
    have := lb_wordG hn lT w (a + e + 4) (ledF n r (T s)) (fun t ht => hs t (.tail _ ht)) (lb_led hn hr (lT s · · (hs s (.head _)))) k hk
    exact this.mono (by rw [List.length_cons, Nat.mul_succ]; omega)
theorem row_lin {n : Nat} {r : Nat → Int} {D : Int} : Lins η (rowS n r D) := lins_of fun v hv => by
  obtain ⟨k, _, rfl⟩ := List.mem_map.mp hv
  exact ⟨trivial, trivial, trivial⟩
/-- sizes of a machine's numbers -/
structure Bds (n m : Nat) (b : Nat → Int) (T : Nat → Nat → Nat → Int) (e : Nat → Int) (D E F : Int) (β τ x : Nat) : Prop where
  hn : n ≤ 16
  hm : m ≤ 6
  hD : 0 < D
  hE : 0 < E
  hF : 0 < F
  lb : ∀ k, k < n → Lb β (b k)
  lT : ∀ s i j, s < m → i < n → j < n → Lb τ (T s i j)
  le : ∀ k, k < n → Lb β (e k)
  lD : Lb x D
  lE : Lb x E
  lF : Lb x F
  fit : β + (τ + 4) * 20 + β + 8 + τ < 4000
  fitD : x * 23 < 4000
theorem c_row_of (W : Wl c) {n m β τ x : Nat} {g : Nat → Nat} {w : List Nat} {b e : Nat → Int} {T : Nat → Nat → Nat → Int} {D E F : Int} (sg : Sg m g) (B : Bds n m b T e D E F β τ x) (hw : ∀ s ∈ w, s < m) (hl : w.length ≤ 20)
    (q : Q (.lst (rowS n (wordF n T b w) (D * E ^ w.length))) η) :
    SC c (d + 7) true (.ref p_row_of) [machV (signS m g) (rowS n b D) (tabsS m n T E) (rowS n e F), .str (wordS g w)] η Q X := by
  ((refine SC.def2 (by assumption) (by rfl) (by kernel_rfl) (by kernel_rfl) (by rfl) (by rfl) ?_; dsimp only [initσ]))
  refine SS.expr ?_
  (repeat walk_at "m.one")
  refine c_need_word W hw hl ?_
  (repeat walk_at "m.one")
  refine SE.attr (A.var ?_)
  refine mach_begins W ?_
  (repeat walk_at "m.one")
  refine SC.listOf ?_
  (repeat walk_at "m.one")
  refine SS.for ["sign"] ?_
  (repeat walk_at "m.one")
  refine ⟨_, SI.str, ForL.foldH (α := List Nat) (fun u => [some (machV (signS m g) (rowS n b D) (tabsS m n T E) (rowS n e F)), none, some (.lst (rowS n (wordF n T b u) (D * E ^ u.length))), none, none, none, none]) (fun _ => η)
    (fun u vs => ∃ v, w = u ++ v ∧ (vs = v.map fun s => V.str (sgn (g s)))) [] ⟨w, rfl, by rw [wordS_list, List.map_map]; rfl⟩ (fun u v vs hp => ?_) (fun u σ' hp l => SS.forget l ?_) (by simp [Less, wordF])⟩
  · obtain ⟨v', rfl, hv⟩ := hp
    cases v' with
    | nil => cases hv
    | cons s v' =>
      rw [List.map_cons, List.cons.injEq] at hv
      obtain ⟨rfl, rfl⟩ := hv
      have hs : s < m := hw s (List.mem_append_right _ (.head _))
      have hlu : u.length < 20 := by rw [List.length_append, List.length_cons] at hl; omega
      have lw := lb_wordG (m := m) B.hn B.lT u β b (fun t ht => hw t (List.mem_append_left _ ht)) B.lb
      have f1 := B.fit
      have f2 := B.fitD
      have m1 : (τ + 4) * u.length ≤ (τ + 4) * 20 := Nat.mul_le_mul_left _ (by omega)
      have m2 : u.length * x ≤ 20 * x := Nat.mul_le_mul_right _ (by omega)
      refine SA.name (by (with_reducible (repeat (first | exact Put.loc | exact Put.cell | apply Put.tail)))) ?_
      (repeat walk_at "m.one")
      refine SE.attr (A.var ?_)
      refine mach_moves W ?_
      with_reducible refine SE.meth (SE.attr (A.var ?_))
      refine mach_signs W ⟨_, Meth.index, Callee.bi, ?_⟩
      (repeat walk_at "m.one")
      refine SC.index (sg.index hs) ?_
      refine S2.item_lst (range_get _ hs) ?_
      (repeat walk_at "m.one")
      refine c_led W (Int.mul_pos B.hD (Int.pow_pos B.hE)) B.hE B.hn lw (B.lT s · · hs) (B.lD.mul (B.lE.pow u.length)) B.lE (by omega) (by omega) ?_
      (repeat walk_at "m.one")
      refine ⟨u ++ [s], ⟨v', by simp, rfl⟩, ?_, rfl⟩
      have e2 : wordF n T b (u ++ [s]) = ledF n (wordF n T b u) (T s) := by unfold wordF; rw [List.foldl_append]; rfl
      rw [e2, List.length_append, List.length_singleton, Int.pow_succ, ← Int.mul_assoc]
      simp [Less, ledF]
  · obtain ⟨v', rfl, hv⟩ := hp
    cases v' with
    | cons s v' => cases hv
    | nil =>
      rw [List.append_nil] at q
      (repeat walk_at "m.one")
      exact q
theorem c_weight (W : Wl c) {n m β τ x : Nat} {g : Nat → Nat} {w : List Nat} {b e : Nat → Int} {T : Nat → Nat → Nat → Int} {D E F : Int} (sg : Sg m g) (B : Bds n m b T e D E F β τ x) (hw : ∀ s ∈ w, s < m) (hl : w.length ≤ 20)
    (q : Q (shareOf (dotN n (wordF n T b w) e) (D * E ^ w.length * F)) η) :
    SC c (d + 8) true (.ref p_weight) [machV (signS m g) (rowS n b D) (tabsS m n T E) (rowS n e F), .str (wordS g w)] η Q X := by
  have f1 := B.fit
  have f2 := B.fitD
  have m1 : (τ + 4) * w.length ≤ (τ + 4) * 20 := Nat.mul_le_mul_left _ (by omega)
  have m2 : w.length * x ≤ 20 * x := Nat.mul_le_mul_right _ (by omega)
  ((refine SC.def2 (by assumption) (by rfl) (by kernel_rfl) (by kernel_rfl) (by rfl) (by rfl) ?_; dsimp only [initσ]))
  (repeat walk_at "m.one")
  refine c_row_of W sg B hw hl ?_
  (repeat walk_at "m.one")
  refine SE.attr (A.var ?_)
  refine mach_ends W ?_
  (repeat walk_at "m.one")
  exact c_crossed W (Int.mul_pos B.hD (Int.pow_pos B.hE)) B.hF B.hn (lb_wordG (m := m) B.hn B.lT w β b hw B.lb) B.le (B.lD.mul (B.lE.pow w.length)) B.lF (by omega) (by omega) q

theorem c_rooms (W : Wl c) {x : Str} {bs ms es : List V} (q : Q (.int bs.length) η) : SC c (d + 1) true (.ref p_rooms) [machV x bs ms es] η Q X := by
  ((refine SC.def2 (by assumption) (by rfl) (by kernel_rfl) (by kernel_rfl) (by rfl) (by rfl) ?_; dsimp only [initσ]))
  (repeat walk_at "m.one")
  refine SE.attr (A.var ?_)
  refine mach_begins W ?_
  (repeat walk_at "m.one")
  exact q

theorem c_l_word_of_NoMachine (W : Wl c) (q : Q (.tup [.str "refused", .str "machine"]) η) : SC c (d + 1) hd (.ref l_word_of) [.exc p_NoMachine] η Q X := by
  ((refine SC.def2 (by assumption) (by rfl) (by kernel_rfl) (by kernel_rfl) (by rfl) (by rfl) ?_; dsimp only [initσ]))
  (repeat (first | walk_at "m.one" | with_reducible (first | refine SS.if ?_ | refine SS.while ?_ | refine ST.not ?_ | refine ST.boolop ?_ | (show ite _ _ _; first | refine iteT ?_ | refine iteF ?_ | refine iteNT ?_ | refine iteNF ?_))))
  refine SC.isi_exc W (b := false) (by kernel_rfl) (by kernel_rfl) ?_; (repeat (first | walk_at "m.one" | with_reducible (first | refine SS.if ?_ | refine SS.while ?_ | refine ST.not ?_ | refine ST.boolop ?_ | (show ite _ _ _; first | refine iteT ?_ | refine iteF ?_ | refine iteNT ?_ | refine iteNF ?_)))); refine S2.mulB len_ok ?_; (repeat (first | walk_at "m.one" | with_reducible (first | refine SS.if ?_ | refine SS.while ?_ | refine ST.not ?_ | refine ST.boolop ?_ | (show ite _ _ _; first | refine iteT ?_ | refine iteF ?_ | refine iteNT ?_ | refine iteNF ?_))))
  refine SC.isi_exc W (b := false) (by kernel_rfl) (by kernel_rfl) ?_; (repeat (first | walk_at "m.one" | with_reducible (first | refine SS.if ?_ | refine SS.while ?_ | refine ST.not ?_ | refine ST.boolop ?_ | (show ite _ _ _; first | refine iteT ?_ | refine iteF ?_ | refine iteNT ?_ | refine iteNF ?_)))); refine S2.mulB len_ok ?_; (repeat (first | walk_at "m.one" | with_reducible (first | refine SS.if ?_ | refine SS.while ?_ | refine ST.not ?_ | refine ST.boolop ?_ | (show ite _ _ _; first | refine iteT ?_ | refine iteF ?_ | refine iteNT ?_ | refine iteNF ?_))))
  refine S2.addL len_ok ?_; (repeat (first | walk_at "m.one" | with_reducible (first | refine SS.if ?_ | refine SS.while ?_ | refine ST.not ?_ | refine ST.boolop ?_ | (show ite _ _ _; first | refine iteT ?_ | refine iteF ?_ | refine iteNT ?_ | refine iteNF ?_))))
  refine SC.isi_exc W (b := false) (by kernel_rfl) (by kernel_rfl) ?_; (repeat (first | walk_at "m.one" | with_reducible (first | refine SS.if ?_ | refine SS.while ?_ | refine ST.not ?_ | refine ST.boolop ?_ | (show ite _ _ _; first | refine iteT ?_ | refine iteF ?_ | refine iteNT ?_ | refine iteNF ?_)))); refine S2.mulB len_ok ?_; (repeat (first | walk_at "m.one" | with_reducible (first | refine SS.if ?_ | refine SS.while ?_ | refine ST.not ?_ | refine ST.boolop ?_ | (show ite _ _ _; first | refine iteT ?_ | refine iteF ?_ | refine iteNT ?_ | refine iteNF ?_))))
  refine S2.addL len_ok ?_; (repeat (first | walk_at "m.one" | with_reducible (first | refine SS.if ?_ | refine SS.while ?_ | refine ST.not ?_ | refine ST.boolop ?_ | (show ite _ _ _; first | refine iteT ?_ | refine iteF ?_ | refine iteNT ?_ | refine iteNF ?_))))
  refine SC.isi_exc W (b := true) (by kernel_rfl) (by kernel_rfl) ?_; (repeat (first | walk_at "m.one" | with_reducible (first | refine SS.if ?_ | refine SS.while ?_ | refine ST.not ?_ | refine ST.boolop ?_ | (show ite _ _ _; first | refine iteT ?_ | refine iteF ?_ | refine iteNT ?_ | refine iteNF ?_)))); refine S2.mulB len_ok ?_; (repeat (first | walk_at "m.one" | with_reducible (first | refine SS.if ?_ | refine SS.while ?_ | refine ST.not ?_ | refine ST.boolop ?_ | (show ite _ _ _; first | refine iteT ?_ | refine iteF ?_ | refine iteNT ?_ | refine iteNF ?_))))
  refine S2.addL len_ok ?_; (repeat (first | walk_at "m.one" | with_reducible (first | refine SS.if ?_ | refine SS.while ?_ | refine ST.not ?_ | refine ST.boolop ?_ | (show ite _ _ _; first | refine iteT ?_ | refine iteF ?_ | refine iteNT ?_ | refine iteNF ?_))))
  refine SC.isi_exc W (b := false) (by kernel_rfl) (by kernel_rfl) ?_; (repeat (first | walk_at "m.one" | with_reducible (first | refine SS.if ?_ | refine SS.while ?_ | refine ST.not ?_ | refine ST.boolop ?_ | (show ite _ _ _; first | refine iteT ?_ | refine iteF ?_ | refine iteNT ?_ | refine iteNF ?_)))); refine S2.mulB len_ok ?_; (repeat (first | walk_at "m.one" | with_reducible (first | refine SS.if ?_ | refine SS.while ?_ | refine ST.not ?_ | refine ST.boolop ?_ | (show ite _ _ _; first | refine iteT ?_ | refine iteF ?_ | refine iteNT ?_ | refine iteNF ?_))))
  refine S2.addL len_ok ?_; (repeat (first | walk_at "m.one" | with_reducible (first | refine SS.if ?_ | refine SS.while ?_ | refine ST.not ?_ | refine ST.boolop ?_ | (show ite _ _ _; first | refine iteT ?_ | refine iteF ?_ | refine iteNT ?_ | refine iteNF ?_))))
  refine SC.isi_exc W (b := false) (by kernel_rfl) (by kernel_rfl) ?_; (repeat (first | walk_at "m.one" | with_reducible (first | refine SS.if ?_ | refine SS.while ?_ | refine ST.not ?_ | refine ST.boolop ?_ | (show ite _ _ _; first | refine iteT ?_ | refine iteF ?_ | refine iteNT ?_ | refine iteNF ?_)))); refine S2.mulB len_ok ?_; (repeat (first | walk_at "m.one" | with_reducible (first | refine SS.if ?_ | refine SS.while ?_ | refine ST.not ?_ | refine ST.boolop ?_ | (show ite _ _ _; first | refine iteT ?_ | refine iteF ?_ | refine iteNT ?_ | refine iteNF ?_))))
  refine S2.addL len_ok ?_; (repeat (first | walk_at "m.one" | with_reducible (first | refine SS.if ?_ | refine SS.while ?_ | refine ST.not ?_ | refine ST.boolop ?_ | (show ite _ _ _; first | refine iteT ?_ | refine iteF ?_ | refine iteNT ?_ | refine iteNF ?_))))
  refine SC.isi_exc W (b := false) (by kernel_rfl) (by kernel_rfl) ?_; (repeat (first | walk_at "m.one" | with_reducible (first | refine SS.if ?_ | refine SS.while ?_ | refine ST.not ?_ | refine ST.boolop ?_ | (show ite _ _ _; first | refine iteT ?_ | refine iteF ?_ | refine iteNT ?_ | refine iteNF ?_)))); refine S2.mulB len_ok ?_; (repeat (first | walk_at "m.one" | with_reducible (first | refine SS.if ?_ | refine SS.while ?_ | refine ST.not ?_ | refine ST.boolop ?_ | (show ite _ _ _; first | refine iteT ?_ | refine iteF ?_ | refine iteNT ?_ | refine iteNF ?_))))
  refine S2.addL len_ok ?_; (repeat (first | walk_at "m.one" | with_reducible (first | refine SS.if ?_ | refine SS.while ?_ | refine ST.not ?_ | refine ST.boolop ?_ | (show ite _ _ _; first | refine iteT ?_ | refine iteF ?_ | refine iteNT ?_ | refine iteNF ?_))))
  refine SC.isi_exc W (b := true) (by kernel_rfl) (by kernel_rfl) ?_; (repeat (first | walk_at "m.one" | with_reducible (first | refine SS.if ?_ | refine SS.while ?_ | refine ST.not ?_ | refine ST.boolop ?_ | (show ite _ _ _; first | refine iteT ?_ | refine iteF ?_ | refine iteNT ?_ | refine iteNF ?_)))); refine S2.mulB len_ok ?_; (repeat (first | walk_at "m.one" | with_reducible (first | refine SS.if ?_ | refine SS.while ?_ | refine ST.not ?_ | refine ST.boolop ?_ | (show ite _ _ _; first | refine iteT ?_ | refine iteF ?_ | refine iteNT ?_ | refine iteNF ?_))))
  refine S2.addL len_ok ?_; (repeat (first | walk_at "m.one" | with_reducible (first | refine SS.if ?_ | refine SS.while ?_ | refine ST.not ?_ | refine ST.boolop ?_ | (show ite _ _ _; first | refine iteT ?_ | refine iteF ?_ | refine iteNT ?_ | refine iteNF ?_))))
  with_reducible refine SE.meth (SE.str ⟨_, Meth.join, Callee.bi, ?_⟩)
  (repeat (first | walk_at "m.one" | with_reducible (first | refine SS.if ?_ | refine SS.while ?_ | refine ST.not ?_ | refine ST.boolop ?_ | (show ite _ _ _; first | refine iteT ?_ | refine iteF ?_ | refine iteNT ?_ | refine iteNF ?_))))
  refine SC.join_of (ys := ["machine"]) (by rfl) (by decide +kernel) ?_
  (repeat (first | walk_at "m.one" | with_reducible (first | refine SS.if ?_ | refine SS.while ?_ | refine ST.not ?_ | refine ST.boolop ?_ | (show ite _ _ _; first | refine iteT ?_ | refine iteF ?_ | refine iteNT ?_ | refine iteNF ?_))))
  exact q

theorem c_l_word_of_TooMany (W : Wl c) (q : Q (.tup [.str "refused", .str "many"]) η) : SC c (d + 1) hd (.ref l_word_of) [.exc p_TooMany] η Q X := by
  ((refine SC.def2 (by assumption) (by rfl) (by kernel_rfl) (by kernel_rfl) (by rfl) (by rfl) ?_; dsimp only [initσ]))
  (repeat (first | walk_at "m.one" | with_reducible (first | refine SS.if ?_ | refine SS.while ?_ | refine ST.not ?_ | refine ST.boolop ?_ | (show ite _ _ _; first | refine iteT ?_ | refine iteF ?_ | refine iteNT ?_ | refine iteNF ?_))))
  refine SC.isi_exc W (b := false) (by kernel_rfl) (by kernel_rfl) ?_; (repeat (first | walk_at "m.one" | with_reducible (first | refine SS.if ?_ | refine SS.while ?_ | refine ST.not ?_ | refine ST.boolop ?_ | (show ite _ _ _; first | refine iteT ?_ | refine iteF ?_ | refine iteNT ?_ | refine iteNF ?_)))); refine S2.mulB len_ok ?_; (repeat (first | walk_at "m.one" | with_reducible (first | refine SS.if ?_ | refine SS.while ?_ | refine ST.not ?_ | refine ST.boolop ?_ | (show ite _ _ _; first | refine iteT ?_ | refine iteF ?_ | refine iteNT ?_ | refine iteNF ?_))))
  refine SC.isi_exc W (b := false) (by kernel_rfl) (by kernel_rfl) ?_; (repeat (first | walk_at "m.one" | with_reducible (first | refine SS.if ?_ | refine SS.while ?_ | refine ST.not ?_ | refine ST.boolop ?_ | (show ite _ _ _; first | refine iteT ?_ | refine iteF ?_ | refine iteNT ?_ | refine iteNF ?_)))); refine S2.mulB len_ok ?_; (repeat (first | walk_at "m.one" | with_reducible (first | refine SS.if ?_ | refine SS.while ?_ | refine ST.not ?_ | refine ST.boolop ?_ | (show ite _ _ _; first | refine iteT ?_ | refine iteF ?_ | refine iteNT ?_ | refine iteNF ?_))))
  refine S2.addL len_ok ?_; (repeat (first | walk_at "m.one" | with_reducible (first | refine SS.if ?_ | refine SS.while ?_ | refine ST.not ?_ | refine ST.boolop ?_ | (show ite _ _ _; first | refine iteT ?_ | refine iteF ?_ | refine iteNT ?_ | refine iteNF ?_))))
  refine SC.isi_exc W (b := false) (by kernel_rfl) (by kernel_rfl) ?_; (repeat (first | walk_at "m.one" | with_reducible (first | refine SS.if ?_ | refine SS.while ?_ | refine ST.not ?_ | refine ST.boolop ?_ | (show ite _ _ _; first | refine iteT ?_ | refine iteF ?_ | refine iteNT ?_ | refine iteNF ?_)))); refine S2.mulB len_ok ?_; (repeat (first | walk_at "m.one" | with_reducible (first | refine SS.if ?_ | refine SS.while ?_ | refine ST.not ?_ | refine ST.boolop ?_ | (show ite _ _ _; first | refine iteT ?_ | refine iteF ?_ | refine iteNT ?_ | refine iteNF ?_))))
  refine S2.addL len_ok ?_; (repeat (first | walk_at "m.one" | with_reducible (first | refine SS.if ?_ | refine SS.while ?_ | refine ST.not ?_ | refine ST.boolop ?_ | (show ite _ _ _; first | refine iteT ?_ | refine iteF ?_ | refine iteNT ?_ | refine iteNF ?_))))
  refine SC.isi_exc W (b := false) (by kernel_rfl) (by kernel_rfl) ?_; (repeat (first | walk_at "m.one" | with_reducible (first | refine SS.if ?_ | refine SS.while ?_ | refine ST.not ?_ | refine ST.boolop ?_ | (show ite _ _ _; first | refine iteT ?_ | refine iteF ?_ | refine iteNT ?_ | refine iteNF ?_)))); refine S2.mulB len_ok ?_; (repeat (first | walk_at "m.one" | with_reducible (first | refine SS.if ?_ | refine SS.while ?_ | refine ST.not ?_ | refine ST.boolop ?_ | (show ite _ _ _; first | refine iteT ?_ | refine iteF ?_ | refine iteNT ?_ | refine iteNF ?_))))
  refine S2.addL len_ok ?_; (repeat (first | walk_at "m.one" | with_reducible (first | refine SS.if ?_ | refine SS.while ?_ | refine ST.not ?_ | refine ST.boolop ?_ | (show ite _ _ _; first | refine iteT ?_ | refine iteF ?_ | refine iteNT ?_ | refine iteNF ?_))))
  refine SC.isi_exc W (b := false) (by kernel_rfl) (by kernel_rfl) ?_; (repeat (first | walk_at "m.one" | with_reducible (first | refine SS.if ?_ | refine SS.while ?_ | refine ST.not ?_ | refine ST.boolop ?_ | (show ite _ _ _; first | refine iteT ?_ | refine iteF ?_ | refine iteNT ?_ | refine iteNF ?_)))); refine S2.mulB len_ok ?_; (repeat (first | walk_at "m.one" | with_reducible (first | refine SS.if ?_ | refine SS.while ?_ | refine ST.not ?_ | refine ST.boolop ?_ | (show ite _ _ _; first | refine iteT ?_ | refine iteF ?_ | refine iteNT ?_ | refine iteNF ?_))))
  refine S2.addL len_ok ?_; (repeat (first | walk_at "m.one" | with_reducible (first | refine SS.if ?_ | refine SS.while ?_ | refine ST.not ?_ | refine ST.boolop ?_ | (show ite _ _ _; first | refine iteT ?_ | refine iteF ?_ | refine iteNT ?_ | refine iteNF ?_))))
  refine SC.isi_exc W (b := false) (by kernel_rfl) (by kernel_rfl) ?_; (repeat (first | walk_at "m.one" | with_reducible (first | refine SS.if ?_ | refine SS.while ?_ | refine ST.not ?_ | refine ST.boolop ?_ | (show ite _ _ _; first | refine iteT ?_ | refine iteF ?_ | refine iteNT ?_ | refine iteNF ?_)))); refine S2.mulB len_ok ?_; (repeat (first | walk_at "m.one" | with_reducible (first | refine SS.if ?_ | refine SS.while ?_ | refine ST.not ?_ | refine ST.boolop ?_ | (show ite _ _ _; first | refine iteT ?_ | refine iteF ?_ | refine iteNT ?_ | refine iteNF ?_))))
  refine S2.addL len_ok ?_; (repeat (first | walk_at "m.one" | with_reducible (first | refine SS.if ?_ | refine SS.while ?_ | refine ST.not ?_ | refine ST.boolop ?_ | (show ite _ _ _; first | refine iteT ?_ | refine iteF ?_ | refine iteNT ?_ | refine iteNF ?_))))
  refine SC.isi_exc W (b := true) (by kernel_rfl) (by kernel_rfl) ?_; (repeat (first | walk_at "m.one" | with_reducible (first | refine SS.if ?_ | refine SS.while ?_ | refine ST.not ?_ | refine ST.boolop ?_ | (show ite _ _ _; first | refine iteT ?_ | refine iteF ?_ | refine iteNT ?_ | refine iteNF ?_)))); refine S2.mulB len_ok ?_; (repeat (first | walk_at "m.one" | with_reducible (first | refine SS.if ?_ | refine SS.while ?_ | refine ST.not ?_ | refine ST.boolop ?_ | (show ite _ _ _; first | refine iteT ?_ | refine iteF ?_ | refine iteNT ?_ | refine iteNF ?_))))
  refine S2.addL len_ok ?_; (repeat (first | walk_at "m.one" | with_reducible (first | refine SS.if ?_ | refine SS.while ?_ | refine ST.not ?_ | refine ST.boolop ?_ | (show ite _ _ _; first | refine iteT ?_ | refine iteF ?_ | refine iteNT ?_ | refine iteNF ?_))))
  refine SC.isi_exc W (b := true) (by kernel_rfl) (by kernel_rfl) ?_; (repeat (first | walk_at "m.one" | with_reducible (first | refine SS.if ?_ | refine SS.while ?_ | refine ST.not ?_ | refine ST.boolop ?_ | (show ite _ _ _; first | refine iteT ?_ | refine iteF ?_ | refine iteNT ?_ | refine iteNF ?_)))); refine S2.mulB len_ok ?_; (repeat (first | walk_at "m.one" | with_reducible (first | refine SS.if ?_ | refine SS.while ?_ | refine ST.not ?_ | refine ST.boolop ?_ | (show ite _ _ _; first | refine iteT ?_ | refine iteF ?_ | refine iteNT ?_ | refine iteNF ?_))))
  refine S2.addL len_ok ?_; (repeat (first | walk_at "m.one" | with_reducible (first | refine SS.if ?_ | refine SS.while ?_ | refine ST.not ?_ | refine ST.boolop ?_ | (show ite _ _ _; first | refine iteT ?_ | refine iteF ?_ | refine iteNT ?_ | refine iteNF ?_))))
  with_reducible refine SE.meth (SE.str ⟨_, Meth.join, Callee.bi, ?_⟩)
  (repeat (first | walk_at "m.one" | with_reducible (first | refine SS.if ?_ | refine SS.while ?_ | refine ST.not ?_ | refine ST.boolop ?_ | (show ite _ _ _; first | refine iteT ?_ | refine iteF ?_ | refine iteNT ?_ | refine iteNF ?_))))
  refine SC.join_of (ys := ["many"]) (by rfl) (by decide +kernel) ?_
  (repeat (first | walk_at "m.one" | with_reducible (first | refine SS.if ?_ | refine SS.while ?_ | refine ST.not ?_ | refine ST.boolop ?_ | (show ite _ _ _; first | refine iteT ?_ | refine iteF ?_ | refine iteNT ?_ | refine iteNF ?_))))
  exact q

theorem c_l_word_of_NoWord (W : Wl c) (q : Q (.tup [.str "refused", .str "word"]) η) : SC c (d + 1) hd (.ref l_word_of) [.exc p_NoWord] η Q X := by
  ((refine SC.def2 (by assumption) (by rfl) (by kernel_rfl) (by kernel_rfl) (by rfl) (by rfl) ?_; dsimp only [initσ]))
  (repeat (first | walk_at "m.one" | with_reducible (first | refine SS.if ?_ | refine SS.while ?_ | refine ST.not ?_ | refine ST.boolop ?_ | (show ite _ _ _; first | refine iteT ?_ | refine iteF ?_ | refine iteNT ?_ | refine iteNF ?_))))
  refine SC.isi_exc W (b := false) (by kernel_rfl) (by kernel_rfl) ?_; (repeat (first | walk_at "m.one" | with_reducible (first | refine SS.if ?_ | refine SS.while ?_ | refine ST.not ?_ | refine ST.boolop ?_ | (show ite _ _ _; first | refine iteT ?_ | refine iteF ?_ | refine iteNT ?_ | refine iteNF ?_)))); refine S2.mulB len_ok ?_; (repeat (first | walk_at "m.one" | with_reducible (first | refine SS.if ?_ | refine SS.while ?_ | refine ST.not ?_ | refine ST.boolop ?_ | (show ite _ _ _; first | refine iteT ?_ | refine iteF ?_ | refine iteNT ?_ | refine iteNF ?_))))
  refine SC.isi_exc W (b := false) (by kernel_rfl) (by kernel_rfl) ?_; (repeat (first | walk_at "m.one" | with_reducible (first | refine SS.if ?_ | refine SS.while ?_ | refine ST.not ?_ | refine ST.boolop ?_ | (show ite _ _ _; first | refine iteT ?_ | refine iteF ?_ | refine iteNT ?_ | refine iteNF ?_)))); refine S2.mulB len_ok ?_; (repeat (first | walk_at "m.one" | with_reducible (first | refine SS.if ?_ | refine SS.while ?_ | refine ST.not ?_ | refine ST.boolop ?_ | (show ite _ _ _; first | refine iteT ?_ | refine iteF ?_ | refine iteNT ?_ | refine iteNF ?_))))
  refine S2.addL len_ok ?_; (repeat (first | walk_at "m.one" | with_reducible (first | refine SS.if ?_ | refine SS.while ?_ | refine ST.not ?_ | refine ST.boolop ?_ | (show ite _ _ _; first | refine iteT ?_ | refine iteF ?_ | refine iteNT ?_ | refine iteNF ?_))))
  refine SC.isi_exc W (b := false) (by kernel_rfl) (by kernel_rfl) ?_; (repeat (first | walk_at "m.one" | with_reducible (first | refine SS.if ?_ | refine SS.while ?_ | refine ST.not ?_ | refine ST.boolop ?_ | (show ite _ _ _; first | refine iteT ?_ | refine iteF ?_ | refine iteNT ?_ | refine iteNF ?_)))); refine S2.mulB len_ok ?_; (repeat (first | walk_at "m.one" | with_reducible (first | refine SS.if ?_ | refine SS.while ?_ | refine ST.not ?_ | refine ST.boolop ?_ | (show ite _ _ _; first | refine iteT ?_ | refine iteF ?_ | refine iteNT ?_ | refine iteNF ?_))))
  refine S2.addL len_ok ?_; (repeat (first | walk_at "m.one" | with_reducible (first | refine SS.if ?_ | refine SS.while ?_ | refine ST.not ?_ | refine ST.boolop ?_ | (show ite _ _ _; first | refine iteT ?_ | refine iteF ?_ | refine iteNT ?_ | refine iteNF ?_))))
  refine SC.isi_exc W (b := false) (by kernel_rfl) (by kernel_rfl) ?_; (repeat (first | walk_at "m.one" | with_reducible (first | refine SS.if ?_ | refine SS.while ?_ | refine ST.not ?_ | refine ST.boolop ?_ | (show ite _ _ _; first | refine iteT ?_ | refine iteF ?_ | refine iteNT ?_ | refine iteNF ?_)))); refine S2.mulB len_ok ?_; (repeat (first | walk_at "m.one" | with_reducible (first | refine SS.if ?_ | refine SS.while ?_ | refine ST.not ?_ | refine ST.boolop ?_ | (show ite _ _ _; first | refine iteT ?_ | refine iteF ?_ | refine iteNT ?_ | refine iteNF ?_))))
  refine S2.addL len_ok ?_; (repeat (first | walk_at "m.one" | with_reducible (first | refine SS.if ?_ | refine SS.while ?_ | refine ST.not ?_ | refine ST.boolop ?_ | (show ite _ _ _; first | refine iteT ?_ | refine iteF ?_ | refine iteNT ?_ | refine iteNF ?_))))
  refine SC.isi_exc W (b := true) (by kernel_rfl) (by kernel_rfl) ?_; (repeat (first | walk_at "m.one" | with_reducible (first | refine SS.if ?_ | refine SS.while ?_ | refine ST.not ?_ | refine ST.boolop ?_ | (show ite _ _ _; first | refine iteT ?_ | refine iteF ?_ | refine iteNT ?_ | refine iteNF ?_)))); refine S2.mulB len_ok ?_; (repeat (first | walk_at "m.one" | with_reducible (first | refine SS.if ?_ | refine SS.while ?_ | refine ST.not ?_ | refine ST.boolop ?_ | (show ite _ _ _; first | refine iteT ?_ | refine iteF ?_ | refine iteNT ?_ | refine iteNF ?_))))
  refine S2.addL len_ok ?_; (repeat (first | walk_at "m.one" | with_reducible (first | refine SS.if ?_ | refine SS.while ?_ | refine ST.not ?_ | refine ST.boolop ?_ | (show ite _ _ _; first | refine iteT ?_ | refine iteF ?_ | refine iteNT ?_ | refine iteNF ?_))))
  refine SC.isi_exc W (b := false) (by kernel_rfl) (by kernel_rfl) ?_; (repeat (first | walk_at "m.one" | with_reducible (first | refine SS.if ?_ | refine SS.while ?_ | refine ST.not ?_ | refine ST.boolop ?_ | (show ite _ _ _; first | refine iteT ?_ | refine iteF ?_ | refine iteNT ?_ | refine iteNF ?_)))); refine S2.mulB len_ok ?_; (repeat (first | walk_at "m.one" | with_reducible (first | refine SS.if ?_ | refine SS.while ?_ | refine ST.not ?_ | refine ST.boolop ?_ | (show ite _ _ _; first | refine iteT ?_ | refine iteF ?_ | refine iteNT ?_ | refine iteNF ?_))))
  refine S2.addL len_ok ?_; (repeat (first | walk_at "m.one" | with_reducible (first | refine SS.if ?_ | refine SS.while ?_ | refine ST.not ?_ | refine ST.boolop ?_ | (show ite _ _ _; first | refine iteT ?_ | refine iteF ?_ | refine iteNT ?_ | refine iteNF ?_))))
  refine SC.isi_exc W (b := false) (by kernel_rfl) (by kernel_rfl) ?_; (repeat (first | walk_at "m.one" | with_reducible (first | refine SS.if ?_ | refine SS.while ?_ | refine ST.not ?_ | refine ST.boolop ?_ | (show ite _ _ _; first | refine iteT ?_ | refine iteF ?_ | refine iteNT ?_ | refine iteNF ?_)))); refine S2.mulB len_ok ?_; (repeat (first | walk_at "m.one" | with_reducible (first | refine SS.if ?_ | refine SS.while ?_ | refine ST.not ?_ | refine ST.boolop ?_ | (show ite _ _ _; first | refine iteT ?_ | refine iteF ?_ | refine iteNT ?_ | refine iteNF ?_))))
  refine S2.addL len_ok ?_; (repeat (first | walk_at "m.one" | with_reducible (first | refine SS.if ?_ | refine SS.while ?_ | refine ST.not ?_ | refine ST.boolop ?_ | (show ite _ _ _; first | refine iteT ?_ | refine iteF ?_ | refine iteNT ?_ | refine iteNF ?_))))
  refine SC.isi_exc W (b := true) (by kernel_rfl) (by kernel_rfl) ?_; (repeat (first | walk_at "m.one" | with_reducible (first | refine SS.if ?_ | refine SS.while ?_ | refine ST.not ?_ | refine ST.boolop ?_ | (show ite _ _ _; first | refine iteT ?_ | refine iteF ?_ | refine iteNT ?_ | refine iteNF ?_)))); refine S2.mulB len_ok ?_; (repeat (first | walk_at "m.one" | with_reducible (first | refine SS.if ?_ | refine SS.while ?_ | refine ST.not ?_ | refine ST.boolop ?_ | (show ite _ _ _; first | refine iteT ?_ | refine iteF ?_ | refine iteNT ?_ | refine iteNF ?_))))
  refine S2.addL len_ok ?_; (repeat (first | walk_at "m.one" | with_reducible (first | refine SS.if ?_ | refine SS.while ?_ | refine ST.not ?_ | refine ST.boolop ?_ | (show ite _ _ _; first | refine iteT ?_ | refine iteF ?_ | refine iteNT ?_ | refine iteNF ?_))))
  with_reducible refine SE.meth (SE.str ⟨_, Meth.join, Callee.bi, ?_⟩)
  (repeat (first | walk_at "m.one" | with_reducible (first | refine SS.if ?_ | refine SS.while ?_ | refine ST.not ?_ | refine ST.boolop ?_ | (show ite _ _ _; first | refine iteT ?_ | refine iteF ?_ | refine iteNT ?_ | refine iteNF ?_))))
  refine SC.join_of (ys := ["word"]) (by rfl) (by decide +kernel) ?_
  (repeat (first | walk_at "m.one" | with_reducible (first | refine SS.if ?_ | refine SS.while ?_ | refine ST.not ?_ | refine ST.boolop ?_ | (show ite _ _ _; first | refine iteT ?_ | refine iteF ?_ | refine iteNT ?_ | refine iteNF ?_))))
  exact q

theorem c_l_cell_at (W : Wl c) {ns : List Int} {k : Int} (hk : 0 ≤ k) (q : Q (.int (ns.getD k.toNat 0)) η) : SC c (d + 1) hd (.ref l_cell_at) [.lst (ns.map V.int), .int k] η Q X := by
  ((refine SC.def2 (by assumption) (by rfl) (by kernel_rfl) (by kernel_rfl) (by rfl) (by rfl) ?_; dsimp only [initσ]))
  (repeat (first | walk_at "m.one" | with_reducible (first | refine SS.if ?_ | refine SS.while ?_ | refine ST.not ?_ | refine ST.boolop ?_ | (show ite _ _ _; first | refine iteT ?_ | refine iteF ?_ | refine iteNT ?_ | refine iteNF ?_))))
  refine iteS (fun h => ?_) fun h => ?_
  · have h' : k.toNat < ns.length := by simp at h; omega
    (repeat (first | walk_at "m.one" | with_reducible (first | refine SS.if ?_ | refine SS.while ?_ | refine ST.not ?_ | refine ST.boolop ?_ | (show ite _ _ _; first | refine iteT ?_ | refine iteF ?_ | refine iteNT ?_ | refine iteNF ?_))))
    refine S2.itemI_lst hk (u := .int (ns.getD k.toNat 0)) (by simp [h']) ?_
    exact q
  · (repeat (first | walk_at "m.one" | with_reducible (first | refine SS.if ?_ | refine SS.while ?_ | refine ST.not ?_ | refine ST.boolop ?_ | (show ite _ _ _; first | refine iteT ?_ | refine iteF ?_ | refine iteNT ?_ | refine iteNF ?_))))
    have h' : ns.length ≤ k.toNat := by simp at h; omega
    simpa [h'] using q

theorem c_l_common (W : Wl c) {a b : Int} (ha : 0 ≤ a) (hb : 0 ≤ b) (q : Q (.int (Int.gcd a b)) η) : SC c (d + 1) true (.ref l_common) [.int a, .int b] η Q X := by
  ((refine SC.def2 (by assumption) (by rfl) (by kernel_rfl) (by kernel_rfl) (by rfl) (by rfl) ?_; dsimp only [initσ]))
  refine SS.while ⟨b.toNat + 1, ?_⟩
  generalize hn : b.toNat = n
  replace hn : b.toNat ≤ n := by omega
  induction n generalizing a b with
  | zero =>
    have h0 : b = 0 := by omega
    subst h0
    unfold WhileN
    (repeat (first | walk_at "m.one" | with_reducible (first | refine SS.if ?_ | refine SS.while ?_ | refine ST.not ?_ | refine ST.boolop ?_ | (show ite _ _ _; first | refine iteT ?_ | refine iteF ?_ | refine iteNT ?_ | refine iteNF ?_))))
    refine iteS (fun h => ?_) fun h => ?_
    · simp at h
    · (repeat (first | walk_at "m.one" | with_reducible (first | refine SS.if ?_ | refine SS.while ?_ | refine ST.not ?_ | refine ST.boolop ?_ | (show ite _ _ _; first | refine iteT ?_ | refine iteF ?_ | refine iteNT ?_ | refine iteNF ?_))))
      simpa [Int.natAbs_of_nonneg ha] using q
  | succ n ih =>
    unfold WhileN
    (repeat (first | walk_at "m.one" | with_reducible (first | refine SS.if ?_ | refine SS.while ?_ | refine ST.not ?_ | refine ST.boolop ?_ | (show ite _ _ _; first | refine iteT ?_ | refine iteF ?_ | refine iteNT ?_ | refine iteNF ?_))))
    refine iteS (fun h => ?_) fun h => ?_
    · have hb' : 0 < b := by simpa using h
      refine SS.swap (by (with_reducible (repeat (first | exact List.mem_cons_self | apply List.mem_cons_of_mem)))) (by (with_reducible (repeat (first | exact List.mem_cons_self | apply List.mem_cons_of_mem)))) (by decide +kernel) ?_
      (repeat (first | walk_at "m.one" | with_reducible (first | refine SS.if ?_ | refine SS.while ?_ | refine ST.not ?_ | refine ST.boolop ?_ | (show ite _ _ _; first | refine iteT ?_ | refine iteF ?_ | refine iteNT ?_ | refine iteNF ?_))))
      refine S2.modI (by omega) ?_
      refine ⟨_, _, by (with_reducible (repeat (first | exact Put.loc | exact Put.cell | apply Put.tail))), by (with_reducible (repeat (first | exact Put.loc | exact Put.cell | apply Put.tail))), ?_⟩
      (repeat (first | walk_at "m.one" | with_reducible (first | refine SS.if ?_ | refine SS.while ?_ | refine ST.not ?_ | refine ST.boolop ?_ | (show ite _ _ _; first | refine iteT ?_ | refine iteF ?_ | refine iteNT ?_ | refine iteNF ?_))))
      have e := Int.fmod_eq_emod_of_nonneg a (b := b) (by omega)
      have l1 := Int.emod_nonneg a (b := b) (by omega)
      have l2 := Int.emod_lt_of_pos a hb'
      exact ih hb (by omega) (by rw [gcd_step a b hb']; exact q) (by omega)
    · have h0 : b = 0 := by simp at h; omega
      subst h0
      (repeat (first | walk_at "m.one" | with_reducible (first | refine SS.if ?_ | refine SS.while ?_ | refine ST.not ?_ | refine ST.boolop ?_ | (show ite _ _ _; first | refine iteT ?_ | refine iteF ?_ | refine iteNT ?_ | refine iteNF ?_))))
      simpa [Int.natAbs_of_nonneg ha] using q

theorem shareOf_pos {t b : Int} (h : 0 < b) : byOf t b = Int.gcd t b := by unfold byOf; rw [if_neg (by omega)]

theorem c_l_share (W : Wl c) {t b : Int} (hb : 0 < b) (hz : b.natAbs < 2 ^ 9000) (q : Q (shareOf t b) η) : SC c (d + 2) true (.ref l_share) [.int t, .int b] η Q X := by
  ((refine SC.def2 (by assumption) (by rfl) (by kernel_rfl) (by kernel_rfl) (by rfl) (by rfl) ?_; dsimp only [initσ]))
  (repeat (first | walk_at "m.one" | with_reducible (first | refine SS.if ?_ | refine SS.while ?_ | refine ST.not ?_ | refine ST.boolop ?_ | (show ite _ _ _; first | refine iteT ?_ | refine iteF ?_ | refine iteNT ?_ | refine iteNF ?_))))
  refine c_l_common W (by omega) (by omega) ?_
  have e : Int.gcd (t.natAbs : Int) b = Int.gcd t b := by simp [Int.gcd]
  rw [e, ← shareOf_pos hb]
  have b0 : b ≠ 0 := by omega
  have := @byOf_small t b b0
  (repeat (first | walk_at "m.one" | with_reducible (first | refine SS.if ?_ | refine SS.while ?_ | refine ST.not ?_ | refine ST.boolop ?_ | (show ite _ _ _; first | refine iteT ?_ | refine iteF ?_ | refine iteNT ?_ | refine iteNF ?_))))
  refine S2.divI (byOf_ne b0) (noPylong_pow (by omega)) ?_
  (repeat (first | walk_at "m.one" | with_reducible (first | refine SS.if ?_ | refine SS.while ?_ | refine ST.not ?_ | refine ST.boolop ?_ | (show ite _ _ _; first | refine iteT ?_ | refine iteF ?_ | refine iteNT ?_ | refine iteNF ?_))))
  refine S2.divI (byOf_ne b0) (noPylong_pow (by omega)) ?_
  (repeat (first | walk_at "m.one" | with_reducible (first | refine SS.if ?_ | refine SS.while ?_ | refine ST.not ?_ | refine ST.boolop ?_ | (show ite _ _ _; first | refine iteT ?_ | refine iteF ?_ | refine iteNT ?_ | refine iteNF ?_))))
  exact q

noncomputable def drawnOf (ns : List Int) (k : Nat) : Int := if k < ns.length then ns.getD k 0 else ((ns.getD 0 0 + 7919 * (k : Int)) * 48271).fmod 2147483647
theorem c_l_drawn (W : Wl c) {ns : List Int} {k : Nat} (hk : k ≤ 10000) (q : Q (.int (drawnOf ns k)) η) : SC c (d + 2) true (.ref l_drawn) [.lst (ns.map V.int), .int (k : Nat)] η Q X := by
  ((refine SC.def2 (by assumption) (by rfl) (by kernel_rfl) (by kernel_rfl) (by rfl) (by rfl) ?_; dsimp only [initσ]))
  refine SS.ifX (decide ((k : Int) < (ns.length : Int))) ?_ (fun h => ?_) fun h => ?_
  · (repeat walk_at "m.one")
    rw [List.length_map]
    exact ⟨rfl, rfl⟩
  · have h' : k < ns.length := by simp at h; omega
    (repeat walk_at "m.one")
    refine S2.item_lst (u := .int (ns.getD k 0)) (by simp [h']) ?_
    unfold drawnOf at q
    rw [if_pos h'] at q
    exact q
  · have h' : ¬ k < ns.length := by simp at h; omega
    unfold drawnOf at q
    rw [if_neg h'] at q
    (repeat walk_at "m.one")
    refine c_l_cell_at W (by decide) ?_
    (repeat walk_at "m.one")
    refine S2.mulI (mulR (by omega)) ?_
    (repeat walk_at "m.one")
    refine S2.mulI (mulR (by decide)) ?_
    (repeat walk_at "m.one")
    refine S2.modI (by decide) ?_
    exact q
noncomputable def topOf (a : Int) : Int := if a.fmod 8 < 3 then 0 else if a.fmod 8 < 7 then (a.fdiv 8).fmod 9 - 4 else (a.fdiv 8).fmod 20001 - 10000
theorem topOf_lb (a : Int) : Lb 14 (topOf a) := by
  unfold topOf Lb
  have h1 := fmod_range (a.fdiv 8) (b := 9) (by decide)
  have h2 := fmod_range (a.fdiv 8) (b := 20001) (by decide)
  split
  · exact Nat.zero_le _
  · split <;> omega
theorem c_l_top (W : Wl c) {a : Int} (q : Q (.int (topOf a)) η) : SC c (d + 1) true (.ref l_top) [.int a] η Q X := by
  have np : ∀ a b : Int, b.natAbs < 2 ^ 9000 → Builtin.divisionGoesByPylong a b = false := fun a b h => noPylong_pow h
  unfold topOf at q
  ((refine SC.def2 (by assumption) (by rfl) (by kernel_rfl) (by kernel_rfl) (by rfl) (by rfl) ?_; dsimp only [initσ]))
  refine SS.ifX (decide (a.fmod 8 < 3)) ?_ (fun h => ?_) fun h => ?_
  · (repeat walk_at "m.one")
    refine S2.modI (by decide) ?_
    (repeat walk_at "m.one")
    exact ⟨rfl, rfl⟩
  · (repeat walk_at "m.one")
    rw [if_pos (by simpa using h)] at q
    exact q
  rw [if_neg (by simpa using h)] at q
  refine SS.ifX (decide (a.fmod 8 < 7)) ?_ (fun h => ?_) fun h => ?_
  · (repeat walk_at "m.one")
    refine S2.modI (by decide) ?_
    (repeat walk_at "m.one")
    exact ⟨rfl, rfl⟩
  · (repeat walk_at "m.one")
    refine S2.divI (by decide) (np _ _ (by decide +kernel)) ?_
    (repeat walk_at "m.one")
    refine S2.modI (by decide) ?_
    (repeat walk_at "m.one")
    rw [if_pos (by simpa using h)] at q
    exact q
  · (repeat walk_at "m.one")
    refine S2.divI (by decide) (np _ _ (by decide +kernel)) ?_
    (repeat walk_at "m.one")
    refine S2.modI (by decide) ?_
    (repeat walk_at "m.one")
    rw [if_neg (by simpa using h)] at q
    exact q
/-- three scales -/
structure Sc (p r s : Int) : Prop where
  p0 : 0 < p
  r0 : 0 < r
  s0 : 0 < s
  lp : Lb 10 p
  lr : Lb 10 r
  ls : Lb 10 s
theorem sc_lb {a b : Int} (h : 0 ≤ a ∧ a < b) (hb : b ≤ 1000) : 0 < 1 + a ∧ Lb 10 (1 + a) := ⟨by omega, by unfold Lb; omega⟩
theorem c_l_scales (W : Wl c) {a : Int} (q : ∀ p r s, Sc p r s → Q (.lst [.int p, .int r, .int s]) η) : SC c (d + 1) true (.ref l_scales) [.int a] η Q X := by
  have np : ∀ a b : Int, b.natAbs < 2 ^ 9000 → Builtin.divisionGoesByPylong a b = false := fun a b h => noPylong_pow h
  ((refine SC.def2 (by assumption) (by rfl) (by kernel_rfl) (by kernel_rfl) (by rfl) (by rfl) ?_; dsimp only [initσ]))
  refine SS.ifX (a.fmod 5 == 3) ?_ (fun h => ?_) fun h => ?_
  · (repeat walk_at "m.one")
    refine S2.modI (by decide) ?_
    (repeat walk_at "m.one")
    exact ⟨rfl, rfl⟩
  · (repeat walk_at "m.one")
    refine S2.divI (by decide) (np _ _ (by decide +kernel)) ?_
    (repeat walk_at "m.one")
    refine S2.modI (by decide) ?_
    (repeat walk_at "m.one")
    refine S2.divI (by decide) (np _ _ (by decide +kernel)) ?_
    (repeat walk_at "m.one")
    refine S2.modI (by decide) ?_
    (repeat walk_at "m.one")
    refine S2.divI (by decide) (np _ _ (by decide +kernel)) ?_
    (repeat walk_at "m.one")
    refine S2.modI (by decide) ?_
    (repeat walk_at "m.one")
    have h1 := sc_lb (fmod_range (a.fdiv 5) (b := 997) (by decide)) (by decide)
    have h2 := sc_lb (fmod_range (a.fdiv 15) (b := 97) (by decide)) (by decide)
    have h3 := sc_lb (fmod_range (a.fdiv 25) (b := 997) (by decide)) (by decide)
    exact q _ _ _ ⟨h1.1, h2.1, h3.1, h1.2, h2.2, h3.2⟩
  · (repeat walk_at "m.one")
    refine S2.divI (by decide) (np _ _ (by decide +kernel)) ?_
    (repeat walk_at "m.one")
    refine S2.modI (by decide) ?_
    (repeat walk_at "m.one")
    refine S2.divI (by decide) (np _ _ (by decide +kernel)) ?_
    (repeat walk_at "m.one")
    refine S2.modI (by decide) ?_
    (repeat walk_at "m.one")
    refine S2.divI (by decide) (np _ _ (by decide +kernel)) ?_
    (repeat walk_at "m.one")
    refine S2.modI (by decide) ?_
    (repeat walk_at "m.one")
    have h1 := sc_lb (fmod_range (a.fdiv 5) (b := 12) (by decide)) (by decide)
    have h2 := sc_lb (fmod_range (a.fdiv 60) (b := 6) (by decide)) (by decide)
    have h3 := sc_lb (fmod_range (a.fdiv 360) (b := 12) (by decide)) (by decide)
    exact q _ _ _ ⟨h1.1, h2.1, h3.1, h1.2, h2.2, h3.2⟩

theorem abc_at {i : Nat} (h : i < 26) : (Str.ofString "abcdefghijklmnopqrstuvwxyz").cps[i]? = some (97 + i) := by
  have : ∀ i, i < 26 → (Str.ofString "abcdefghijklmnopqrstuvwxyz").cps[i]? = some (97 + i) := by decide +kernel
  exact this i h
theorem c_l_signs (W : Wl c) {a : Int} (q : ∀ m g, m ≤ 2 → Sg m g → Q (.str (signS m g)) η) : SC c (d + 1) true (.ref l_signs) [.int a] η Q X := by
  have np : ∀ a b : Int, b.natAbs < 2 ^ 9000 → Builtin.divisionGoesByPylong a b = false := fun a b h => noPylong_pow h
  ((refine SC.def2 (by assumption) (by rfl) (by kernel_rfl) (by kernel_rfl) (by rfl) (by rfl) ?_; dsimp only [initσ]))
  (repeat walk_at "m.one")
  refine S2.divI (by decide) (np _ _ (by decide +kernel)) ?_
  (repeat walk_at "m.one")
  refine S2.modI (by decide) ?_
  have r1 := fmod_range (a.fdiv 6) (b := 20) (by decide)
  generalize (a.fdiv 6).fmod 20 = f0 at r1
  obtain ⟨f, rfl⟩ : ∃ k : Nat, f0 = k := ⟨f0.toNat, by omega⟩
  (repeat walk_at "m.one")
  refine S2.divI (by decide) (np _ _ (by decide +kernel)) ?_
  (repeat walk_at "m.one")
  refine S2.modI (by decide) ?_
  have r2 := fmod_range (a.fdiv 120) (b := 3) (by decide)
  generalize (a.fdiv 120).fmod 3 = f0 at r2
  obtain ⟨st, rfl⟩ : ∃ k : Nat, f0 = k := ⟨f0.toNat, by omega⟩
  (repeat walk_at "m.one")
  with_reducible refine SE.meth (SE.str ⟨_, Meth.join, Callee.bi, ?_⟩)
  (repeat walk_at "m.one")
  refine SE.comp ["_law_k"] none (by (with_reducible (repeat (first | exact CapR.nil | apply CapR.own (by decide) | apply CapR.cap (by repeat (first | exact At.head | apply At.tail)) | apply CapR.capF (by repeat (first | exact At.head | apply At.tail)))))) ?_
  (repeat walk_at "m.one")
  refine S2.modI (by decide) ?_
  have r3 := fmod_range a (b := 6) (by decide)
  generalize a.fmod 6 = f0 at r3
  obtain ⟨j, rfl⟩ : ∃ k : Nat, f0 = k := ⟨f0.toNat, by omega⟩
  obtain ⟨m, hm, hj⟩ : ∃ m : Nat, m ≤ 2 ∧ [V.int 2, .int 1, .int 2, .int 0, .int 2, .int 2][j]? = some (.int (m : Nat)) := by
    have : j < 6 := by omega
    match j, this with
    | 0, _ => exact ⟨2, by decide, rfl⟩
    | 1, _ => exact ⟨1, by decide, rfl⟩
    | 2, _ => exact ⟨2, by decide, rfl⟩
    | 3, _ => exact ⟨0, by decide, rfl⟩
    | 4, _ => exact ⟨2, by decide, rfl⟩
    | 5, _ => exact ⟨2, by decide, rfl⟩
  refine S2.item_lst hj ?_
  (repeat walk_at "m.one")
  refine ⟨_, rng_ok (by omega), rng_len (by omega), CompL.rngN (g := fun k => .str (sgn (97 + f + (1 + st) * k))) (fun k hk => ⟨_, by (with_reducible (repeat (first | exact Put.loc | exact Put.cell | apply Put.tail))), by simp [Less], ?_⟩) ?_⟩
  · (repeat walk_at "m.one")
    refine S2.mulI (mulR (by omega)) ?_
    (repeat walk_at "m.one")
    rw [show ((f : Nat) : Int) + (1 + ((st : Nat) : Int)) * ((k : Nat) : Int) = ((f + (1 + st) * k : Nat) : Int) by simp]
    have b1 : (1 + st) * k ≤ 3 * 1 := Nat.mul_le_mul (by omega) (by omega)
    refine S2.item_str (abc_at (i := f + (1 + st) * k) (by omega)) (by decide) ?_
    refine ⟨?_, rfl⟩
    rw [Nat.add_assoc]
  · rw [List.nil_append]
    (repeat walk_at "m.one")
    refine SC.join_of (ys := (List.range m).map fun k => sgn (97 + f + (1 + st) * k)) (by simp) ?_ ?_
    · have e : (((List.range m).map fun k => sgn (97 + f + (1 + st) * k)).map (·.length)).sum = m := by
        rw [List.map_map, show ((fun x : Str => x.length) ∘ fun k => sgn (97 + f + (1 + st) * k)) = fun _ => 1 from rfl, List.map_const', List.sum_replicate_nat]; simp
      rw [e, List.length_map, List.length_range]
      have : (Str.ofString "").length = 0 := rfl
      rw [this]; omega
    · rw [join_words fun k => 97 + f + (1 + st) * k]
      refine q m _ hm ⟨fun k hk => ?_, fun i j' hij hj' => ?_⟩
      · have b1 : (1 + st) * k ≤ 3 * 1 := Nat.mul_le_mul (by omega) (by omega)
        omega
      · have b1 : (1 + st) * (i + 1) ≤ (1 + st) * j' := Nat.mul_le_mul_left _ (by omega)
        rw [Nat.mul_succ] at b1
        omega

theorem c_l_tops (W : Wl c) {ns : List Int} {first m n : Nat} {x : Str} (hx : x.length = m) (hm : m ≤ 6) (hn : n ≤ 12) (hf : first ≤ 100)
    (q : Q (topsV m n (fun k => topOf (drawnOf ns (first + k))) (fun s i j => topOf (drawnOf ns (first + 2 * n + s * n * n + i * n + j))) (fun k => topOf (drawnOf ns (first + n + k)))) η) :
    SC c (d + 3) true (.ref l_tops) [.lst (ns.map V.int), .int (first : Nat), .str x, .int (n : Nat)] η Q X := by
  have sl : sizeLine = 16777216 := by decide
  refine SC.frz ?_
  ((refine SC.def2 (by assumption) (by rfl) (by kernel_rfl) (by kernel_rfl) (by rfl) (by rfl) ?_; dsimp only [initσ]))
  refine SS.assignComp ["_law_k"] none (by (with_reducible (repeat (first | exact CapR.nil | apply CapR.own (by decide) | apply CapR.cap (by repeat (first | exact At.head | apply At.tail)) | apply CapR.capF (by repeat (first | exact At.head | apply At.tail)))))) (.inl (by (with_reducible (repeat (first | exact List.mem_cons_self | apply List.mem_cons_of_mem))))) ?_
  (repeat walk_at "m.one")
  refine ⟨_, rng_ok (by omega), rng_len (by omega), CompL.rngN (g := fun k => .int (topOf (drawnOf ns (first + k)))) (fun k hk => ⟨_, by (with_reducible (repeat (first | exact Put.loc | exact Put.cell | apply Put.tail))), by simp [Less], ?_⟩) ?_⟩
  · (repeat walk_at "m.one")
    rw [show ((first : Nat) : Int) + ((k : Nat) : Int) = ((first + k : Nat) : Int) by simp]
    refine c_l_drawn W (by omega) ?_
    (repeat walk_at "m.one")
    exact c_l_top W ⟨rfl, rfl⟩
  rw [List.nil_append]
  refine A.put ?_
  refine SS.assignComp ["_law_k"] none (by (with_reducible (repeat (first | exact CapR.nil | apply CapR.own (by decide) | apply CapR.cap (by repeat (first | exact At.head | apply At.tail)) | apply CapR.capF (by repeat (first | exact At.head | apply At.tail)))))) (.inl (by (with_reducible (repeat (first | exact List.mem_cons_self | apply List.mem_cons_of_mem))))) ?_
  (repeat walk_at "m.one")
  refine ⟨_, rng_ok (by omega), rng_len (by omega), CompL.rngN (g := fun k => .int (topOf (drawnOf ns (first + n + k)))) (fun k hk => ⟨_, by (with_reducible (repeat (first | exact Put.loc | exact Put.cell | apply Put.tail))), by simp [Less], ?_⟩) ?_⟩
  · (repeat walk_at "m.one")
    rw [show ((first : Nat) : Int) + ((n : Nat) : Int) + ((k : Nat) : Int) = ((first + n + k : Nat) : Int) by simp]
    refine c_l_drawn W (by omega) ?_
    (repeat walk_at "m.one")
    exact c_l_top W ⟨rfl, rfl⟩
  rw [List.nil_append]
  refine A.put ?_
  refine SS.assign (SE.lstM (SL.nil ⟨by decide, fun a na => A.put ?_⟩))
  refine SS.for ["_law_place"] ?_
  (repeat walk_at "m.one")
  refine SC.len_str (by omega) ?_
  (repeat walk_at "m.one")
  rw [hx]
  have tp : ∀ s, s < m → s * n * n ≤ 6 * 12 * 12 := fun s hs => Nat.mul_le_mul (Nat.mul_le_mul (by omega) hn) hn
  refine ⟨_, rng_ok (by omega), ForL.rngH (fun k => [some (.lst (ns.map V.int)), some (.int (first : Nat)), none, some (.int (n : Nat)), some (.lst (rowI n fun k => topOf (drawnOf ns (first + k)))), some (.lst (rowI n fun k => topOf (drawnOf ns (first + n + k)))), some (.loc a), none, none, none, none])
    (fun k => η.set a (.lst (tabsI k n fun s i j => topOf (drawnOf ns (first + 2 * n + s * n * n + i * n + j))))) (fun s hs => ⟨_, by (with_reducible (repeat (first | exact Put.loc | exact Put.cell | apply Put.tail))), ?_⟩) (fun σ' l => SS.forget l ?_) (by simp [Less])⟩
  · have ts := tp s hs
    (repeat walk_at "m.one")
    refine S2.mulI (mulR (by omega)) ?_
    (repeat walk_at "m.one")
    refine S2.mulI (mulR (by omega)) ?_
    (repeat walk_at "m.one")
    refine S2.mulI (mulR (by omega)) ?_
    (repeat walk_at "m.one")
    rw [show ((first : Nat) : Int) + 2 * ((n : Nat) : Int) + ((s : Nat) : Int) * ((n : Nat) : Int) * ((n : Nat) : Int) = ((first + 2 * n + s * n * n : Nat) : Int) by simp]
    refine SS.expr ?_
    with_reducible refine SE.meth (A.var ⟨_, Meth.append (Hp.set_self ..), Callee.bi, ?_⟩)
    (repeat walk_at "m.one")
    refine SE.comp ["_law_i"] none (by (with_reducible (repeat (first | exact CapR.nil | apply CapR.own (by decide) | apply CapR.cap (by repeat (first | exact At.head | apply At.tail)) | apply CapR.capF (by repeat (first | exact At.head | apply At.tail)))))) ?_
    (repeat walk_at "m.one")
    refine ⟨_, rng_ok (by omega), rng_len (by omega), CompL.rngN (g := fun i => .lst (rowI n fun j => topOf (drawnOf ns (first + 2 * n + s * n * n + i * n + j)))) (fun i hi => ⟨_, by (with_reducible (repeat (first | exact Put.loc | exact Put.cell | apply Put.tail))), by simp [Less], ?_⟩) ?_⟩
    · refine SE.comp ["_law_j"] none (by (with_reducible (repeat (first | exact CapR.nil | apply CapR.own (by decide) | apply CapR.cap (by repeat (first | exact At.head | apply At.tail)) | apply CapR.capF (by repeat (first | exact At.head | apply At.tail)))))) ?_
      (repeat walk_at "m.one")
      refine ⟨_, rng_ok (by omega), rng_len (by omega), CompL.rngN (g := fun j => .int (topOf (drawnOf ns (first + 2 * n + s * n * n + i * n + j)))) (fun j hj => ⟨_, by (with_reducible (repeat (first | exact Put.loc | exact Put.cell | apply Put.tail))), by simp [Less], ?_⟩) ?_⟩
      · have ti : i * n ≤ 12 * 12 := Nat.mul_le_mul (by omega) hn
        (repeat walk_at "m.one")
        refine S2.mulI (mulR (by omega)) ?_
        (repeat walk_at "m.one")
        rw [show ((first + 2 * n + s * n * n : Nat) : Int) + ((i : Nat) : Int) * ((n : Nat) : Int) + ((j : Nat) : Int) = ((first + 2 * n + s * n * n + i * n + j : Nat) : Int) by simp]
        refine c_l_drawn W (by omega) ?_
        (repeat walk_at "m.one")
        exact c_l_top W ⟨rfl, rfl⟩
      · rw [List.nil_append]; exact ⟨rfl, rfl⟩
    · rw [List.nil_append]
      (repeat walk_at "m.one")
      refine SC.append (Hp.set_self ..) (by simp; omega) ?_
      rw [Hp.set_set]
      (repeat walk_at "m.one")
      refine ⟨by simp [Less], ?_⟩
      unfold tabsI
      rw [List.range_succ, List.map_append]; rfl
  · (repeat walk_at "m.one")
    refine ⟨Ext.set na, _, .tup (.cons (.keep int_lin) (.cons (.lst (Hp.set_self ..) na (Frzs.keep ?_)) (.cons (.keep int_lin) .nil))), q⟩
    refine lins_of fun v hv => ?_
    obtain ⟨s, _, rfl⟩ := List.mem_map.mp hv
    refine lins_of fun v hv => ?_
    obtain ⟨i, _, rfl⟩ := List.mem_map.mp hv
    exact int_lin
theorem c_l_row (W : Wl c) {n : Nat} {r : Nat → Int} {D : Int} (hn : n ≤ 12) (hD : 0 < D) (lD : Lb 4000 D) (q : Q (.lst (rowS n r D)) η) : SC c (d + 3) true (.ref l_row) [.lst (rowI n r), .int D] η Q X := by
  ((refine SC.def2 (by assumption) (by rfl) (by kernel_rfl) (by kernel_rfl) (by rfl) (by rfl) ?_; dsimp only [initσ]))
  (repeat walk_at "m.one")
  refine SE.comp ["_law_top_here"] none (by (with_reducible (repeat (first | exact CapR.nil | apply CapR.own (by decide) | apply CapR.cap (by repeat (first | exact At.head | apply At.tail)) | apply CapR.capF (by repeat (first | exact At.head | apply At.tail)))))) ?_
  (repeat walk_at "m.one")
  refine ⟨_, SI.lst, range_len (by omega), CompL.mapN (g := fun k => shareOf (r k) D) (fun k hk => ⟨_, by (with_reducible (repeat (first | exact Put.loc | exact Put.cell | apply Put.tail))), by simp [Less], ?_⟩) ?_⟩
  · (repeat walk_at "m.one")
    exact c_l_share W hD (Nat.lt_of_le_of_lt lD (Nat.pow_lt_pow_right (by decide) (by decide))) ⟨rfl, rfl⟩
  · rw [List.nil_append]; exact q

noncomputable abbrev partsV (x : Str) (m n : Nat) (b : Nat → Int) (T : Nat → Nat → Nat → Int) (e : Nat → Int) (p r s : Int) : V := .lst [.str x, .lst (rowS n b p), .lst (tabsS m n T r), .lst (rowS n e s)]
theorem c_l_parts (W : Wl c) {m n : Nat} {x : Str} {b e : Nat → Int} {T : Nat → Nat → Nat → Int} {p r s : Int} (hm : m ≤ 6) (hn : n ≤ 12) (sc : Sc p r s)
    (q : Q (partsV x m n b T e p r s) η) : SC c (d + 5) true (.ref l_parts) [.str x, topsV m n b T e, .lst [.int p, .int r, .int s]] η Q X := by
  ((refine SC.def2 (by assumption) (by rfl) (by kernel_rfl) (by kernel_rfl) (by rfl) (by rfl) ?_; dsimp only [initσ]))
  refine SS.assignComp ["_law_table"] none (by (with_reducible (repeat (first | exact CapR.nil | apply CapR.own (by decide) | apply CapR.cap (by repeat (first | exact At.head | apply At.tail)) | apply CapR.capF (by repeat (first | exact At.head | apply At.tail)))))) (.inl (by (with_reducible (repeat (first | exact List.mem_cons_self | apply List.mem_cons_of_mem))))) ?_
  (repeat walk_at "m.one")
  refine ⟨_, SI.lst, range_len (by omega), CompL.mapN (g := fun s => .lst (tabS n (T s) r)) (fun s hs => ⟨_, by (with_reducible (repeat (first | exact Put.loc | exact Put.cell | apply Put.tail))), by simp [Less], ?_⟩) ?_⟩
  · refine SE.comp ["_law_row_here"] none (by (with_reducible (repeat (first | exact CapR.nil | apply CapR.own (by decide) | apply CapR.cap (by repeat (first | exact At.head | apply At.tail)) | apply CapR.capF (by repeat (first | exact At.head | apply At.tail)))))) ?_
    (repeat walk_at "m.one")
    refine ⟨_, SI.lst, range_len (by omega), CompL.mapN (g := fun i => .lst (rowS n (T s i) r)) (fun i hi => ⟨_, by (with_reducible (repeat (first | exact Put.loc | exact Put.cell | apply Put.tail))), by simp [Less], ?_⟩) ?_⟩
    · (repeat walk_at "m.one")
      exact c_l_row W hn sc.r0 (sc.lr.mono (by decide)) ⟨rfl, rfl⟩
    · rw [List.nil_append]; exact ⟨rfl, rfl⟩
  rw [List.nil_append]
  refine A.put ?_
  (repeat walk_at "m.one")
  refine c_l_row W hn sc.p0 (sc.lp.mono (by decide)) ?_
  (repeat walk_at "m.one")
  refine c_l_row W hn sc.s0 (sc.ls.mono (by decide)) ?_
  (repeat walk_at "m.one")
  exact q

/-- what makes no machine -/
inductive Late (k n : Nat) : V → V → Prop
  | ends {v3 v4} : okR v4 = true → rowV n v4 = false → Late k n v3 v4
  | moves {v3 v4} : rowV n v4 = true → isiT "list" v3 = some false → Late k n v3 v4
  | many {ms v4} : rowV n v4 = true → ms.length ≠ k → Late k n (.lst ms) v4
  | table {ms v4} : rowV n v4 = true → ms.length = k → (∀ t ∈ ms, okTab t = true) → ms.all (tabV n) = false → Late k n (.lst ms) v4
inductive Bad : V → V → V → V → Prop
  | signs {v1 v2 v3 v4} : (isiT "str" v1).isSome = true → (∀ x, v1 = .str x → x.length ≤ 10000) → signsV v1 = false → Bad v1 v2 v3 v4
  | begins {x v2 v3 v4} : signsV (.str x) = true → isiT "list" v2 = some false → Bad (.str x) v2 v3 v4
  | row {x bs v3 v4} : signsV (.str x) = true → okR (.lst bs) = true → rowV bs.length (.lst bs) = false → Bad (.str x) (.lst bs) v3 v4
  | late {x bs v3 v4} : signsV (.str x) = true → bs.length ≤ 10000 → rowV bs.length (.lst bs) = true → Late x.length bs.length v3 v4 → Bad (.str x) (.lst bs) v3 v4
theorem signs_len {x : Str} (h : signsV (.str x) = true) : x.length ≤ 6 := by
  unfold signsV at h
  simp only [Bool.and_eq_true, decide_eq_true_eq] at h
  exact h.1
theorem c_Machine_init_bad (W : Wl c) {a : Addr} {v1 v2 v3 v4 : V} (b : Bad v1 v2 v3 v4) (q : X p_NoMachine η) : SCc c (d + 5) true (.ref m_Machine_init) [.loc a, v1, v2, v3, v4] η Q X := by
  have sl : sizeLine = 16777216 := by decide
  refine SCc.def2 W (by rfl) (by kernel_rfl) (by kernel_rfl) (by rfl) (by rfl) ?_
  dsimp only [initσ]
  cases b with
  | signs h1 h2 h3 =>
    refine SS.ifX (!false || false || false) (TP.or3 (TP.not ?_) (fun h => by simp at h) fun h _ => by simp at h) (fun _ => ?_) fun h => by simp at h
    · (repeat walk_at "m.one")
      refine c_is_signs W h1 h2 ?_
      rw [h3]
      (repeat walk_at "m.one")
      exact ⟨rfl, rfl⟩
    · refine SS.raise W (by (with_reducible (repeat (first | exact List.mem_cons_self | apply List.mem_cons_of_mem)))) (by (with_reducible (repeat (first | exact List.mem_cons_self | apply List.mem_cons_of_mem)))) (by kernel_rfl) ?_
      (repeat walk_at "m.one")
      exact q
  | @begins x _ _ _ h1 h2 =>
    have hx := signs_len h1
    refine SS.ifX (!true || !false || false) (TP.or3 (TP.not ?_) (fun _ => TP.not ?_) fun _ h => by simp at h) (fun _ => ?_) fun h => by simp at h
    · (repeat walk_at "m.one")
      refine c_is_signs W (by rfl) (fun y e => by cases e; omega) ?_
      rw [h1]
      (repeat walk_at "m.one")
      exact ⟨rfl, rfl⟩
    · (repeat walk_at "m.one")
      refine SC.isi h2 ?_
      (repeat walk_at "m.one")
      exact ⟨rfl, rfl⟩
    · refine SS.raise W (by (with_reducible (repeat (first | exact List.mem_cons_self | apply List.mem_cons_of_mem)))) (by (with_reducible (repeat (first | exact List.mem_cons_self | apply List.mem_cons_of_mem)))) (by kernel_rfl) ?_
      (repeat walk_at "m.one")
      exact q
  | @row x bs _ _ h1 h2 h3 =>
    have hx := signs_len h1
    refine SS.ifX (!true || !true || !false) (TP.or3 (TP.not ?_) (fun _ => TP.not ?_) fun _ _ => TP.not ?_) (fun _ => ?_) fun h => by simp at h
    · (repeat walk_at "m.one")
      refine c_is_signs W (by rfl) (fun y e => by cases e; omega) ?_
      rw [h1]
      (repeat walk_at "m.one")
      exact ⟨rfl, rfl⟩
    · (repeat walk_at "m.one")
      refine SC.isi (b := true) (by rfl) ?_
      (repeat walk_at "m.one")
      exact ⟨rfl, rfl⟩
    · (repeat walk_at "m.one")
      refine c_is_row W h2 ?_
      rw [h3]
      (repeat walk_at "m.one")
      exact ⟨rfl, rfl⟩
    · refine SS.raise W (by (with_reducible (repeat (first | exact List.mem_cons_self | apply List.mem_cons_of_mem)))) (by (with_reducible (repeat (first | exact List.mem_cons_self | apply List.mem_cons_of_mem)))) (by kernel_rfl) ?_
      (repeat walk_at "m.one")
      exact q
  | @late x bs _ _ h1 h2 h3 lt =>
    have hx := signs_len h1
    refine SS.ifX (!true || !true || !true) (TP.or3 (TP.not ?_) (fun _ => TP.not ?_) fun _ _ => TP.not ?_) (fun h => by simp at h) fun _ => ?_
    · (repeat walk_at "m.one")
      refine c_is_signs W (by rfl) (fun y e => by cases e; omega) ?_
      rw [h1]
      (repeat walk_at "m.one")
      exact ⟨rfl, rfl⟩
    · (repeat walk_at "m.one")
      refine SC.isi (b := true) (by rfl) ?_
      (repeat walk_at "m.one")
      exact ⟨rfl, rfl⟩
    · (repeat walk_at "m.one")
      refine c_is_row W (rowV_ok h2 h3) ?_
      rw [h3]
      (repeat walk_at "m.one")
      exact ⟨rfl, rfl⟩
    (repeat walk_at "m.one")
    cases lt with
    | ends g1 g2 =>
      refine SS.ifX (!false || false || false) (TP.or3 (TP.not ?_) (fun h => by simp at h) fun h _ => by simp at h) (fun _ => ?_) fun h => by simp at h
      · (repeat walk_at "m.one")
        refine c_is_row W g1 ?_
        rw [g2]
        (repeat walk_at "m.one")
        exact ⟨rfl, rfl⟩
      · refine SS.raise W (by (with_reducible (repeat (first | exact List.mem_cons_self | apply List.mem_cons_of_mem)))) (by (with_reducible (repeat (first | exact List.mem_cons_self | apply List.mem_cons_of_mem)))) (by kernel_rfl) ?_
        (repeat walk_at "m.one")
        exact q
    | moves g1 g2 =>
      refine SS.ifX (!true || !false || false) (TP.or3 (TP.not ?_) (fun _ => TP.not ?_) fun _ h => by simp at h) (fun _ => ?_) fun h => by simp at h
      · (repeat walk_at "m.one")
        refine c_is_row W (rowV_ok h2 g1) ?_
        rw [g1]
        (repeat walk_at "m.one")
        exact ⟨rfl, rfl⟩
      · (repeat walk_at "m.one")
        refine SC.isi g2 ?_
        (repeat walk_at "m.one")
        exact ⟨rfl, rfl⟩
      · refine SS.raise W (by (with_reducible (repeat (first | exact List.mem_cons_self | apply List.mem_cons_of_mem)))) (by (with_reducible (repeat (first | exact List.mem_cons_self | apply List.mem_cons_of_mem)))) (by kernel_rfl) ?_
        (repeat walk_at "m.one")
        exact q
    | @many ms _ g1 g2 =>
      refine SS.ifX (!true || !true || ((ms.length : Int) != (x.length : Int))) (TP.or3 (TP.not ?_) (fun _ => TP.not ?_) fun _ _ => ?_) (fun _ => ?_) fun h => by simp at h; omega
      · (repeat walk_at "m.one")
        refine c_is_row W (rowV_ok h2 g1) ?_
        rw [g1]
        (repeat walk_at "m.one")
        exact ⟨rfl, rfl⟩
      · (repeat walk_at "m.one")
        refine SC.isi (b := true) (by rfl) ?_
        (repeat walk_at "m.one")
        exact ⟨rfl, rfl⟩
      · (repeat walk_at "m.one")
        refine SC.len_str (by omega) ?_
        (repeat walk_at "m.one")
        exact ⟨rfl, rfl⟩
      · refine SS.raise W (by (with_reducible (repeat (first | exact List.mem_cons_self | apply List.mem_cons_of_mem)))) (by (with_reducible (repeat (first | exact List.mem_cons_self | apply List.mem_cons_of_mem)))) (by kernel_rfl) ?_
        (repeat walk_at "m.one")
        exact q
    | @table ms _ g1 g2 g3 g4 =>
      refine SS.ifX (!true || !true || ((ms.length : Int) != (x.length : Int))) (TP.or3 (TP.not ?_) (fun _ => TP.not ?_) fun _ _ => ?_) (fun h => by simp at h; omega) fun _ => ?_
      · (repeat walk_at "m.one")
        refine c_is_row W (rowV_ok h2 g1) ?_
        rw [g1]
        (repeat walk_at "m.one")
        exact ⟨rfl, rfl⟩
      · (repeat walk_at "m.one")
        refine SC.isi (b := true) (by rfl) ?_
        (repeat walk_at "m.one")
        exact ⟨rfl, rfl⟩
      · (repeat walk_at "m.one")
        refine SC.len_str (by omega) ?_
        (repeat walk_at "m.one")
        exact ⟨rfl, rfl⟩
      refine SS.ifX (!false) (TP.not ?_) (fun _ => ?_) fun h => by simp at h
      · (repeat walk_at "m.one")
        refine SE.comp ["table"] none (by (with_reducible (repeat (first | exact CapR.nil | apply CapR.own (by decide) | apply CapR.cap (by repeat (first | exact At.head | apply At.tail)) | apply CapR.capF (by repeat (first | exact At.head | apply At.tail)))))) ?_
        (repeat walk_at "m.one")
        refine ⟨_, SI.lst, by omega, CompL.mapV (g := fun t => .bool (tabV bs.length t)) (fun t ht => ⟨_, by (with_reducible (repeat (first | exact Put.loc | exact Put.cell | apply Put.tail))), by simp [Less], ?_⟩) ?_⟩
        · (repeat walk_at "m.one")
          exact c_is_table W (g3 t ht) ⟨rfl, rfl⟩
        · (repeat walk_at "m.one")
          rw [List.nil_append, show (ms.map fun t => V.bool (tabV bs.length t)) = (ms.map (tabV bs.length)).map V.bool by simp]
          refine SC.all ?_
          rw [List.all_map, show (id ∘ tabV bs.length) = tabV bs.length from rfl, g4]
          (repeat walk_at "m.one")
          exact ⟨rfl, rfl⟩
      · refine SS.raise W (by (with_reducible (repeat (first | exact List.mem_cons_self | apply List.mem_cons_of_mem)))) (by (with_reducible (repeat (first | exact List.mem_cons_self | apply List.mem_cons_of_mem)))) (by kernel_rfl) ?_
        (repeat walk_at "m.one")
        exact q
theorem c_Machine_bad (W : Wl c) {v1 v2 v3 v4 : V} (b : Bad v1 v2 v3 v4) (q : X p_NoMachine η) : SC c (d + 6) true (.ref p_Machine) [v1, v2, v3, v4] η Q X := by
  refine SC.frz (SC.make W (fI := m_Machine_init) (by kernel_rfl) (by kernel_rfl) (by kernel_rfl) fun a dd na nd ne => ?_)
  exact c_Machine_init_bad W b ⟨(Ext.set nd).trans (Ext.set ((Hp.set_ne _ _ ne).trans na)), q⟩
theorem c_Machine_init_many (W : Wl c) {a : Addr} {x : Str} {bs ms es : List V} (h1 : signsV (.str x) = true) (h2 : bs.length ≤ 10000) (h3 : rowV bs.length (.lst bs) = true) (h4 : rowV bs.length (.lst es) = true) (h5 : ms.length = x.length) (h6 : ∀ t ∈ ms, tabV bs.length t = true) (h7 : 12 < bs.length) (q : X p_TooMany η) :
    SCc c (d + 5) true (.ref m_Machine_init) [.loc a, .str x, .lst bs, .lst ms, .lst es] η Q X := by
  have sl : sizeLine = 16777216 := by decide
  have hx := signs_len h1
  refine SCc.def2 W (by rfl) (by kernel_rfl) (by kernel_rfl) (by rfl) (by rfl) ?_
  dsimp only [initσ]
  refine SS.ifX (!true || !true || !true) (TP.or3 (TP.not ?_) (fun _ => TP.not ?_) fun _ _ => TP.not ?_) (fun h => by simp at h) fun _ => ?_
  · (repeat walk_at "m.one")
    refine c_is_signs W (by rfl) (fun y e => by cases e; omega) ?_
    rw [h1]
    (repeat walk_at "m.one")
    exact ⟨rfl, rfl⟩
  · (repeat walk_at "m.one")
    refine SC.isi (b := true) (by rfl) ?_
    (repeat walk_at "m.one")
    exact ⟨rfl, rfl⟩
  · (repeat walk_at "m.one")
    refine c_is_row W (rowV_ok h2 h3) ?_
    rw [h3]
    (repeat walk_at "m.one")
    exact ⟨rfl, rfl⟩
  (repeat walk_at "m.one")
  refine SS.ifX (!true || !true || ((ms.length : Int) != (x.length : Int))) (TP.or3 (TP.not ?_) (fun _ => TP.not ?_) fun _ _ => ?_) (fun h => by simp at h; omega) fun _ => ?_
  · (repeat walk_at "m.one")
    refine c_is_row W (rowV_ok h2 h4) ?_
    rw [h4]
    (repeat walk_at "m.one")
    exact ⟨rfl, rfl⟩
  · (repeat walk_at "m.one")
    refine SC.isi (b := true) (by rfl) ?_
    (repeat walk_at "m.one")
    exact ⟨rfl, rfl⟩
  · (repeat walk_at "m.one")
    refine SC.len_str (by omega) ?_
    (repeat walk_at "m.one")
    exact ⟨rfl, rfl⟩
  refine SS.ifX (!true) (TP.not ?_) (fun h => by simp at h) fun _ => ?_
  · (repeat walk_at "m.one")
    refine SE.comp ["table"] none (by (with_reducible (repeat (first | exact CapR.nil | apply CapR.own (by decide) | apply CapR.cap (by repeat (first | exact At.head | apply At.tail)) | apply CapR.capF (by repeat (first | exact At.head | apply At.tail)))))) ?_
    (repeat walk_at "m.one")
    refine ⟨_, SI.lst, by omega, CompL.mapV (g := fun _ => .bool true) (fun t ht => ⟨_, by (with_reducible (repeat (first | exact Put.loc | exact Put.cell | apply Put.tail))), by simp [Less], ?_⟩) ?_⟩
    · (repeat walk_at "m.one")
      exact c_is_table W (tabV_ok h2 (h6 t ht)) ⟨by rw [h6 t ht], rfl⟩
    · (repeat walk_at "m.one")
      rw [List.nil_append, show (ms.map fun _ => V.bool true) = (ms.map fun _ => true).map V.bool by simp]
      refine SC.all ?_
      (repeat walk_at "m.one")
      exact ⟨by simp, rfl⟩
  refine SS.ifX (decide ((bs.length : Int) > 12)) ?_ (fun _ => ?_) fun h => by simp at h; omega
  · (repeat walk_at "m.one")
    exact ⟨rfl, rfl⟩
  · refine SS.raise W (by (with_reducible (repeat (first | exact List.mem_cons_self | apply List.mem_cons_of_mem)))) (by (with_reducible (repeat (first | exact List.mem_cons_self | apply List.mem_cons_of_mem)))) (by kernel_rfl) ?_
    (repeat walk_at "m.one")
    exact q
theorem c_Machine_many (W : Wl c) {x : Str} {bs ms es : List V} (h1 : signsV (.str x) = true) (h2 : bs.length ≤ 10000) (h3 : rowV bs.length (.lst bs) = true) (h4 : rowV bs.length (.lst es) = true) (h5 : ms.length = x.length) (h6 : ∀ t ∈ ms, tabV bs.length t = true) (h7 : 12 < bs.length) (q : X p_TooMany η) :
    SC c (d + 6) true (.ref p_Machine) [.str x, .lst bs, .lst ms, .lst es] η Q X := by
  refine SC.frz (SC.make W (fI := m_Machine_init) (by kernel_rfl) (by kernel_rfl) (by kernel_rfl) fun a dd na nd ne => ?_)
  exact c_Machine_init_many W h1 h2 h3 h4 h5 h6 h7 ⟨(Ext.set nd).trans (Ext.set ((Hp.set_ne _ _ ne).trans na)), q⟩
theorem c_l_told_bad (W : Wl c) {v1 v2 v3 v4 : V} (b : Bad v1 v2 v3 v4) (q : Q (.tup [.str "refused", .str "machine"]) η) : SC c (d + 7) true (.ref l_told) [.lst [v1, v2, v3, v4]] η Q X := by
  ((refine SC.def2 (by assumption) (by rfl) (by kernel_rfl) (by kernel_rfl) (by rfl) (by rfl) ?_; dsimp only [initσ]))
  refine SS.tryN W (by (with_reducible (repeat (first | exact List.mem_cons_self | apply List.mem_cons_of_mem)))) (by (with_reducible (repeat (first | exact List.mem_cons_self | apply List.mem_cons_of_mem)))) (by (with_reducible (repeat (first | exact List.mem_cons_self | apply List.mem_cons_of_mem)))) (SN.ret ?_)
  refine SE.ccall W (by (with_reducible (repeat (first | exact List.mem_cons_self | apply List.mem_cons_of_mem)))) (by (with_reducible (repeat (first | exact List.mem_cons_self | apply List.mem_cons_of_mem)))) (by kernel_rfl) ?_
  (repeat walk_at "m.one")
  refine c_Machine_bad W b ⟨by kernel_rfl, _, by (with_reducible (repeat (first | exact Put.loc | exact Put.cell | apply Put.tail))), ?_⟩
  (repeat walk_at "m.one")
  exact c_l_word_of_NoMachine W q
theorem c_l_told_many (W : Wl c) {x : Str} {bs ms es : List V} (h1 : signsV (.str x) = true) (h2 : bs.length ≤ 10000) (h3 : rowV bs.length (.lst bs) = true) (h4 : rowV bs.length (.lst es) = true) (h5 : ms.length = x.length) (h6 : ∀ t ∈ ms, tabV bs.length t = true) (h7 : 12 < bs.length)
    (q : Q (.tup [.str "refused", .str "many"]) η) : SC c (d + 7) true (.ref l_told) [.lst [.str x, .lst bs, .lst ms, .lst es]] η Q X := by
  ((refine SC.def2 (by assumption) (by rfl) (by kernel_rfl) (by kernel_rfl) (by rfl) (by rfl) ?_; dsimp only [initσ]))
  refine SS.tryN W (by (with_reducible (repeat (first | exact List.mem_cons_self | apply List.mem_cons_of_mem)))) (by (with_reducible (repeat (first | exact List.mem_cons_self | apply List.mem_cons_of_mem)))) (by (with_reducible (repeat (first | exact List.mem_cons_self | apply List.mem_cons_of_mem)))) (SN.ret ?_)
  refine SE.ccall W (by (with_reducible (repeat (first | exact List.mem_cons_self | apply List.mem_cons_of_mem)))) (by (with_reducible (repeat (first | exact List.mem_cons_self | apply List.mem_cons_of_mem)))) (by kernel_rfl) ?_
  (repeat walk_at "m.one")
  refine c_Machine_many W h1 h2 h3 h4 h5 h6 h7 ⟨by kernel_rfl, _, by (with_reducible (repeat (first | exact Put.loc | exact Put.cell | apply Put.tail))), ?_⟩
  (repeat walk_at "m.one")
  exact c_l_word_of_TooMany W q
theorem c_l_told_good (W : Wl c) {x : Str} {bs ms es : List V} (ok : MachOk x bs ms es) (q : Q (machV x bs ms es) η) : SC c (d + 7) true (.ref l_told) [.lst [.str x, .lst bs, .lst ms, .lst es]] η Q X := by
  ((refine SC.def2 (by assumption) (by rfl) (by kernel_rfl) (by kernel_rfl) (by rfl) (by rfl) ?_; dsimp only [initσ]))
  refine SS.tryN W (by (with_reducible (repeat (first | exact List.mem_cons_self | apply List.mem_cons_of_mem)))) (by (with_reducible (repeat (first | exact List.mem_cons_self | apply List.mem_cons_of_mem)))) (by (with_reducible (repeat (first | exact List.mem_cons_self | apply List.mem_cons_of_mem)))) (SN.ret ?_)
  refine SE.ccall W (by (with_reducible (repeat (first | exact List.mem_cons_self | apply List.mem_cons_of_mem)))) (by (with_reducible (repeat (first | exact List.mem_cons_self | apply List.mem_cons_of_mem)))) (by kernel_rfl) ?_
  (repeat walk_at "m.one")
  exact c_Machine W ok q

theorem int_nat {i : Int} (h : 0 ≤ i) : ∃ k : Nat, i = k := ⟨i.toNat, by omega⟩
theorem rises_in : ∀ {l last : List Nat}, risesL last l = true → ∀ k ∈ l, k ∈ letters.cps.toList
  | [], _, _, k, hk => by cases hk
  | j :: l, last, h, k, hk => by
    unfold risesL at h
    simp only [Bool.and_eq_true, decide_eq_true_eq] at h
    rcases List.mem_cons.mp hk with rfl | hk
    · exact h.1.1
    · exact rises_in h.2 k hk
theorem rises_up : ∀ {l : List Nat} {k : Nat}, risesL [k] l = true → (k :: l).Pairwise (· < ·)
  | [], k, _ => by simp
  | j :: l, k, h => by
    unfold risesL at h
    simp only [Bool.and_eq_true, decide_eq_true_eq] at h
    have ih := rises_up h.2
    have kj : k < j := by
      rcases List.cons_lt_cons_iff.mp h.1.2 with e | ⟨_, e⟩
      · exact e
      · cases e
    refine List.pairwise_cons.mpr ⟨fun y hy => ?_, ih⟩
    rcases List.mem_cons.mp hy with rfl | hy
    · exact kj
    · exact Nat.lt_trans kj ((List.pairwise_cons.mp ih).1 y hy)
theorem rises_pair {l : List Nat} (h : risesL [] l = true) : l.Pairwise (· < ·) := by
  cases l with
  | nil => exact .nil
  | cons k l =>
    unfold risesL at h
    simp only [Bool.and_eq_true, decide_eq_true_eq] at h
    exact rises_up h.2
theorem signsV_not {y : Str} {k : Nat} (hk : k ∈ y.cps.toList) (h : k ∉ letters.cps.toList) : signsV (.str y) = false := by
  cases e : signsV (.str y) with
  | false => rfl
  | true =>
    unfold signsV at e
    simp only [Bool.and_eq_true, decide_eq_true_eq] at e
    exact absurd (rises_in e.2 k hk) h
theorem signsV_twice {y : Str} {a b : List Nat} {k : Nat} (e : y.cps.toList = a ++ b) (ha : k ∈ a) (hb : k ∈ b) : signsV (.str y) = false := by
  cases e' : signsV (.str y) with
  | false => rfl
  | true =>
    unfold signsV at e'
    simp only [Bool.and_eq_true, decide_eq_true_eq] at e'
    have := rises_pair e'.2
    rw [e] at this
    exact absurd ((List.pairwise_append.mp this).2.2 k ha k hb) (Nat.lt_irrefl _)
/-- no signs of a machine -/
noncomputable def NoSigns (v : V) : Prop := (isiT "str" v).isSome = true ∧ (∀ x, v = .str x → x.length ≤ 7) ∧ signsV v = false
noncomputable def noSignB (v : V) : Bool := (isiT "str" v).isSome && (match v with | .str x => decide (x.length ≤ 7) | _ => true) && !signsV v
theorem NoSigns.of {v : V} (h : noSignB v = true) : NoSigns v := by
  unfold noSignB at h
  simp only [Bool.and_eq_true, Bool.not_eq_true'] at h
  refine ⟨h.1.1, fun x e => ?_, h.2⟩
  subst e
  simpa using h.1.2
theorem takeS_list (k : Nat) (x : Str) : (takeS k x).cps.toList = x.cps.toList.take k := by unfold takeS; simp
theorem dropS_list (k : Nat) (x : Str) : (dropS k x).cps.toList = x.cps.toList.drop k := by unfold dropS; simp
theorem appS_list (x y : Str) : (x ++ y).cps.toList = x.cps.toList ++ y.cps.toList := by
  show (x.cps ++ y.cps).toList = _
  simp
theorem c_l_no_signs (W : Wl c) {m : Nat} {g : Nat → Nat} {a : Int} (hm : m ≤ 2) (q : ∀ v, NoSigns v → Q v η) : SC c (d + 1) true (.ref l_no_signs) [.int a, .str (signS m g)] η Q X := by
  have sl : sizeLine = 16777216 := by decide
  have np : ∀ a b : Int, b.natAbs < 2 ^ 9000 → Builtin.divisionGoesByPylong a b = false := fun a b h => noPylong_pow h
  have lx : (signS m g).length = m := by rw [wordS_len, List.length_range]
  have ll : (signS m g).cps.toList.length = m := by rw [wordS_list, List.length_map, List.length_range]
  generalize signS m g = x at lx ll
  ((refine SC.def2 (by assumption) (by rfl) (by kernel_rfl) (by kernel_rfl) (by rfl) (by rfl) ?_; dsimp only [initσ]))
  (repeat walk_at "m.one")
  have ho : (Str.ofString " !\"#$&'()*+,-./0123456789:;<=>?@ABCDEFGHIJKLMNOPQRSTUVWXYZ[\\]^_`{|}~").length = 68 ∧ (Str.ofString " !\"#$&'()*+,-./0123456789:;<=>?@ABCDEFGHIJKLMNOPQRSTUVWXYZ[\\]^_`{|}~").cps.toList.all (fun k => !decide (k ∈ letters.cps.toList)) = true := by decide +kernel
  generalize Str.ofString " !\"#$&'()*+,-./0123456789:;<=>?@ABCDEFGHIJKLMNOPQRSTUVWXYZ[\\]^_`{|}~" = oth at ho ⊢
  refine S2.divI (by decide) (np _ _ (by decide +kernel)) ?_
  (repeat walk_at "m.one")
  refine SC.len_str (by omega) ?_
  rw [lx]
  (repeat walk_at "m.one")
  refine S2.modI (by omega) ?_
  have r1 := fmod_range (a.fdiv 3) (b := (m : Int) + 1) (by omega)
  generalize (a.fdiv 3).fmod ((m : Int) + 1) = z at r1
  obtain ⟨k, rfl⟩ := int_nat r1.1
  (repeat walk_at "m.one")
  refine SS.ifX (a.fmod 3 == 1) ?_ (fun _ => ?_) fun _ => ?_
  · (repeat walk_at "m.one")
    refine S2.modI (by decide) ?_
    (repeat walk_at "m.one")
    exact ⟨rfl, rfl⟩
  · (repeat walk_at "m.one")
    refine SliceGoal.of (SE.sliceTo ?_)
    (repeat walk_at "m.one")
    refine ⟨x, k, rfl, rfl, by omega, ?_⟩
    (repeat walk_at "m.one")
    refine S2.divI (by decide) (np _ _ (by decide +kernel)) ?_
    (repeat walk_at "m.one")
    refine SC.len_str (by omega) ?_
    rw [ho.1]
    refine S2.modI (by decide) ?_
    have r2 := fmod_range (a.fdiv 12) (b := ((68 : Nat) : Int)) (by decide)
    generalize (a.fdiv 12).fmod ((68 : Nat) : Int) = z at r2
    obtain ⟨i, rfl⟩ := int_nat r2.1
    have hi : i < oth.cps.size := by have : oth.cps.size = 68 := ho.1; omega
    refine S2.item_str (u := oth.cps[i]) (by rw [Array.getElem?_eq_getElem hi]) (by have := ho.1; omega) ?_
    have no : oth.cps[i] ∉ letters.cps.toList := by
      have := List.all_eq_true.mp ho.2 oth.cps[i] (by simp)
      simpa using this
    generalize oth.cps[i] = u at no
    have lt := takeS_le k x
    have ld := dropS_le k x
    have lu : (sgn u).length = 1 := rfl
    refine S2.addS (by omega) ?_
    refine SliceGoal.of (SE.sliceFrom ?_)
    (repeat walk_at "m.one")
    refine ⟨x, k, rfl, rfl, by omega, ?_⟩
    refine S2.addS (by rw [Str.length_append]; omega) ?_
    refine q _ ⟨rfl, fun y e => ?_, signsV_not (k := u) ?_ no⟩
    · cases e; rw [Str.length_append, Str.length_append]; omega
    · rw [appS_list, appS_list]
      exact List.mem_append.mpr (.inl (List.mem_append.mpr (.inr (List.mem_singleton.mpr rfl))))
  refine SS.ifX (a.fmod 3 == 2 && decide (((k : Nat) : Int) < ((m : Nat) : Int))) (TP.and ?_ fun _ => ?_) (fun h => ?_) fun _ => ?_
  · (repeat walk_at "m.one")
    refine S2.modI (by decide) ?_
    (repeat walk_at "m.one")
    exact ⟨rfl, rfl⟩
  · (repeat walk_at "m.one")
    refine SC.len_str (by omega) ?_
    rw [lx]
    (repeat walk_at "m.one")
    exact ⟨rfl, rfl⟩
  · have hk : k < m := by
      simp only [Bool.and_eq_true, decide_eq_true_eq] at h
      omega
    have t1 := takeS_le (k + 1) x
    have t2 := dropS_le k x
    have i1 : x.cps.toList[k] ∈ x.cps.toList.take (k + 1) := List.mem_take_iff_getElem.mpr ⟨k, by omega, rfl⟩
    have i2 : x.cps.toList[k] ∈ x.cps.toList.drop k := by rw [List.drop_eq_getElem_cons (by omega)]; exact .head _
    (repeat walk_at "m.one")
    refine SliceGoal.of (SE.sliceTo ?_)
    (repeat walk_at "m.one")
    refine ⟨x, k + 1, rfl, rfl, by omega, ?_⟩
    (repeat walk_at "m.one")
    refine SliceGoal.of (SE.sliceFrom ?_)
    (repeat walk_at "m.one")
    refine ⟨x, k, rfl, rfl, by omega, ?_⟩
    refine S2.addS (by omega) ?_
    (repeat walk_at "m.one")
    refine SliceGoal.of (SE.sliceFrom ?_)
    (repeat walk_at "m.one")
    refine ⟨x, k, rfl, rfl, by omega, ?_⟩
    (repeat walk_at "m.one")
    refine SliceGoal.of (SE.sliceTo ?_)
    (repeat walk_at "m.one")
    refine ⟨x, k + 1, rfl, rfl, by omega, ?_⟩
    refine S2.addS (by omega) ?_
    (repeat walk_at "m.one")
    refine S2.divI (by decide) (np _ _ (by decide +kernel)) ?_
    (repeat walk_at "m.one")
    refine S2.modI (by decide) ?_
    have r2 := fmod_range (a.fdiv 12) (b := 2) (by decide)
    generalize (a.fdiv 12).fmod 2 = z at r2
    obtain ⟨i, rfl⟩ := int_nat r2.1
    have hi : i < 2 := by omega
    match i, hi with
    | 0, _ =>
      refine S2.item_lst (k := 0) (by rfl) ?_
      refine q _ ⟨rfl, fun y e => by cases e; rw [Str.length_append]; omega, signsV_twice (a := x.cps.toList.take (k + 1)) (b := x.cps.toList.drop k) (by rw [appS_list, takeS_list, dropS_list]) i1 i2⟩
    | 1, _ =>
      refine S2.item_lst (k := 1) (by rfl) ?_
      refine q _ ⟨rfl, fun y e => by cases e; rw [Str.length_append]; omega, signsV_twice (a := x.cps.toList.drop k) (b := x.cps.toList.take (k + 1)) (by rw [appS_list, takeS_list, dropS_list]) i2 i1⟩
  (repeat walk_at "m.one")
  refine S2.divI (by decide) (np _ _ (by decide +kernel)) ?_
  (repeat walk_at "m.one")
  refine S2.modI (by decide) ?_
  have r2 := fmod_range (a.fdiv 3) (b := 12) (by decide)
  generalize (a.fdiv 3).fmod 12 = z at r2
  obtain ⟨i, rfl⟩ := int_nat r2.1
  have key : ∀ {e j : Expr} {vs : List V}, vs.length = 12 → vs.all noSignB = true → notSlice j = true → S2 c d true (subscriptTail e j) (V.lst vs) (V.int i) η Q X := fun {e j vs} hl ha hs => by
    have hk : i < vs.length := by omega
    exact S2.item_lst (u := vs[i]) (List.getElem?_eq_getElem hk) (q _ (NoSigns.of (List.all_eq_true.mp ha _ (List.getElem_mem hk)))) hs
  exact key (by rfl) (by decide +kernel) (by rfl)

/-- no row of n places -/
noncomputable def NoRow (n : Nat) (v : V) : Prop := isiT "list" v = some false ∨ ∃ vs, v = .lst vs ∧ vs.length ≤ n + 1 ∧ (∀ x ∈ vs, okT x = true) ∧ (vs.all shareV = false ∨ vs.length = n + 1)
theorem okR_other {v : V} (h : isiT "list" v = some false) : okR v = true := by
  cases v <;> first | (simp [okR, h]; done) | (simp [isiT] at h; done)
theorem okTab_other {v : V} (h : isiT "list" v = some false) : okTab v = true := by
  cases v <;> first | (simp [okTab, h]; done) | (simp [isiT] at h; done)
theorem rowV_other {n : Nat} {v : V} (h : isiT "list" v = some false) : rowV n v = false := by
  cases v <;> first | rfl | (simp [isiT] at h; done)
theorem tabV_other {n : Nat} {v : V} (h : isiT "list" v = some false) : tabV n v = false := by
  cases v <;> first | rfl | (simp [isiT] at h; done)
theorem NoRow.ok {n : Nat} {v : V} (hn : n ≤ 100) (h : NoRow n v) : okR v = true := by
  rcases h with h | ⟨vs, rfl, h1, h2, _⟩
  · exact okR_other h
  · unfold okR; dsimp only
    rw [decide_eq_true (by omega), Bool.true_and, List.all_eq_true]; exact h2
theorem NoRow.not {n : Nat} {v : V} (h : NoRow n v) : rowV n v = false := by
  rcases h with h | ⟨vs, rfl, h1, h2, h3⟩
  · exact rowV_other h
  · unfold rowV; dsimp only
    rcases h3 with h3 | h3
    · rw [h3, Bool.and_false]
    · rw [decide_eq_false (by omega), Bool.false_and]
noncomputable def badB (v : V) : Bool := okT v && !shareV v
theorem row_okT {n : Nat} {r : Nat → Int} {D : Int} : ∀ x ∈ rowS n r D, okT x = true := fun x hx => by
  obtain ⟨k, _, rfl⟩ := List.mem_map.mp hx; rfl
theorem c_l_no_row (W : Wl c) {n : Nat} {r : Nat → Int} {D a : Int} (hn : n ≤ 12) (q : ∀ v, NoRow n v → (∀ η', Lin η' v) → Q v η) : SC c (d + 1) true (.ref l_no_row) [.int a, .lst (rowS n r D)] η Q X := by
  have sl : sizeLine = 16777216 := by decide
  have np : ∀ a b : Int, b.natAbs < 2 ^ 9000 → Builtin.divisionGoesByPylong a b = false := fun a b h => noPylong_pow h
  have lr : (rowS n r D).length = n := by simp
  have rk := row_okT (n := n) (r := r) (D := D)
  have rl : ∀ η' : Hp, ∀ v ∈ rowS n r D, Lin η' v := fun η' v hv => by
    obtain ⟨k, _, rfl⟩ := List.mem_map.mp hv
    exact ⟨trivial, trivial, trivial⟩
  generalize rowS n r D = R at lr rk rl
  ((refine SC.def2 (by assumption) (by rfl) (by kernel_rfl) (by kernel_rfl) (by rfl) (by rfl) ?_; dsimp only [initσ]))
  (repeat walk_at "m.one")
  refine S2.divI (by decide) (np _ _ (by decide +kernel)) ?_
  (repeat walk_at "m.one")
  refine S2.modI (by decide) ?_
  have r1 := fmod_range (a.fdiv 5) (b := 12) (by decide)
  generalize (a.fdiv 5).fmod 12 = z at r1
  obtain ⟨i, rfl⟩ := int_nat r1.1
  have key : ∀ {e j : Expr} {vs : List V} {Q : V → Hp → Prop} {X : Addr → Hp → Prop}, vs.length = 12 → vs.all badB = true → notSlice j = true → (∀ η' : Hp, ∀ v ∈ vs, Lin η' v) → (∀ v, okT v = true → shareV v = false → (∀ η', Lin η' v) → Q v η) → S2 c d true (subscriptTail e j) (V.lst vs) (V.int i) η Q X := fun {e j vs Q X} hl ha hs hlin k => by
    have hk : i < vs.length := by omega
    have := List.all_eq_true.mp ha _ (List.getElem_mem hk)
    unfold badB at this
    simp only [Bool.and_eq_true, Bool.not_eq_true'] at this
    exact S2.item_lst (u := vs[i]) (List.getElem?_eq_getElem hk) (k _ this.1 this.2 fun η' => hlin η' _ (List.getElem_mem hk)) hs
  refine key (by rfl) (by decide +kernel) (by rfl) (fun η' v hv => ?_) fun bad b1 b2 b3 => ?_
  · simp only [List.mem_cons, List.not_mem_nil, or_false] at hv
    rcases hv with rfl | rfl | rfl | rfl | rfl | rfl | rfl | rfl | rfl | rfl | rfl | rfl <;> simp [Lin, Lins]
  clear key
  (repeat walk_at "m.one")
  refine S2.divI (by decide) (np _ _ (by decide +kernel)) ?_
  (repeat walk_at "m.one")
  rw [lr]
  refine S2.modI (by omega) ?_
  have r2 := fmod_range (a.fdiv 60) (b := (n : Int) + 1) (by omega)
  generalize (a.fdiv 60).fmod ((n : Int) + 1) = z at r2
  obtain ⟨k, rfl⟩ := int_nat r2.1
  (repeat walk_at "m.one")
  refine SliceGoal.of (SE.sliceToT ?_)
  (repeat walk_at "m.one")
  refine ⟨R, k, rfl, rfl, by omega, ?_⟩
  (repeat walk_at "m.one")
  refine S2.addL (by simp only [List.length_take, List.length_cons, List.length_nil]; omega) ?_
  refine SliceGoal.of (SE.sliceFromT ?_)
  (repeat walk_at "m.one")
  refine ⟨R, k + 1, rfl, rfl, ?_⟩
  refine S2.addL (by simp only [List.length_append, List.length_take, List.length_drop, List.length_cons, List.length_nil]; omega) ?_
  (repeat walk_at "m.one")
  refine S2.addL (by simp only [List.length_cons, List.length_nil]; omega) ?_
  (repeat walk_at "m.one")
  refine SC.tupleOf ?_
  (repeat walk_at "m.one")
  refine SliceGoal.of (SE.sliceToT ?_)
  (repeat walk_at "m.one")
  refine ⟨R, k, rfl, rfl, by omega, ?_⟩
  (repeat walk_at "m.one")
  refine S2.addL (by simp only [List.length_take, List.length_cons, List.length_nil]; omega) ?_
  refine SliceGoal.of (SE.sliceFromT ?_)
  (repeat walk_at "m.one")
  refine ⟨R, k, rfl, rfl, ?_⟩
  refine S2.addL (by simp only [List.length_append, List.length_take, List.length_drop, List.length_cons, List.length_nil]; omega) ?_
  (repeat walk_at "m.one")
  refine S2.modI (by decide) ?_
  have r3 := fmod_range a (b := 5) (by decide)
  generalize a.fmod 5 = z at r3
  obtain ⟨j, rfl⟩ := int_nat r3.1
  have hj : j < 5 := by omega
  have mid : ∀ k', NoRow n (.lst (R.take k ++ [bad] ++ R.drop (k + k'))) := fun k' => by
    refine .inr ⟨_, rfl, by simp only [List.length_append, List.length_take, List.length_drop, List.length_cons, List.length_nil]; omega, fun x hx => ?_, .inl ?_⟩
    · rcases List.mem_append.mp hx with hx | hx
      · rcases List.mem_append.mp hx with hx | hx
        · exact rk x (List.mem_of_mem_take hx)
        · simp at hx; subst hx; exact b1
      · exact rk x (List.mem_of_mem_drop hx)
    · rw [List.all_append, List.all_append]
      simp [b2]
  have midl : ∀ k', ∀ η', Lin η' (.lst (R.take k ++ [bad] ++ R.drop (k + k'))) := fun k' η' => lins_of fun x hx => by
    rcases List.mem_append.mp hx with hx | hx
    · rcases List.mem_append.mp hx with hx | hx
      · exact rl η' x (List.mem_of_mem_take hx)
      · simp at hx; subst hx; exact b3 η'
    · exact rl η' x (List.mem_of_mem_drop hx)
  match j, hj with
  | 0, _ => exact S2.item_lst (k := 0) (by rfl) (q _ (mid 1) (midl 1))
  | 1, _ =>
    refine S2.item_lst (k := 1) (by rfl) (q _ (.inr ⟨_, rfl, by simp; omega, fun x hx => ?_, .inr (by simp; omega)⟩) fun η' => lins_of fun x hx => ?_)
    · rcases List.mem_append.mp hx with hx | hx
      · exact rk x hx
      · simp at hx; subst hx; rfl
    · rcases List.mem_append.mp hx with hx | hx
      · exact rl η' x hx
      · simp at hx; subst hx; exact ⟨trivial, trivial, trivial⟩
  | 2, _ => exact S2.item_lst (k := 2) (by rfl) (q .none (.inl rfl) fun _ => trivial)
  | 3, _ => exact S2.item_lst (k := 3) (by rfl) (q (.tup R) (.inl rfl) fun η' => show Lins η' R from lins_of (rl η'))
  | 4, _ => exact S2.item_lst (k := 4) (by rfl) (q _ (mid 0) (midl 0))

theorem rows_okR {n : Nat} {T : Nat → Nat → Int} {D : Int} (hn : n ≤ 100) (hD : 0 < D) : ∀ x ∈ tabS n T D, okR x = true := fun x hx => by
  obtain ⟨i, _, rfl⟩ := List.mem_map.mp hx
  exact rowV_ok (m := n) (by omega) (rowV_of hD)
theorem okTab_of {vs : List V} (hl : vs.length ≤ 10000) (h : ∀ x ∈ vs, okR x = true) : okTab (.lst vs) = true := by
  unfold okTab; dsimp only
  rw [decide_eq_true hl, Bool.true_and, List.all_eq_true]; exact h
/-- a table that is none -/
noncomputable def NoTab (n : Nat) (v : V) : Prop := okTab v = true ∧ tabV n v = false
theorem NoTab.other {n : Nat} {v : V} (h : isiT "list" v = some false) : NoTab n v := ⟨okTab_other h, tabV_other h⟩
theorem NoTab.len {n : Nat} {vs : List V} (hl : vs.length ≤ 10000) (h : ∀ x ∈ vs, okR x = true) (hn : vs.length ≠ n) : NoTab n (.lst vs) :=
  ⟨okTab_of hl h, by unfold tabV; dsimp only; rw [decide_eq_false hn, Bool.false_and]⟩
theorem NoTab.row {n : Nat} {vs : List V} {v : V} (hl : vs.length ≤ 10000) (h : ∀ x ∈ vs, okR x = true) (hv : v ∈ vs) (hr : rowV n v = false) : NoTab n (.lst vs) := by
  refine ⟨okTab_of hl h, ?_⟩
  unfold tabV; dsimp only
  rw [show vs.all (rowV n) = false from ?_, Bool.and_false]
  cases e : vs.all (rowV n) with
  | false => rfl
  | true => rw [List.all_eq_true] at e; rw [e v hv] at hr; cases hr
theorem all_not {α : Type} {f : α → Bool} {l : List α} {x : α} (hx : x ∈ l) (h : f x = false) : l.all f = false := by
  cases e : l.all f with
  | false => rfl
  | true => rw [List.all_eq_true] at e; rw [e x hx] at h; cases h
theorem c_l_spoilt (W : Wl c) {m n : Nat} {g : Nat → Nat} {b e : Nat → Int} {T : Nat → Nat → Nat → Int} {p r s a : Int} (sg : Sg m g) (hm : m ≤ 2) (hn : n ≤ 3) (sc : Sc p r s)
    (q : ∀ v1 v2 v3 v4, Bad v1 v2 v3 v4 → Q (.lst [v1, v2, v3, v4]) η) : SC c (d + 2) true (.ref l_spoilt) [partsV (signS m g) m n b T e p r s, .int a] η Q X := by
  have sl : sizeLine = 16777216 := by decide
  have np : ∀ a b : Int, b.natAbs < 2 ^ 9000 → Builtin.divisionGoesByPylong a b = false := fun a b h => noPylong_pow h
  have okS := signsV_of sg (show m ≤ 6 by omega)
  have lx : (signS m g).length = m := by rw [wordS_len, List.length_range]
  have lB : (rowS n b p).length = n := by simp
  have okB : rowV (rowS n b p).length (.lst (rowS n b p)) = true := by rw [lB]; exact rowV_of sc.p0
  have okE : rowV (rowS n b p).length (.lst (rowS n e s)) = true := by rw [lB]; exact rowV_of sc.s0
  have late : ∀ {v3 v4}, Late m n v3 v4 → Bad (.str (signS m g)) (.lst (rowS n b p)) v3 v4 := fun {v3 v4} h => .late okS (by omega) okB (by rw [lx, lB]; exact h)
  have okE' : rowV n (.lst (rowS n e s)) = true := rowV_of sc.s0
  ((refine SC.def2 (by assumption) (by rfl) (by kernel_rfl) (by kernel_rfl) (by rfl) (by rfl) ?_; dsimp only [initσ]))
  refine SS.assign4L ?_
  (repeat walk_at "m.one")
  refine ⟨_, _, _, _, rfl, _, _, _, _, by (with_reducible (repeat (first | exact Put.loc | exact Put.cell | apply Put.tail))), by (with_reducible (repeat (first | exact Put.loc | exact Put.cell | apply Put.tail))), by (with_reducible (repeat (first | exact Put.loc | exact Put.cell | apply Put.tail))), by (with_reducible (repeat (first | exact Put.loc | exact Put.cell | apply Put.tail))), ?_⟩
  (repeat walk_at "m.one")
  refine S2.modI (by decide) ?_
  (repeat walk_at "m.one")
  refine S2.divI (by decide) (np _ _ (by decide +kernel)) ?_
  (repeat walk_at "m.one")
  generalize a.fmod 5 = way
  generalize a.fdiv 5 = more
  refine SS.ifX (way == 0) ?_ (fun _ => ?_) fun _ => ?_
  · (repeat walk_at "m.one")
    exact ⟨rfl, rfl⟩
  · (repeat walk_at "m.one")
    refine c_l_no_signs W hm fun v nv => ?_
    refine A.put ?_
    refine SS.assignComp ["_law_room"] none (by (with_reducible (repeat (first | exact CapR.nil | apply CapR.own (by decide) | apply CapR.cap (by repeat (first | exact At.head | apply At.tail)) | apply CapR.capF (by repeat (first | exact At.head | apply At.tail)))))) (.inl (by (with_reducible (repeat (first | exact List.mem_cons_self | apply List.mem_cons_of_mem))))) ?_
    (repeat walk_at "m.one")
    refine ⟨_, SI.lst, range_len (by omega), CompL.mapN (g := fun _ => .lst (rowS n (fun _ => 0) 1)) (fun k hk => ⟨_, by (with_reducible (repeat (first | exact Put.loc | exact Put.cell | apply Put.tail))), by simp [Less], ?_⟩) ?_⟩
    · (repeat walk_at "m.one")
      refine S2.mulL (by simp <;> omega) (by simp <;> omega) (by simp <;> omega) ?_
      simp only [List.length_map, List.length_range, Int.toNat_natCast]
      rw [noughts (D := 1) (by decide)]
      exact ⟨rfl, trivial⟩
    rw [List.nil_append]
    refine A.put ?_
    by_cases hs : ∃ y, v = .str y
    · obtain ⟨y, rfl⟩ := hs
      have ly := nv.2.1 y rfl
      refine SS.if ?_
      (repeat (first | walk_at "m.one" | with_reducible (first | refine SS.if ?_ | refine SS.while ?_ | refine ST.not ?_ | refine ST.boolop ?_ | (show ite _ _ _; first | refine iteT ?_ | refine iteF ?_ | refine iteNT ?_ | refine iteNF ?_))))
      refine SC.isi (b := true) (by rfl) ?_
      (repeat (first | walk_at "m.one" | with_reducible (first | refine SS.if ?_ | refine SS.while ?_ | refine ST.not ?_ | refine ST.boolop ?_ | (show ite _ _ _; first | refine iteT ?_ | refine iteF ?_ | refine iteNT ?_ | refine iteNF ?_))))
      refine SliceGoal.of (SE.sliceToT ?_)
      (repeat walk_at "m.one")
      refine S2.mulL (by simp <;> omega) (by simp <;> omega) (by simp <;> omega) ?_
      refine S2.addL (by simp <;> omega) ?_
      (repeat walk_at "m.one")
      refine SC.len_str (by omega) ?_
      refine ⟨_, _, rfl, rfl, ?_, ?_⟩
      · simp; omega
      (repeat (first | walk_at "m.one" | with_reducible (first | refine SS.if ?_ | refine SS.while ?_ | refine ST.not ?_ | refine ST.boolop ?_ | (show ite _ _ _; first | refine iteT ?_ | refine iteF ?_ | refine iteNT ?_ | refine iteNF ?_))))
      exact q _ _ _ _ (.signs nv.1 (fun x e => by cases e; omega) nv.2.2)
    · have e : isiT "str" v = some false := by
        have := nv.1
        cases v <;> first | rfl | (exact absurd ⟨_, rfl⟩ hs) | (simp [isiT] at this; done)
      refine SS.if ?_
      (repeat (first | walk_at "m.one" | with_reducible (first | refine SS.if ?_ | refine SS.while ?_ | refine ST.not ?_ | refine ST.boolop ?_ | (show ite _ _ _; first | refine iteT ?_ | refine iteF ?_ | refine iteNT ?_ | refine iteNF ?_))))
      refine SC.isi e ?_
      (repeat (first | walk_at "m.one" | with_reducible (first | refine SS.if ?_ | refine SS.while ?_ | refine ST.not ?_ | refine ST.boolop ?_ | (show ite _ _ _; first | refine iteT ?_ | refine iteF ?_ | refine iteNT ?_ | refine iteNF ?_))))
      exact q _ _ _ _ (.signs nv.1 (fun x e => absurd ⟨x, e⟩ hs) nv.2.2)
  refine SS.ifX (way == 1) ?_ (fun _ => ?_) fun _ => ?_
  · (repeat walk_at "m.one")
    exact ⟨rfl, rfl⟩
  · (repeat walk_at "m.one")
    refine c_l_no_row W (by omega) fun v nv vl => ?_
    (repeat walk_at "m.one")
    refine q _ _ _ _ ?_
    rcases nv with nv | ⟨vs, rfl, h1, h2, h3⟩
    · exact .begins okS nv
    · have ok : okR (.lst vs) = true := NoRow.ok (n := n) (by omega) (.inr ⟨vs, rfl, h1, h2, h3⟩)
      cases e3 : rowV vs.length (.lst vs) with
      | false => exact .row okS ok e3
      | true =>
        have h4 : vs.length = n + 1 := by
          rcases h3 with h3 | h3
          · unfold rowV at e3; dsimp only at e3; rw [h3, Bool.and_false] at e3; cases e3
          · exact h3
        refine .late okS (by omega) e3 (.ends (rowV_ok (m := n) (by omega) okE') ?_)
        unfold rowV; dsimp only
        rw [decide_eq_false (by simp; omega), Bool.false_and]
  refine SS.ifX (way == 2) ?_ (fun _ => ?_) fun _ => ?_
  · (repeat walk_at "m.one")
    exact ⟨rfl, rfl⟩
  · (repeat walk_at "m.one")
    refine c_l_no_row W (by omega) fun v nv vl => ?_
    (repeat walk_at "m.one")
    exact q _ _ _ _ (late (.ends (nv.ok (by omega)) nv.not))
  have lM : (tabsS m n T r).length = m := by simp
  refine SS.ifX (way == 3 || decide (m = 0) || decide (n = 0)) (TP.or3 ?_ (fun _ => ?_) fun _ _ => ?_) (fun _ => ?_) fun h => ?_
  · (repeat walk_at "m.one")
    exact ⟨rfl, rfl⟩
  · (repeat walk_at "m.one")
    refine S2.tabsNil ?_
    (repeat walk_at "m.one")
    exact ⟨rfl, rfl⟩
  · (repeat walk_at "m.one")
    refine S2.rowNil ?_
    (repeat walk_at "m.one")
    exact ⟨rfl, rfl⟩
  · (repeat walk_at "m.one")
    refine S2.addL (by simp <;> omega) ?_
    (repeat walk_at "m.one")
    refine SC.tupleOf ?_
    (repeat walk_at "m.one")
    refine S2.addL (by simp <;> omega) ?_
    (repeat walk_at "m.one")
    refine S2.modI (by decide) ?_
    have r3 := fmod_range more (b := 5) (by decide)
    generalize more.fmod 5 = z at r3
    obtain ⟨j, rfl⟩ := int_nat r3.1
    have hj : j < 5 := by omega
    match j, hj with
    | 0, _ =>
      refine S2.item_lst (k := 0) (by rfl) ?_
      (repeat walk_at "m.one")
      exact q _ _ _ _ (late (.many okE' (by simp)))
    | 1, _ =>
      refine S2.item_lst (k := 1) (by rfl) ?_
      (repeat walk_at "m.one")
      exact q _ _ _ _ (late (.moves okE' rfl))
    | 2, _ =>
      refine S2.item_lst (k := 2) (by rfl) ?_
      (repeat walk_at "m.one")
      exact q _ _ _ _ (late (.moves okE' rfl))
    | 3, _ =>
      refine S2.item_lst (k := 3) (by rfl) ?_
      (repeat walk_at "m.one")
      exact q _ _ _ _ (late (.many okE' (by simp)))
    | 4, _ =>
      refine S2.item_lst (k := 4) (by rfl) ?_
      (repeat walk_at "m.one")
      refine q _ _ _ _ (late ?_)
      by_cases h1 : m = 1
      · subst h1
        have nt : NoTab n (.lst (tabsS 1 n T r)) := by
          have ok : ∀ x ∈ tabsS 1 n T r, okR x = true := fun x hx => by
            obtain ⟨i, _, rfl⟩ := List.mem_map.mp hx
            unfold okR; dsimp only
            rw [decide_eq_true (by simp; omega), Bool.true_and, List.all_eq_true]
            intro y hy
            obtain ⟨k, _, rfl⟩ := List.mem_map.mp hy; rfl
          by_cases h2 : n = 1
          · subst h2
            exact .row (v := .lst (tabS 1 (T 0) r)) (by simp) ok (.head _) rfl
          · exact .len (by simp) ok (by simp; omega)
        refine .table okE' rfl (fun t ht => ?_) (all_not (x := V.lst (tabsS 1 n T r)) (.head _) nt.2)
        simp only [List.mem_cons, List.not_mem_nil, or_false] at ht
        subst ht; exact nt.1
      · exact .many okE' (by simp; omega)
  have h' : m ≠ 0 ∧ n ≠ 0 := by
    simp only [Bool.or_eq_false_iff, decide_eq_false_iff_not] at h
    exact ⟨h.1.2, h.2⟩
  (repeat walk_at "m.one")
  rw [lM]
  refine S2.modI (by omega) ?_
  have r1 := fmod_range more (b := (m : Int)) (by omega)
  generalize more.fmod (m : Int) = z at r1
  obtain ⟨i, rfl⟩ := int_nat r1.1
  have hi : i < m := by omega
  (repeat walk_at "m.one")
  refine S2.divI (by decide) (np _ _ (by decide +kernel)) ?_
  (repeat walk_at "m.one")
  rw [lB]
  refine S2.modI (by omega) ?_
  have r2 := fmod_range (more.fdiv 7) (b := (n : Int)) (by omega)
  generalize (more.fdiv 7).fmod (n : Int) = z at r2
  obtain ⟨j, rfl⟩ := int_nat r2.1
  have hj : j < n := by omega
  refine A.put ?_
  have tOk := rows_okR (n := n) (T := T i) (D := r) (by omega) sc.r0
  have tL : (tabS n (T i) r).length = n := by simp
  -- the table, one line of it other
  refine SS.frz2 ?_
  (repeat walk_at "m.one")
  refine S2.item_lst (range_get _ hi) ?_
  (repeat walk_at "m.one")
  refine SC.listM fun ad na => ?_
  refine A.put ?_
  refine SS.setitem ?_
  (repeat walk_at "m.one")
  refine S2.divI (by decide) (np _ _ (by decide +kernel)) ?_
  (repeat walk_at "m.one")
  refine S2.item_any (.loc (Hp.set_self ..)) (range_get _ hj) ?_
  (repeat walk_at "m.one")
  refine c_l_no_row W (by omega) fun v nv vl => ?_
  (repeat walk_at "m.one")
  refine ⟨ad, _, j, rfl, rfl, Hp.set_self .., by rw [tL]; exact hj, ?_⟩
  rw [Hp.set_set]
  have tl : ∀ x ∈ tabS n (T i) r, Lin η x := fun x hx => by
    obtain ⟨k, _, rfl⟩ := List.mem_map.mp hx
    exact row_lin
  have sOk : ∀ x ∈ (tabS n (T i) r).set j v, okR x = true := fun x hx => by
    rcases List.mem_or_eq_of_mem_set hx with hx | rfl
    · exact tOk x hx
    · exact nv.ok (by omega)
  have vin : v ∈ (tabS n (T i) r).set j v := by
    have hj' : j < (tabS n (T i) r).length := by rw [tL]; exact hj
    exact List.mem_iff_getElem.mpr ⟨j, by rw [List.length_set]; exact hj', List.getElem_set_self ..⟩
  refine SS.nil ⟨Ext.set na, [some (partsV (signS m g) m n b T e p r s), some (.int a), some (.str (signS m g)), some (.lst (rowS n b p)), some (.lst (tabsS m n T r)), some (.lst (rowS n e s)), some (.int way), some (.int more), none, none, none, some (.int (i : Nat)), some (.int (j : Nat)), some (.lst ((tabS n (T i) r).set j v)), none, none, none, none, none, none, none], ?_, ?_⟩
  · have ml : Lins η (tabsS m n T r) := lins_of fun x hx => by
      obtain ⟨k, _, rfl⟩ := List.mem_map.mp hx
      refine lins_of fun y hy => ?_
      obtain ⟨l, _, rfl⟩ := List.mem_map.mp hy
      exact row_lin
    refine .some (.keep ⟨trivial, row_lin, ml, row_lin, trivial⟩) (.some (.keep trivial) (.some (.keep trivial) (.some (.keep row_lin) (.some (.keep ml) (.some (.keep row_lin) (.some (.keep trivial) (.some (.keep trivial) (.none (.none (.none (.some (.keep trivial) (.some (.keep trivial) (.some (.lst (Hp.set_self ..) na (Frzs.keep ?_)) ?_)))))))))))))
    · refine lins_of fun x hx => ?_
      rcases List.mem_or_eq_of_mem_set hx with hx | rfl
      · exact tl x hx
      · exact vl η
    · repeat (first | exact FrzF.nil | apply FrzF.none)
  generalize hS : (tabS n (T i) r).set j v = S at sOk vin
  have lS : S.length = n := by rw [← hS, List.length_set, tL]
  have nt0 : NoTab n (.lst S) := .row (by omega) sOk vin nv.not
  have fin : ∀ tv, NoTab n tv → Bad (.str (signS m g)) (.lst (rowS n b p)) (.lst ((tabsS m n T r).take i ++ [tv] ++ (tabsS m n T r).drop (i + 1))) (.lst (rowS n e s)) := fun tv nt => by
    have mOk : ∀ t ∈ tabsS m n T r, okTab t = true := fun t ht => by
      obtain ⟨k, _, rfl⟩ := List.mem_map.mp ht
      exact tabV_ok (m := n) (by omega) (tabV_of sc.r0)
    refine late (.table okE' (by simp only [List.length_append, List.length_take, List.length_drop, lM, List.length_cons, List.length_nil]; omega) (fun t ht => ?_) (all_not (x := tv) (by simp) nt.2))
    rcases List.mem_append.mp ht with ht | ht
    · rcases List.mem_append.mp ht with ht | ht
      · exact mOk t (List.mem_of_mem_take ht)
      · simp at ht; subst ht; exact nt.1
    · exact mOk t (List.mem_of_mem_drop ht)
  refine SS.if ?_
  (repeat walk_at "m.one")
  refine S2.divI (by decide) (np _ _ (by decide +kernel)) ?_
  (repeat walk_at "m.one")
  refine S2.modI (by decide) ?_
  (repeat walk_at "m.one")
  refine iteS (fun _ => ?_) fun _ => ?_
  · (repeat walk_at "m.one")
    refine SliceGoal.of (SE.sliceToT ?_)
    (repeat walk_at "m.one")
    refine ⟨_, j, rfl, rfl, by omega, ?_⟩
    (repeat walk_at "m.one")
    refine S2.item_lst (range_get _ hi) ?_
    (repeat walk_at "m.one")
    refine S2.item_lst (range_get _ hi) ?_
    (repeat walk_at "m.one")
    refine S2.item_lst (range_get _ hj) ?_
    (repeat walk_at "m.one")
    refine S2.addL (by simp <;> omega) ?_
    (repeat walk_at "m.one")
    refine S2.item_lst (range_get _ hi) ?_
    (repeat walk_at "m.one")
    refine SC.tupleOf ?_
    (repeat walk_at "m.one")
    refine S2.divI (by decide) (np _ _ (by decide +kernel)) ?_
    (repeat walk_at "m.one")
    refine S2.modI (by decide) ?_
    have r4 := fmod_range (more.fdiv 12) (b := 4) (by decide)
    generalize (more.fdiv 12).fmod 4 = z at r4
    obtain ⟨l, rfl⟩ := int_nat r4.1
    have key : ∀ {e j : Expr} {vs : List V} {Q : V → Hp → Prop} {X : Addr → Hp → Prop}, vs.length = 4 → (∀ v ∈ vs, NoTab n v) → notSlice j = true → (∀ v, NoTab n v → Q v η) → S2 c (d + 1) true (subscriptTail e j) (V.lst vs) (V.int l) η Q X := fun {e j vs Q X} hl ha hs k => by
      have hk : l < vs.length := by omega
      exact S2.item_lst (u := vs[l]) (List.getElem?_eq_getElem hk) (k _ (ha _ (List.getElem_mem hk))) hs
    refine key (by rfl) (fun v hv => ?_) (by rfl) fun tv nt => ?_
    · simp only [List.mem_cons, List.not_mem_nil, or_false] at hv
      rcases hv with rfl | rfl | rfl | rfl
      · exact .len (by rw [List.length_take]; omega) (fun x hx => sOk x (List.mem_of_mem_take hx)) (by rw [List.length_take]; omega)
      · refine .len (by simp; omega) (fun x hx => ?_) (by simp)
        rcases List.mem_append.mp hx with hx | hx
        · exact tOk x hx
        · simp only [List.mem_cons, List.not_mem_nil, or_false] at hx
          subst hx
          exact rowV_ok (m := n) (by omega) (rowV_of sc.r0)
      · exact .other rfl
      · exact .other rfl
    clear key
    (repeat walk_at "m.one")
    refine SliceGoal.of (SE.sliceToT ?_)
    (repeat walk_at "m.one")
    refine ⟨_, i, rfl, rfl, by omega, ?_⟩
    (repeat walk_at "m.one")
    refine S2.addL (by simp <;> omega) ?_
    refine SliceGoal.of (SE.sliceFromT ?_)
    (repeat walk_at "m.one")
    refine ⟨_, i + 1, rfl, rfl, ?_⟩
    refine S2.addL (by simp <;> omega) ?_
    (repeat walk_at "m.one")
    exact q _ _ _ _ (fin tv nt)
  · refine SS.nil ?_
    (repeat walk_at "m.one")
    refine SliceGoal.of (SE.sliceToT ?_)
    (repeat walk_at "m.one")
    refine ⟨_, i, rfl, rfl, by omega, ?_⟩
    (repeat walk_at "m.one")
    refine S2.addL (by simp <;> omega) ?_
    refine SliceGoal.of (SE.sliceFromT ?_)
    (repeat walk_at "m.one")
    refine ⟨_, i + 1, rfl, rfl, ?_⟩
    refine S2.addL (by simp <;> omega) ?_
    (repeat walk_at "m.one")
    exact q _ _ _ _ (fin _ nt0)

-- a machine made from lists that may change later
theorem c_is_rowG (W : Wl c) {n : Nat} {a : Addr} {r : Nat → Int} {D : Int} (ha : η a = some (.lst (rowS n r D))) (hD : 0 < D) (hn : n ≤ 100) (q : Q (.bool true) η) : SC c (d + 3) true (.ref p_is_row) [.loc a, .int (n : Nat)] η Q X := by
  have sl : sizeLine = 16777216 := by decide
  ((refine SC.def2 (by assumption) (by rfl) (by kernel_rfl) (by kernel_rfl) (by rfl) (by rfl) ?_; dsimp only [initσ]))
  (repeat (first | walk_at "m.one" | with_reducible (first | refine SS.if ?_ | refine SS.while ?_ | refine ST.not ?_ | refine ST.boolop ?_ | (show ite _ _ _; first | refine iteT ?_ | refine iteF ?_ | refine iteNT ?_ | refine iteNF ?_))))
  refine SC.isi_loc ha ?_
  (repeat (first | walk_at "m.one" | with_reducible (first | refine SS.if ?_ | refine SS.while ?_ | refine ST.not ?_ | refine ST.boolop ?_ | (show ite _ _ _; first | refine iteT ?_ | refine iteF ?_ | refine iteNT ?_ | refine iteNF ?_))))
  refine SC.len_any (.loc ha) ?_
  simp only [List.length_map, List.length_range]
  (repeat (first | walk_at "m.one" | with_reducible (first | refine SS.if ?_ | refine SS.while ?_ | refine ST.not ?_ | refine ST.boolop ?_ | (show ite _ _ _; first | refine iteT ?_ | refine iteF ?_ | refine iteNT ?_ | refine iteNF ?_))))
  rw [show (((n : Nat) : Int) == ((n : Nat) : Int)) = true by simp]
  (repeat (first | walk_at "m.one" | with_reducible (first | refine SS.if ?_ | refine SS.while ?_ | refine ST.not ?_ | refine ST.boolop ?_ | (show ite _ _ _; first | refine iteT ?_ | refine iteF ?_ | refine iteNT ?_ | refine iteNF ?_))))
  refine SE.compJ ["part"] none (by (with_reducible (repeat (first | exact CapR.nil | apply CapR.own (by decide) | apply CapR.cap (by repeat (first | exact At.head | apply At.tail)) | apply CapR.capF (by repeat (first | exact At.head | apply At.tail)))))) (SJ.loc ?_)
  (repeat walk_at "m.one")
  refine ⟨a, _, rfl, ha, by simp; omega, CompLG.mapA (l := List.range n) (u := fun k => shareOf (r k) D) (g := fun _ => .bool true) ha (fun k _ => ⟨_, SA.name (by (with_reducible (repeat (first | exact Put.loc | exact Put.cell | apply Put.tail)))) rfl, by simp [Less], ?_⟩) ?_⟩
  · (repeat walk_at "m.one")
    exact c_is_share W (shareV_ok (shareV_of hD)) ⟨by rw [shareV_of hD], rfl⟩
  · (repeat walk_at "m.one")
    rw [List.nil_append, show ((List.range n).map fun _ => V.bool true) = ((List.range n).map fun _ => true).map V.bool by simp]
    refine SC.all ?_
    rw [show ((List.range n).map fun _ => true).all id = true by simp]
    exact q
theorem c_is_tableG (W : Wl c) {n : Nat} {a : Addr} {ra : Nat → Addr} {T : Nat → Nat → Int} {D : Int} (ha : η a = some (.lst ((List.range n).map fun i => V.loc (ra i)))) (hr : ∀ i, i < n → η (ra i) = some (.lst (rowS n (T i) D))) (hD : 0 < D) (hn : n ≤ 100) (q : Q (.bool true) η) :
    SC c (d + 4) true (.ref p_is_table) [.loc a, .int (n : Nat)] η Q X := by
  have sl : sizeLine = 16777216 := by decide
  ((refine SC.def2 (by assumption) (by rfl) (by kernel_rfl) (by kernel_rfl) (by rfl) (by rfl) ?_; dsimp only [initσ]))
  (repeat (first | walk_at "m.one" | with_reducible (first | refine SS.if ?_ | refine SS.while ?_ | refine ST.not ?_ | refine ST.boolop ?_ | (show ite _ _ _; first | refine iteT ?_ | refine iteF ?_ | refine iteNT ?_ | refine iteNF ?_))))
  refine SC.isi_loc ha ?_
  (repeat (first | walk_at "m.one" | with_reducible (first | refine SS.if ?_ | refine SS.while ?_ | refine ST.not ?_ | refine ST.boolop ?_ | (show ite _ _ _; first | refine iteT ?_ | refine iteF ?_ | refine iteNT ?_ | refine iteNF ?_))))
  refine SC.len_any (.loc ha) ?_
  simp only [List.length_map, List.length_range]
  (repeat (first | walk_at "m.one" | with_reducible (first | refine SS.if ?_ | refine SS.while ?_ | refine ST.not ?_ | refine ST.boolop ?_ | (show ite _ _ _; first | refine iteT ?_ | refine iteF ?_ | refine iteNT ?_ | refine iteNF ?_))))
  rw [show (((n : Nat) : Int) == ((n : Nat) : Int)) = true by simp]
  (repeat (first | walk_at "m.one" | with_reducible (first | refine SS.if ?_ | refine SS.while ?_ | refine ST.not ?_ | refine ST.boolop ?_ | (show ite _ _ _; first | refine iteT ?_ | refine iteF ?_ | refine iteNT ?_ | refine iteNF ?_))))
  refine SE.compJ ["row"] none (by (with_reducible (repeat (first | exact CapR.nil | apply CapR.own (by decide) | apply CapR.cap (by repeat (first | exact At.head | apply At.tail)) | apply CapR.capF (by repeat (first | exact At.head | apply At.tail)))))) (SJ.loc ?_)
  (repeat walk_at "m.one")
  refine ⟨a, _, rfl, ha, by simp; omega, CompLG.mapA (l := List.range n) (u := fun i => V.loc (ra i)) (g := fun _ => .bool true) ha (fun i hi => ⟨_, SA.name (by (with_reducible (repeat (first | exact Put.loc | exact Put.cell | apply Put.tail)))) rfl, by simp [Less], ?_⟩) ?_⟩
  · (repeat walk_at "m.one")
    exact c_is_rowG W (hr i (List.mem_range.mp hi)) hD hn ⟨rfl, rfl⟩
  · (repeat walk_at "m.one")
    rw [List.nil_append, show ((List.range n).map fun _ => V.bool true) = ((List.range n).map fun _ => true).map V.bool by simp]
    refine SC.all ?_
    rw [show ((List.range n).map fun _ => true).all id = true by simp]
    exact q
/-- the lists that are handed in -/
structure HM (η : Hp) (m n : Nat) (b e : Nat → Int) (T : Nat → Nat → Nat → Int) (p r s : Int) (a1 a2 a3 : Addr) (ta : Nat → Addr) (ra : Nat → Nat → Addr) : Prop where
  hb : η a1 = some (.lst (rowS n b p))
  he : η a3 = some (.lst (rowS n e s))
  hm : η a2 = some (.lst ((List.range m).map fun k => V.loc (ta k)))
  ht : ∀ k, k < m → η (ta k) = some (.lst ((List.range n).map fun i => V.loc (ra k i)))
  hr : ∀ k i, k < m → i < n → η (ra k i) = some (.lst (rowS n (T k i) r))
theorem HM.ext {η η' : Hp} {m n : Nat} {b e : Nat → Int} {T : Nat → Nat → Nat → Int} {p r s : Int} {a1 a2 a3 : Addr} {ta : Nat → Addr} {ra : Nat → Nat → Addr} (h : HM η m n b e T p r s a1 a2 a3 ta ra) (k : ∀ x vs, η x = some (.lst vs) → η' x = some (.lst vs)) : HM η' m n b e T p r s a1 a2 a3 ta ra :=
  ⟨k _ _ h.hb, k _ _ h.he, k _ _ h.hm, fun i hi => k _ _ (h.ht i hi), fun i j hi hj => k _ _ (h.hr i j hi hj)⟩
theorem c_Machine_initG (W : Wl c) {a dd a1 a2 a3 : Addr} {ta : Nat → Addr} {ra : Nat → Nat → Addr} {m n : Nat} {g : Nat → Nat} {b e : Nat → Int} {T : Nat → Nat → Nat → Int} {p r s : Int} (ea : η a = some (.inst p_Machine dd)) (ed : η dd = some (.idict [] [])) (H : HM η m n b e T p r s a1 a2 a3 ta ra) (sg : Sg m g) (hm : m ≤ 6) (hn : n ≤ 12) (sc : Sc p r s)
    (q : Q .none (η.set dd (.idict machKs [.str (signS m g), .lst (rowS n b p), .lst (tabsS m n T r), .lst (rowS n e s)]))) : SCc c (d + 5) true (.ref m_Machine_init) [.loc a, .str (signS m g), .loc a1, .loc a2, .loc a3] η Q X := by
  have sl : sizeLine = 16777216 := by decide
  have okS := signsV_of sg hm
  have lx : (signS m g).length = m := by rw [wordS_len, List.length_range]
  have ne : a ≠ dd := fun e => by rw [e, ed] at ea; cases ea
  have H' : ∀ o, HM (η.set dd o) m n b e T p r s a1 a2 a3 ta ra := fun o => H.ext fun x vs hx => (Hp.set_ne _ _ fun e => by rw [e, ed] at hx; cases hx).trans hx
  refine SCc.def2 W (by rfl) (by kernel_rfl) (by kernel_rfl) (by rfl) (by rfl) ?_
  dsimp only [initσ]
  refine SS.ifX (!true || !true || !true) (TP.or3 (TP.not ?_) (fun _ => TP.not ?_) fun _ _ => TP.not ?_) (fun h => by simp at h) fun _ => ?_
  · (repeat walk_at "m.one")
    refine c_is_signs W (by rfl) (fun y e => by cases e; omega) ?_
    rw [okS]
    (repeat walk_at "m.one")
    exact ⟨rfl, rfl⟩
  · (repeat walk_at "m.one")
    refine SC.isi_loc H.hb ?_
    (repeat walk_at "m.one")
    exact ⟨rfl, rfl⟩
  · (repeat walk_at "m.one")
    refine SC.len_any (.loc H.hb) ?_
    simp only [List.length_map, List.length_range]
    (repeat walk_at "m.one")
    refine c_is_rowG W H.hb sc.p0 (by omega) ?_
    (repeat walk_at "m.one")
    exact ⟨rfl, rfl⟩
  (repeat walk_at "m.one")
  refine SC.len_any (.loc H.hb) ?_
  simp only [List.length_map, List.length_range]
  (repeat walk_at "m.one")
  refine SS.ifX (!true || !true || (((m : Nat) : Int) != ((m : Nat) : Int))) (TP.or3 (TP.not ?_) (fun _ => TP.not ?_) fun _ _ => ?_) (fun h => by simp at h) fun _ => ?_
  · (repeat walk_at "m.one")
    refine c_is_rowG W H.he sc.s0 (by omega) ?_
    (repeat walk_at "m.one")
    exact ⟨rfl, rfl⟩
  · (repeat walk_at "m.one")
    refine SC.isi_loc H.hm ?_
    (repeat walk_at "m.one")
    exact ⟨rfl, rfl⟩
  · (repeat walk_at "m.one")
    refine SC.len_any (.loc H.hm) ?_
    simp only [List.length_map, List.length_range]
    (repeat walk_at "m.one")
    refine SC.len_str (by omega) ?_
    rw [lx]
    (repeat walk_at "m.one")
    exact ⟨rfl, rfl⟩
  refine SS.ifX (!true) (TP.not ?_) (fun h => by simp at h) fun _ => ?_
  · (repeat walk_at "m.one")
    refine SE.compJ ["table"] none (by (with_reducible (repeat (first | exact CapR.nil | apply CapR.own (by decide) | apply CapR.cap (by repeat (first | exact At.head | apply At.tail)) | apply CapR.capF (by repeat (first | exact At.head | apply At.tail)))))) (SJ.loc ?_)
    (repeat walk_at "m.one")
    refine ⟨a2, _, rfl, H.hm, by simp; omega, CompLG.mapA (l := List.range m) (u := fun k => V.loc (ta k)) (g := fun _ => .bool true) H.hm (fun k hk => ⟨_, SA.name (by (with_reducible (repeat (first | exact Put.loc | exact Put.cell | apply Put.tail)))) rfl, by simp [Less], ?_⟩) ?_⟩
    · (repeat walk_at "m.one")
      exact c_is_tableG W (H.ht k (List.mem_range.mp hk)) (fun i hi => H.hr k i (List.mem_range.mp hk) hi) sc.r0 (by omega) ⟨rfl, rfl⟩
    · (repeat walk_at "m.one")
      rw [List.nil_append, show ((List.range m).map fun _ => V.bool true) = ((List.range m).map fun _ => true).map V.bool by simp]
      refine SC.all ?_
      (repeat walk_at "m.one")
      exact ⟨by simp, rfl⟩
  refine SS.ifX (decide (((n : Nat) : Int) > 12)) ?_ (fun h => by simp at h; omega) fun _ => ?_
  · (repeat walk_at "m.one")
    exact ⟨rfl, rfl⟩
  refine SS.setattr W ?_
  (repeat walk_at "m.one")
  refine ⟨a, _, dd, _, _, rfl, ea, ed, by simp, by kernel_rfl, by simp, ?_⟩
  refine SS.setattr W ?_
  (repeat walk_at "m.one")
  refine SC.listLoc (H' _).hb ?_
  (repeat walk_at "m.one")
  refine ⟨a, _, dd, _, _, rfl, (Hp.set_ne _ _ ne).trans ea, Hp.set_self .., by decide +kernel, by kernel_rfl, by simp, ?_⟩
  rw [Hp.set_set]
  refine SS.setattr W ?_
  refine SE.compJ ["table"] none (by (with_reducible (repeat (first | exact CapR.nil | apply CapR.own (by decide) | apply CapR.cap (by repeat (first | exact At.head | apply At.tail)) | apply CapR.capF (by repeat (first | exact At.head | apply At.tail)))))) (SJ.loc ?_)
  (repeat walk_at "m.one")
  refine ⟨a2, _, rfl, (H' _).hm, by simp; omega, CompLG.mapA (l := List.range m) (u := fun k => V.loc (ta k)) (g := fun k => .lst (tabS n (T k) r)) (H' _).hm (fun k hk => ⟨_, SA.name (by (with_reducible (repeat (first | exact Put.loc | exact Put.cell | apply Put.tail)))) rfl, by simp [Less], ?_⟩) ?_⟩
  · refine SE.compJ ["row"] none (by (with_reducible (repeat (first | exact CapR.nil | apply CapR.own (by decide) | apply CapR.cap (by repeat (first | exact At.head | apply At.tail)) | apply CapR.capF (by repeat (first | exact At.head | apply At.tail)))))) (SJ.loc ?_)
    (repeat walk_at "m.one")
    refine ⟨ta k, _, rfl, (H' _).ht k (List.mem_range.mp hk), by simp; omega, CompLG.mapA (l := List.range n) (u := fun i => V.loc (ra k i)) (g := fun i => .lst (rowS n (T k i) r)) ((H' _).ht k (List.mem_range.mp hk)) (fun i hi => ⟨_, SA.name (by (with_reducible (repeat (first | exact Put.loc | exact Put.cell | apply Put.tail)))) rfl, by simp [Less], ?_⟩) ?_⟩
    · (repeat walk_at "m.one")
      exact SC.listLoc ((H' _).hr k i (List.mem_range.mp hk) (List.mem_range.mp hi)) ⟨rfl, rfl⟩
    · rw [List.nil_append]; exact ⟨rfl, rfl⟩
  rw [List.nil_append]
  (repeat walk_at "m.one")
  refine ⟨a, _, dd, _, _, rfl, (Hp.set_ne _ _ ne).trans ea, Hp.set_self .., by decide +kernel, by kernel_rfl, by simp, ?_⟩
  rw [Hp.set_set]
  refine SS.setattr W ?_
  (repeat walk_at "m.one")
  refine SC.listLoc (H' _).he ?_
  (repeat walk_at "m.one")
  refine ⟨a, _, dd, _, _, rfl, (Hp.set_ne _ _ ne).trans ea, Hp.set_self .., by decide +kernel, by kernel_rfl, by simp, ?_⟩
  rw [Hp.set_set]
  (repeat walk_at "m.one")
  exact q
theorem c_l_toldG (W : Wl c) {a1 a2 a3 : Addr} {ta : Nat → Addr} {ra : Nat → Nat → Addr} {m n : Nat} {g : Nat → Nat} {b e : Nat → Int} {T : Nat → Nat → Nat → Int} {p r s : Int} (H : HM η m n b e T p r s a1 a2 a3 ta ra) (sg : Sg m g) (hm : m ≤ 6) (hn : n ≤ 12) (sc : Sc p r s)
    (q : Q (machV (signS m g) (rowS n b p) (tabsS m n T r) (rowS n e s)) η) : SC c (d + 7) true (.ref l_told) [.lst [.str (signS m g), .loc a1, .loc a2, .loc a3]] η Q X := by
  ((refine SC.def2 (by assumption) (by rfl) (by kernel_rfl) (by kernel_rfl) (by rfl) (by rfl) ?_; dsimp only [initσ]))
  refine SS.tryN W (by (with_reducible (repeat (first | exact List.mem_cons_self | apply List.mem_cons_of_mem)))) (by (with_reducible (repeat (first | exact List.mem_cons_self | apply List.mem_cons_of_mem)))) (by (with_reducible (repeat (first | exact List.mem_cons_self | apply List.mem_cons_of_mem)))) (SN.ret ?_)
  refine SE.ccall W (by (with_reducible (repeat (first | exact List.mem_cons_self | apply List.mem_cons_of_mem)))) (by (with_reducible (repeat (first | exact List.mem_cons_self | apply List.mem_cons_of_mem)))) (by kernel_rfl) ?_
  (repeat walk_at "m.one")
  refine SC.frz (SC.make W (fI := m_Machine_init) (by kernel_rfl) (by kernel_rfl) (by kernel_rfl) fun a dd na nd ne => ?_)
  have e1 : ((η.set dd (.idict [] [])).set a (.inst p_Machine dd)) dd = some (.idict [] []) := (Hp.set_ne _ _ (Ne.symm ne)).trans (Hp.set_self ..)
  have H' : HM ((η.set dd (.idict [] [])).set a (.inst p_Machine dd)) m n b e T p r s a1 a2 a3 ta ra := H.ext fun x vs hx => by
    rw [Hp.set_ne _ _ (fun e => by rw [e, na] at hx; cases hx), Hp.set_ne _ _ (fun e => by rw [e, nd] at hx; cases hx)]; exact hx
  refine c_Machine_initG W (dd := dd) (Hp.set_self ..) e1 H' sg hm hn sc ⟨rfl, ?_, machV (signS m g) (rowS n b p) (tabsS m n T r) (rowS n e s), .obj ((Hp.set_ne _ _ ne).trans (Hp.set_self ..)) (Hp.set_self ..) na nd (Frzs.keep ?_), q⟩
  · intro b o e
    have b1 : b ≠ dd := by rintro rfl; rw [nd] at e; cases e
    have b2 : b ≠ a := by rintro rfl; rw [na] at e; cases e
    rw [Hp.set_ne _ _ b1, Hp.set_ne _ _ b2, Hp.set_ne _ _ b1]; exact e
  · refine ⟨trivial, row_lin, lins_of fun v hv => ?_, row_lin, trivial⟩
    obtain ⟨k, _, rfl⟩ := List.mem_map.mp hv
    refine lins_of fun v hv => ?_
    obtain ⟨i, _, rfl⟩ := List.mem_map.mp hv
    exact row_lin

theorem ones {n : Nat} : (List.replicate n [V.tup [.int 1, .int 1]]).flatten = rowS n (fun _ => 1) 1 := by
  have e : V.tup [.int 1, .int 1] = shareOf 1 1 := by unfold shareOf; rw [show (1 : Int).fdiv (byOf 1 1) = 1 by decide +kernel]
  rw [e]
  induction n with
  | zero => rfl
  | succ n ih => rw [List.replicate_succ', List.flatten_append, ih]; unfold rowS; rw [List.range_succ, List.map_append]; rfl
theorem c_l_wide (W : Wl c) {m N : Nat} {g : Nat → Nat} (hm : m ≤ 6) (hN : N ≤ 20) (q : Q (partsV (signS m g) m N (fun _ => 1) (fun _ _ _ => 1) (fun _ => 1) 1 1 1) η) : SC c (d + 1) true (.ref l_wide) [.int (N : Nat), .str (signS m g)] η Q X := by
  have sl : sizeLine = 16777216 := by decide
  ((refine SC.def2 (by assumption) (by rfl) (by kernel_rfl) (by kernel_rfl) (by rfl) (by rfl) ?_; dsimp only [initσ]))
  (repeat walk_at "m.one")
  refine S2.mulL (by simp <;> omega) (by simp <;> omega) (by simp <;> omega) ?_
  simp only [Int.toNat_natCast]
  rw [ones]
  (repeat walk_at "m.one")
  refine SC.listOf ?_
  (repeat walk_at "m.one")
  refine SE.comp ["_law_one"] none (by (with_reducible (repeat (first | exact CapR.nil | apply CapR.own (by decide) | apply CapR.cap (by repeat (first | exact At.head | apply At.tail)) | apply CapR.capF (by repeat (first | exact At.head | apply At.tail)))))) ?_
  (repeat walk_at "m.one")
  refine ⟨_, SI.str, by rw [List.length_map, wordS_list, List.length_map, List.length_range]; omega, ?_⟩
  rw [wordS_list, List.map_map]
  refine CompL.mapL (u := fun s => V.str (sgn (g s))) (g := fun _ => .lst (tabS N (fun _ _ => 1) 1)) (fun s hs => ⟨_, by (with_reducible (repeat (first | exact Put.loc | exact Put.cell | apply Put.tail))), by simp [Less], ?_⟩) ?_
  · refine SE.comp ["_law_k"] none (by (with_reducible (repeat (first | exact CapR.nil | apply CapR.own (by decide) | apply CapR.cap (by repeat (first | exact At.head | apply At.tail)) | apply CapR.capF (by repeat (first | exact At.head | apply At.tail)))))) ?_
    (repeat walk_at "m.one")
    refine ⟨_, rng_ok (by omega), rng_len (by omega), CompL.rngN (g := fun _ => .lst (rowS N (fun _ => 1) 1)) (fun i hi => ⟨_, by (with_reducible (repeat (first | exact Put.loc | exact Put.cell | apply Put.tail))), by simp [Less], ?_⟩) ?_⟩
    · (repeat walk_at "m.one")
      exact SC.listOf ⟨rfl, rfl⟩
    · rw [List.nil_append]; exact ⟨rfl, rfl⟩
  rw [List.nil_append]
  (repeat walk_at "m.one")
  refine SC.listOf ?_
  (repeat walk_at "m.one")
  exact q
theorem take1_signs (m : Nat) (g : Nat → Nat) : takeS 1 (signS m g) = signS (min 1 m) g := by
  cases m with
  | zero => rfl
  | succ m =>
    apply Str.ext'
    show (((List.range (m + 1)).map g).take 1).toArray = ((List.range (min 1 (m + 1))).map g).toArray
    rw [show min 1 (m + 1) = 1 by omega, List.range_succ_eq_map]
    simp

/-- no word over the signs x -/
noncomputable def NoWordV (x : Str) (v : V) : Prop := isiT "str" v = some false ∨ ∃ (y : Str) (k : Nat), v = .str y ∧ y.length ≤ 1000 ∧ k ∈ y.cps.toList ∧ k ∉ x.cps.toList
theorem c_need_word_no (W : Wl c) {x : Str} {bs ms es : List V} (h : NoWordV x v) (q : X p_NoWord η) : SC c (d + 1) true (.ref p_need_word) [machV x bs ms es, v] η Q X := by
  have sl : sizeLine = 16777216 := by decide
  ((refine SC.def2 (by assumption) (by rfl) (by kernel_rfl) (by kernel_rfl) (by rfl) (by rfl) ?_; dsimp only [initσ]))
  rcases h with h | ⟨y, k, rfl, hl, h1, h2⟩
  · refine SS.ifX (!false || false) (TP.or (TP.not ?_) fun h => by simp at h) (fun _ => ?_) fun h => by simp at h
    · (repeat walk_at "m.one")
      refine SC.isi h ?_
      (repeat walk_at "m.one")
      exact ⟨rfl, rfl⟩
    · refine SS.raise W (by (with_reducible (repeat (first | exact List.mem_cons_self | apply List.mem_cons_of_mem)))) (by (with_reducible (repeat (first | exact List.mem_cons_self | apply List.mem_cons_of_mem)))) (by kernel_rfl) ?_
      (repeat walk_at "m.one")
      exact q
  · refine SS.ifX (!true || !false) (TP.or (TP.not ?_) fun _ => TP.not ?_) (fun _ => ?_) fun h => by simp at h
    · (repeat walk_at "m.one")
      refine SC.isi (b := true) (by rfl) ?_
      (repeat walk_at "m.one")
      exact ⟨rfl, rfl⟩
    · (repeat walk_at "m.one")
      refine SE.comp ["sign"] none (by (with_reducible (repeat (first | exact CapR.nil | apply CapR.own (by decide) | apply CapR.cap (by repeat (first | exact At.head | apply At.tail)) | apply CapR.capF (by repeat (first | exact At.head | apply At.tail)))))) ?_
      (repeat walk_at "m.one")
      refine ⟨_, SI.str, by rw [List.length_map]; have : y.cps.toList.length = y.length := by simp [Str.length]
                            omega, ?_⟩
      refine CompL.mapL (u := fun k => V.str (sgn k)) (g := fun k => .bool (decide (k ∈ x.cps.toList))) (fun j hj => ⟨_, by (with_reducible (repeat (first | exact Put.loc | exact Put.cell | apply Put.tail))), by simp [Less], ?_⟩) ?_
      · (repeat walk_at "m.one")
        refine SE.attr (A.var ?_)
        refine mach_signs W ?_
        exact S2.inS ⟨rfl, rfl⟩
      · (repeat walk_at "m.one")
        rw [List.nil_append, show (y.cps.toList.map fun k => V.bool (decide (k ∈ x.cps.toList))) = (y.cps.toList.map fun k => decide (k ∈ x.cps.toList)).map V.bool by simp]
        refine SC.all ?_
        (repeat walk_at "m.one")
        refine ⟨?_, rfl⟩
        cases e : ((y.cps.toList.map fun k => decide (k ∈ x.cps.toList)).all id) with
        | false => rfl
        | true =>
          rw [List.all_eq_true] at e
          have := e _ (List.mem_map.mpr ⟨k, h1, rfl⟩)
          simp [h2] at this
    · refine SS.raise W (by (with_reducible (repeat (first | exact List.mem_cons_self | apply List.mem_cons_of_mem)))) (by (with_reducible (repeat (first | exact List.mem_cons_self | apply List.mem_cons_of_mem)))) (by kernel_rfl) ?_
      (repeat walk_at "m.one")
      exact q
theorem c_row_of_no (W : Wl c) {x : Str} {bs ms es : List V} (h : NoWordV x v) (q : X p_NoWord η) : SC c (d + 2) true (.ref p_row_of) [machV x bs ms es, v] η Q X := by
  ((refine SC.def2 (by assumption) (by rfl) (by kernel_rfl) (by kernel_rfl) (by rfl) (by rfl) ?_; dsimp only [initσ]))
  refine SS.expr ?_
  (repeat walk_at "m.one")
  exact c_need_word_no W h q
theorem c_weight_no (W : Wl c) {x : Str} {bs ms es : List V} (h : NoWordV x v) (q : X p_NoWord η) : SC c (d + 3) true (.ref p_weight) [machV x bs ms es, v] η Q X := by
  ((refine SC.def2 (by assumption) (by rfl) (by kernel_rfl) (by kernel_rfl) (by rfl) (by rfl) ?_; dsimp only [initσ]))
  (repeat walk_at "m.one")
  exact c_row_of_no W h q
theorem c_l_word_refused (W : Wl c) {x : Str} {bs ms es : List V} {w : Nat} (h : NoWordV x v) (q : Q (.tup [.str "refused", .str "word"]) η) : SC c (d + 4) true (.ref l_word_refused) [.int (w : Nat), machV x bs ms es, v] η Q X := by
  ((refine SC.def2 (by assumption) (by rfl) (by kernel_rfl) (by kernel_rfl) (by rfl) (by rfl) ?_; dsimp only [initσ]))
  refine SS.tryN W (by (with_reducible (repeat (first | exact List.mem_cons_self | apply List.mem_cons_of_mem)))) (by (with_reducible (repeat (first | exact List.mem_cons_self | apply List.mem_cons_of_mem)))) (by (with_reducible (repeat (first | exact List.mem_cons_self | apply List.mem_cons_of_mem)))) ?_
  refine SN.if ?_
  (repeat walk_at "m.one")
  refine iteS (fun _ => ?_) fun _ => ?_
  · refine SN.expr ?_
    (repeat walk_at "m.one")
    refine c_weight_no W h ⟨by kernel_rfl, _, by (with_reducible (repeat (first | exact Put.loc | exact Put.cell | apply Put.tail))), ?_⟩
    (repeat walk_at "m.one")
    exact c_l_word_of_NoWord W q
  · refine SN.expr ?_
    (repeat walk_at "m.one")
    refine c_row_of_no W h ⟨by kernel_rfl, _, by (with_reducible (repeat (first | exact Put.loc | exact Put.cell | apply Put.tail))), ?_⟩
    (repeat walk_at "m.one")
    exact c_l_word_of_NoWord W q
noncomputable def freeL (m : Nat) (g : Nat → Nat) : List Nat := (Str.ofString "abcdefghijklmnopqrstuvwxyz").cps.toList.filter fun k => !decide (k ∈ (List.range m).map g)
theorem sgnA : Str.ofString "A" = sgn 65 := by decide +kernel
theorem sgnB : Str.ofString " " = sgn 32 := by decide +kernel
theorem sgnC : Str.ofString "1" = sgn 49 := by decide +kernel
theorem c_l_words_refused (W : Wl c) {m : Nat} {g : Nat → Nat} {bs ms es : List V} {a : Int} (sg : Sg m g) (hm : m ≤ 2) (q : Q (.bool true) η) : SC c (d + 5) true (.ref l_words_refused) [machV (signS m g) bs ms es, .str (signS m g), .int a] η Q X := by
  have sl : sizeLine = 16777216 := by decide
  have np : ∀ a b : Int, b.natAbs < 2 ^ 9000 → Builtin.divisionGoesByPylong a b = false := fun a b h => noPylong_pow h
  have lx : (signS m g).length = m := by rw [wordS_len, List.length_range]
  have out : ∀ k ∈ freeL m g ++ [65, 32, 49], k ∉ (signS m g).cps.toList := fun k hk => by
    rw [wordS_list]
    rcases List.mem_append.mp hk with hk | hk
    · have := (List.mem_filter.mp hk).2
      simpa using this
    · intro h
      obtain ⟨i, hi, rfl⟩ := List.mem_map.mp h
      have := sg.lo i (List.mem_range.mp hi)
      simp only [List.mem_cons, List.not_mem_nil, or_false] at hk
      omega
  have fl : (freeL m g).length ≤ 26 := by
    have : (Str.ofString "abcdefghijklmnopqrstuvwxyz").cps.toList.length = 26 := by decide +kernel
    rw [← this]; exact List.length_filter_le ..
  ((refine SC.def2 (by assumption) (by rfl) (by kernel_rfl) (by kernel_rfl) (by rfl) (by rfl) ?_; dsimp only [initσ]))
  refine SS.assign (SE.bin ?_)
  refine SE.comp ["_law_sign"] (some _) (by (with_reducible (repeat (first | exact CapR.nil | apply CapR.own (by decide) | apply CapR.cap (by repeat (first | exact At.head | apply At.tail)) | apply CapR.capF (by repeat (first | exact At.head | apply At.tail)))))) ?_
  (repeat walk_at "m.one")
  refine ⟨_, SI.str, by rw [List.length_map]; decide +kernel, ?_⟩
  refine CompL.filterL (u := fun k => V.str (sgn k)) (g := fun k => V.str (sgn k)) (p := fun k => !decide (k ∈ (List.range m).map g)) (fun k hk => ⟨_, by (with_reducible (repeat (first | exact Put.loc | exact Put.cell | apply Put.tail))), by simp [Less], ?_, fun _ => ?_⟩) ?_
  · (repeat walk_at "m.one")
    rw [wordS_list]
    exact ⟨rfl, rfl⟩
  · (repeat walk_at "m.one")
    exact ⟨rfl, rfl⟩
  rw [List.nil_append]
  (repeat walk_at "m.one")
  refine S2.addL (by have : ((freeL m g).map fun k => V.str (sgn k)).length ≤ 26 := by rw [List.length_map]; exact fl
                     show ((freeL m g).map fun k => V.str (sgn k)).length + _ ≤ _
                     simp only [List.length_cons, List.length_nil]; omega) ?_
  rw [sgnA, sgnB, sgnC, show ((((Str.ofString "abcdefghijklmnopqrstuvwxyz").cps.toList.filter fun k => !decide (k ∈ (List.range m).map g)).map fun k => V.str (sgn k)) ++ [V.str (sgn 65), V.str (sgn 32), V.str (sgn 49)]) = (freeL m g ++ [65, 32, 49]).map fun k => V.str (sgn k) by simp [freeL]]
  have L0 : 0 < (freeL m g ++ [65, 32, 49]).length := by simp
  generalize freeL m g ++ [65, 32, 49] = L at out L0
  (repeat walk_at "m.one")
  refine S2.modI (by decide) ?_
  have r1 := fmod_range a (b := 3) (by decide)
  generalize a.fmod 3 = z at r1
  obtain ⟨u, rfl⟩ := int_nat r1.1
  refine S2.mulAny (by omega) (by omega) fun w hw => ?_
  (repeat walk_at "m.one")
  refine S2.divI (by decide) (np _ _ (by decide +kernel)) ?_
  (repeat walk_at "m.one")
  refine SC.len_str (by omega) ?_
  (repeat walk_at "m.one")
  refine S2.modI (by omega) ?_
  have r2 := fmod_range (a.fdiv 3) (b := (w.length : Int) + 1) (by omega)
  generalize (a.fdiv 3).fmod ((w.length : Int) + 1) = z at r2
  obtain ⟨k, rfl⟩ := int_nat r2.1
  (repeat walk_at "m.one")
  refine SliceGoal.of (SE.sliceTo ?_)
  (repeat walk_at "m.one")
  refine ⟨w, k, rfl, rfl, by omega, ?_⟩
  (repeat walk_at "m.one")
  refine S2.divI (by decide) (np _ _ (by decide +kernel)) ?_
  (repeat walk_at "m.one")
  rw [List.length_map]
  refine S2.modI (by omega) ?_
  have r3 := fmod_range (a.fdiv 13) (b := (L.length : Int)) (by omega)
  generalize (a.fdiv 13).fmod (L.length : Int) = z at r3
  obtain ⟨i, rfl⟩ := int_nat r3.1
  have hi : i < L.length := by omega
  refine S2.item_lst (u := .str (sgn L[i])) (by simp [hi]) ?_
  have no := out L[i] (List.getElem_mem hi)
  generalize L[i] = o at no
  have lt := takeS_le k w
  have ld := dropS_le k w
  have lu : (sgn o).length = 1 := rfl
  refine S2.addS (by omega) ?_
  refine SliceGoal.of (SE.sliceFrom ?_)
  (repeat walk_at "m.one")
  refine ⟨w, k, rfl, rfl, by omega, ?_⟩
  refine S2.addS (by rw [Str.length_append]; omega) ?_
  have bad1 : NoWordV (signS m g) (.str (takeS k w ++ sgn o ++ dropS k w)) := .inr ⟨_, o, rfl, by rw [Str.length_append, Str.length_append]; omega, by
    rw [appS_list, appS_list]
    exact List.mem_append.mpr (.inl (List.mem_append.mpr (.inr (List.mem_singleton.mpr rfl)))), no⟩
  generalize V.str (takeS k w ++ sgn o ++ dropS k w) = wr at bad1
  refine A.put ?_
  refine SS.for ["_law_thing"] ?_
  (repeat walk_at "m.one")
  refine S2.divI (by decide) (np _ _ (by decide +kernel)) ?_
  (repeat walk_at "m.one")
  refine S2.modI (by decide) ?_
  have r4 := fmod_range (a.fdiv 3) (b := 5) (by decide)
  generalize (a.fdiv 3).fmod 5 = z at r4
  obtain ⟨l, rfl⟩ := int_nat r4.1
  have key : ∀ {e j : Expr} {vs : List V} {Q : V → Hp → Prop} {X : Addr → Hp → Prop}, vs.length = 5 → (∀ v ∈ vs, isiT "str" v = some false) → notSlice j = true → (∀ v, isiT "str" v = some false → Q v η) → S2 c (d + 4) true (subscriptTail e j) (V.lst vs) (V.int l) η Q X := fun {e j vs Q X} hl ha hs k => by
    have hk : l < vs.length := by omega
    exact S2.item_lst (u := vs[l]) (List.getElem?_eq_getElem hk) (k _ (ha _ (List.getElem_mem hk))) hs
  refine key (by rfl) (fun v hv => ?_) (by rfl) fun ot hot => ?_
  · simp only [List.mem_cons, List.not_mem_nil, or_false] at hv
    rcases hv with rfl | rfl | rfl | rfl | rfl <;> rfl
  clear key
  (repeat walk_at "m.one")
  refine ⟨_, SI.lst, ForL.check (fun _ => true) [some (machV (signS m g) bs ms es), none, none, none, none, none, none, none, none, none, none, none] (fun th hth => ?_) (fun _ σ' l => SS.forget l ?_) (by simp [Less])⟩
  · have hb : NoWordV (signS m g) th := by
      simp only [List.mem_cons, List.not_mem_nil, or_false] at hth
      rcases hth with rfl | rfl
      · exact bad1
      · exact .inl hot
    clear hth
    refine SA.name (by (with_reducible (repeat (first | exact Put.loc | exact Put.cell | apply Put.tail)))) ?_
    refine SS.for ["_law_way"] ?_
    (repeat walk_at "m.one")
    refine ⟨_, rng_ok (n := 2) (by decide), ?_⟩
    rw [show rngL 0 ((2 : Nat) : Int) = (List.range 2).map fun k => V.int (k : Nat) from rngL0 2]
    refine ForL.check (fun _ => true) [some (machV (signS m g) bs ms es), none, none, none, none, none, none, some (th), none, none, none, none] (fun v hv => ?_) (fun _ σ' l => SS.forget l ?_) (by simp [Less])
    · obtain ⟨k, hk, rfl⟩ := List.mem_map.mp hv
      clear hv
      refine SA.name (by (with_reducible (repeat (first | exact Put.loc | exact Put.cell | apply Put.tail)))) ?_
      refine SS.ifX false ?_ (fun h => by cases h) fun _ => ?_
      · (repeat walk_at "m.one")
        refine c_l_word_refused W hb ?_
        (repeat walk_at "m.one")
        refine S2.neSelf (dt := .tuple [.str "refused", .str "word"]) (.tup (.cons .str (.cons .str .nil))) (.tup (.cons .str (.cons .str .nil))) (by decide +kernel) ?_
        (repeat walk_at "m.one")
        exact ⟨rfl, rfl⟩
      (repeat walk_at "m.one")
      exact ⟨rfl, by simp [Less], rfl⟩
    · (repeat walk_at "m.one")
      exact ⟨rfl, by simp [Less], rfl⟩
  · (repeat walk_at "m.one")
    exact q

theorem drop_cons {f : Nat → V} {n k : Nat} {v : V} {vs : List V} (h : v :: vs = ((List.range n).map f).drop k) : k < n ∧ v = f k ∧ vs = ((List.range n).map f).drop (k + 1) := by
  have hk : k < n := by
    refine Nat.lt_of_not_le fun q => ?_
    rw [List.drop_eq_nil_of_le (by simpa using q)] at h; cases h
  rw [List.drop_eq_getElem_cons (by simpa using hk)] at h
  simp at h
  exact ⟨hk, h.1, by rw [h.2]⟩
theorem drop_nil {f : Nat → V} {n k : Nat} (hk : k ≤ n) (h : [] = ((List.range n).map f).drop k) : k = n := by
  have := congrArg List.length h
  simp at this; omega
theorem snoc_loc {i : Nat} {f : Nat → Addr} {a : Addr} : (List.range i).map (fun k => V.loc (f k)) ++ [V.loc a] = (List.range (i + 1)).map fun k => V.loc (if k = i then a else f k) := by
  rw [List.range_succ, List.map_append]
  congr 1
  · refine List.map_congr_left fun k hk => ?_
    rw [if_neg (by have := List.mem_range.mp hk; omega)]
  · simp
/-- lists made anew -/
structure Rw (η1 : Hp) (R : Nat → List V) (i : Nat) (rr : Nat → Addr) (η2 : Hp) : Prop where
  ext : Ext η1 η2
  hr : ∀ k, k < i → η2 (rr k) = some (.lst (R k))
  rn : ∀ k, k < i → η1 (rr k) = none
theorem Rw.next {η1 η2 : Hp} {R : Nat → List V} {i : Nat} {rr : Nat → Addr} {a : Addr} (h : Rw η1 R i rr η2) (na : η2 a = none) : Rw η1 R (i + 1) (fun k => if k = i then a else rr k) (η2.set a (.lst (R i))) := by
  refine ⟨h.ext.trans (Ext.set na), fun k hk => ?_, fun k hk => ?_⟩
  · by_cases e : k = i
    · subst e; simp only [if_true]; rw [Hp.set_self]
    · simp only [if_neg e]
      have := h.hr k (by omega)
      rw [Hp.set_ne _ _ (fun q => by rw [q, na] at this; cases this)]; exact this
  · by_cases e : k = i
    · simp only [if_pos e]; exact h.ext.none na
    · simp only [if_neg e]; exact h.rn k (by omega)
structure Crt (η0 : Hp) (n : Nat) (T : Nat → Nat → Nat → Int) (r : Int) (k : Nat) (ta : Nat → Addr) (ra : Nat → Nat → Addr) (η1 : Hp) : Prop where
  ext : Ext η0 η1
  ht : ∀ j, j < k → η1 (ta j) = some (.lst ((List.range n).map fun i => V.loc (ra j i)))
  hr : ∀ j i, j < k → i < n → η1 (ra j i) = some (.lst (rowS n (T j i) r))
  ti : ∀ j j', j < j' → j' < k → ta j ≠ ta j'
  tr : ∀ j j' i, j < k → j' < k → i < n → ta j ≠ ra j' i
theorem Crt.next {η0 η1 η2 : Hp} {n k : Nat} {T : Nat → Nat → Nat → Int} {r : Int} {ta rr : Nat → Addr} {ra : Nat → Nat → Addr} {t : Addr} (h : Crt η0 n T r k ta ra η1) (w : Rw η1 (fun i => rowS n (T k i) r) n rr η2) (nt : η2 t = none) :
    Crt η0 n T r (k + 1) (fun j => if j = k then t else ta j) (fun j => if j = k then rr else ra j) (η2.set t (.lst ((List.range n).map fun i => V.loc (rr i)))) := by
  have keep : ∀ x o, η2 x = some o → (η2.set t (.lst ((List.range n).map fun i => V.loc (rr i)))) x = some o := fun x o e => (Hp.set_ne _ _ fun q => by rw [q, nt] at e; cases e).trans e
  have net : ∀ x o, η2 x = some o → x ≠ t := fun x o e q => by rw [q, nt] at e; cases e
  refine ⟨(h.ext.trans w.ext).trans (Ext.set nt), fun j hj => ?_, fun j i hj hi => ?_, fun j j' hj hj' => ?_, fun j j' i hj hj' hi => ?_⟩
  · by_cases e : j = k
    · subst e; simp only [if_true]; rw [Hp.set_self]
    · simp only [if_neg e]; exact keep _ _ (w.ext _ _ (h.ht j (by omega)))
  · by_cases e : j = k
    · subst e; simp only [if_true]; exact keep _ _ (w.hr i hi)
    · simp only [if_neg e]; exact keep _ _ (w.ext _ _ (h.hr j i (by omega) hi))
  · simp only [if_neg (show j ≠ k by omega)]
    by_cases e : j' = k
    · simp only [if_pos e]; exact net _ _ (w.ext _ _ (h.ht j (by omega)))
    · simp only [if_neg e]; exact h.ti j j' hj (by omega)
  · by_cases e : j = k
    · simp only [if_pos e]
      by_cases e' : j' = k
      · simp only [if_pos e']; exact (net _ _ (w.hr i hi)).symm
      · simp only [if_neg e']; exact (net _ _ (w.ext _ _ (h.hr j' i (by omega) hi))).symm
    · simp only [if_neg e]
      by_cases e' : j' = k
      · simp only [if_pos e']
        intro q
        have h1 := h.ht j (by omega)
        rw [q, w.rn i hi] at h1; cases h1
      · simp only [if_neg e']; exact h.tr j j' i (by omega) (by omega) hi
/-- a short list -/
noncomputable def Sml (η : Hp) (a : Addr) : Prop := ∃ vs, η a = some (.lst vs) ∧ vs.length ≤ 100
theorem Sml.set {η : Hp} {a b : Addr} {ws : List V} (h : Sml η a) (hl : ws.length ≤ 100) : Sml (η.set b (.lst ws)) a := by
  by_cases e : a = b
  · subst e; exact ⟨ws, Hp.set_self .., hl⟩
  · obtain ⟨vs, h1, h2⟩ := h; exact ⟨vs, (Hp.set_ne _ _ e).trans h1, h2⟩
/-- the lists while they are emptied -/
structure MI (m n k : Nat) (a1 a2 a3 : Addr) (ta : Nat → Addr) (ra : Nat → Nat → Addr) (η : Hp) : Prop where
  top : η a2 = some (.lst ((List.range m).map fun j => V.loc (ta j)))
  tab : ∀ j, k ≤ j → j < m → η (ta j) = some (.lst ((List.range n).map fun i => V.loc (ra j i)))
  row : ∀ j i, j < m → i < n → Sml η (ra j i)
  beg : Sml η a1
  fin : Sml η a3
structure DS (m n : Nat) (a2 : Addr) (ta : Nat → Addr) (ra : Nat → Nat → Addr) : Prop where
  t2 : ∀ j, j < m → a2 ≠ ta j
  r2 : ∀ j i, j < m → i < n → a2 ≠ ra j i
  ti : ∀ j j', j < j' → j' < m → ta j ≠ ta j'
  tr : ∀ j j' i, j < m → j' < m → i < n → ta j ≠ ra j' i
theorem MI.clear {m n k j i : Nat} {a1 a2 a3 : Addr} {ta : Nat → Addr} {ra : Nat → Nat → Addr} {η : Hp} (D : DS m n a2 ta ra) (h : MI m n k a1 a2 a3 ta ra η) (hj : j < m) (hi : i < n) : MI m n k a1 a2 a3 ta ra (η.set (ra j i) (.lst [])) :=
  ⟨(Hp.set_ne _ _ (D.r2 j i hj hi)).trans h.top, fun j' h1 h2 => (Hp.set_ne _ _ (D.tr j' j i h2 hj hi)).trans (h.tab j' h1 h2), fun j' i' h1 h2 => (h.row j' i' h1 h2).set (by simp), h.beg.set (by simp), h.fin.set (by simp)⟩
theorem MI.app {m n k : Nat} {a1 a2 a3 : Addr} {ta : Nat → Addr} {ra : Nat → Nat → Addr} {η : Hp} {ws : List V} (D : DS m n a2 ta ra) (h : MI m n k a1 a2 a3 ta ra η) (hk : k < m) (hl : ws.length ≤ 100) : MI m n (k + 1) a1 a2 a3 ta ra (η.set (ta k) (.lst ws)) :=
  ⟨(Hp.set_ne _ _ (D.t2 k hk)).trans h.top, fun j' h1 h2 => (Hp.set_ne _ _ (Ne.symm (D.ti k j' (by omega) h2))).trans (h.tab j' (by omega) h2), fun j' i' h1 h2 => (h.row j' i' h1 h2).set hl, h.beg.set hl, h.fin.set hl⟩
theorem handed_pyr {η : Hp} {m n : Nat} {g : Nat → Nat} {b e : Nat → Int} {T : Nat → Nat → Nat → Int} {p r s : Int} {a1 a2 a3 : Addr} {ta : Nat → Addr} {ra : Nat → Nat → Addr} (H : HM η m n b e T p r s a1 a2 a3 ta ra) :
    PyR η (.lst [.str (signS m g), .loc a1, .loc a2, .loc a3]) (partsD m n g b T e p r s) := by
  have rows : ∀ (f : Nat → Int) (D : Int), PyRs η (rowS n f D) ((List.range n).map fun k => shareD (f k) D) := fun f D => pyrs_range (fun k => .tup (.cons .int (.cons .int .nil))) _
  have go : ∀ (f : Nat → V) (h : Nat → PyData) (l : List Nat), (∀ k ∈ l, PyR η (f k) (h k)) → PyRs η (l.map f) (l.map h) := fun f h l => by
    induction l with
    | nil => intro _; exact .nil
    | cons k l ih => intro q; exact .cons (q k (.head _)) (ih fun j hj => q j (.tail _ hj))
  refine .lst (.cons .str (.cons (.loc H.hb (rows b p)) (.cons (.loc H.hm ?_) (.cons (.loc H.he (rows e s)) .nil))))
  refine go _ _ _ fun k hk => .loc (H.ht k (List.mem_range.mp hk)) (go _ _ _ fun i hi => .loc (H.hr k i (List.mem_range.mp hk) (List.mem_range.mp hi)) (rows _ _))
theorem lst_set {η : Hp} {a b : Addr} {ws : List V} (h : ∃ vs, η a = some (.lst vs)) : ∃ vs, (η.set b (.lst ws)) a = some (.lst vs) := by
  by_cases e : a = b
  · subst e; exact ⟨ws, Hp.set_self ..⟩
  · obtain ⟨vs, h1⟩ := h; exact ⟨vs, (Hp.set_ne _ _ e).trans h1⟩

theorem c_law (W : Wl c) {ns : List Int} (hns : ∀ n ∈ ns, Builtin.Int.intBits n ≤ 2 ^ 20) (q : ∀ η, Q (.bool true) η) : SC c (d + 12) true (.ref p_law) [.lst (ns.map V.int)] η Q X := by
  have sl : sizeLine = 16777216 := by decide
  have np : ∀ a b : Int, b.natAbs < 2 ^ 9000 → Builtin.divisionGoesByPylong a b = false := fun a b h => noPylong_pow h
  ((refine SC.def2 (by assumption) (by rfl) (by kernel_rfl) (by kernel_rfl) (by rfl) (by rfl) ?_; dsimp only [initσ]))
  (repeat walk_at "m.one")
  refine c_l_cell_at W (by decide) ?_
  generalize ns.getD (Int.toNat 0) 0 = a
  (repeat walk_at "m.one")
  refine c_l_signs W fun m g hm sg => ?_
  (repeat walk_at "m.one")
  refine S2.divI (by decide) (np _ _ (by decide +kernel)) ?_
  (repeat walk_at "m.one")
  refine S2.modI (by decide) ?_
  have r1 := fmod_range (a.fdiv 7) (b := 4) (by decide)
  generalize (a.fdiv 7).fmod 4 = z at r1
  obtain ⟨n, rfl⟩ := int_nat r1.1
  have lx : (signS m g).length = m := by rw [wordS_len, List.length_range]
  (repeat walk_at "m.one")
  refine c_l_tops W (first := 3) (m := m) (n := n) (by rw [wordS_len, List.length_range]) (by omega) (by omega) (by decide) ?_
  (repeat walk_at "m.one")
  refine c_l_cell_at W (by decide) ?_
  (repeat walk_at "m.one")
  refine c_l_scales W fun p r s sc => ?_
  (repeat walk_at "m.one")
  refine c_l_parts W (by omega) (by omega) sc ?_
  have l1 : ∀ k, k < n → Lb 14 ((fun k => topOf (drawnOf ns (3 + k))) k) := fun k _ => topOf_lb _
  have l2 : ∀ k, k < n → Lb 14 ((fun k => topOf (drawnOf ns (3 + n + k))) k) := fun k _ => topOf_lb _
  have l3 : ∀ s i j, s < m → i < n → j < n → Lb 14 ((fun s i j => topOf (drawnOf ns (3 + 2 * n + s * n * n + i * n + j))) s i j) := fun _ _ _ _ _ _ => topOf_lb _
  generalize (fun k => topOf (drawnOf ns (3 + k))) = b at l1 ⊢
  generalize (fun k => topOf (drawnOf ns (3 + n + k))) = e at l2 ⊢
  generalize (fun s i j => topOf (drawnOf ns (3 + 2 * n + s * n * n + i * n + j))) = T at l3 ⊢
  have B : Bds n m b T e p r s 14 14 10 := ⟨by omega, by omega, sc.p0, sc.r0, sc.s0, l1, l3, l2, sc.lp, sc.lr, sc.ls, by decide, by decide⟩
  (repeat walk_at "m.one")
  refine c_l_cell_at W (by decide) ?_
  generalize ns.getD (Int.toNat 2) 0 = sp
  (repeat walk_at "m.one")
  refine SS.ifX (sp.fmod 3 == 1 && false) (TP.and ?_ fun _ => ?_) (fun h => by simp at h) fun _ => ?_
  · (repeat walk_at "m.one")
    refine S2.modI (by decide) ?_
    (repeat walk_at "m.one")
    exact ⟨rfl, rfl⟩
  · (repeat walk_at "m.one")
    refine S2.divI (by decide) (np _ _ (by decide +kernel)) ?_
    (repeat walk_at "m.one")
    refine c_l_spoilt W sg hm (by omega) sc fun v1 v2 v3 v4 bad => ?_
    (repeat walk_at "m.one")
    refine c_l_told_bad W bad ?_
    (repeat walk_at "m.one")
    refine S2.neSelf (dt := .tuple [.str "refused", .str "machine"]) (.tup (.cons .str (.cons .str .nil))) (.tup (.cons .str (.cons .str .nil))) (by decide +kernel) ?_
    (repeat walk_at "m.one")
    exact ⟨rfl, rfl⟩
  refine SS.ifJ (sp.fmod 7 == 3) [some (.lst (ns.map V.int)), some (.int a), some (.str (signS m g)), some (.int (n : Nat)), some (partsV (signS m g) m n b T e p r s), some (.int sp), none, none, none, none, none, none, none, none, none, none, none, none, none, none, none, none, none, none, none, none, none] ?_ (fun _ => ?_) (fun _ => by simp [Less]) ?_
  · (repeat walk_at "m.one")
    refine S2.modI (by decide) ?_
    (repeat walk_at "m.one")
    exact ⟨rfl, rfl⟩
  · (repeat walk_at "m.one")
    refine S2.divI (by decide) (np _ _ (by decide +kernel)) ?_
    (repeat walk_at "m.one")
    refine S2.modI (by decide) ?_
    have r2 := fmod_range (sp.fdiv 7) (b := 2) (by decide)
    generalize hz : (sp.fdiv 7).fmod 2 = z at r2
    obtain ⟨u, rfl⟩ := int_nat r2.1
    (repeat walk_at "m.one")
    rw [show (12 : Int) + ((u : Nat) : Int) = ((12 + u : Nat) : Int) by simp]
    refine SliceGoal.of (SE.sliceTo ?_)
    (repeat walk_at "m.one")
    refine ⟨_, 1, rfl, rfl, by omega, ?_⟩
    rw [take1_signs]
    (repeat walk_at "m.one")
    have sg1 : Sg (min 1 m) g := ⟨fun k hk => sg.lo k (by omega), fun i j hij hj => sg.up i j hij (by omega)⟩
    have hm1 : min 1 m ≤ 6 := by omega
    generalize min 1 m = m1 at sg1 hm1
    refine c_l_wide W hm1 (by omega) ?_
    (repeat walk_at "m.one")
    have okS := signsV_of sg1 hm1
    have lB : (rowS (12 + u) (fun _ => 1) 1).length = 12 + u := by simp
    have okB : rowV (rowS (12 + u) (fun _ => 1) 1).length (.lst (rowS (12 + u) (fun _ => 1) 1)) = true := by rw [lB]; exact rowV_of (by decide)
    -- told of the wide one
    have last : ∀ {σ : List (Option V)} {nm : List (Str × NameKind)} {d' : Nat} {Q' : V → Hp → Prop} {X' : Addr → Hp → Prop}, Q' (.tup [.str "refused", .str "machine"]) η → SC c (d' + 7) true (.ref l_told) [.lst [.str (signS m1 g), .lst (rowS (12 + u) (fun _ => 1) 1), .lst (tabsS m1 (12 + u) (fun _ _ _ => 1) 1), .lst ((rowS (12 + u) (fun _ => 1) 1).drop 1)]] η Q' X' := fun {σ nm d' Q' X'} k => by
      refine c_l_told_bad W (.late okS (by omega) okB (.ends ?_ ?_)) k
      · unfold okR; dsimp only
        rw [decide_eq_true (by rw [List.length_drop]; omega), Bool.true_and, List.all_eq_true]
        intro x hx
        exact row_okT x (List.mem_of_mem_drop hx)
      · unfold rowV; dsimp only
        rw [decide_eq_false (by rw [List.length_drop]; omega), Bool.false_and]
    have hu : u < 2 := by omega
    match u, hu with
    | 0, _ =>
      refine c_l_told_good W (machOk_of sg1 hm1 (by omega) (by decide) (by decide) (by decide)) ?_
      (repeat walk_at "m.one")
      refine SS.ifX (false && false) (TP.and ?_ fun h => by cases h) (fun h => by simp at h) fun _ => ?_
      · (repeat walk_at "m.one")
        refine S2.divI (by decide) (np _ _ (by decide +kernel)) ?_
        (repeat walk_at "m.one")
        refine S2.modI (by decide) ?_
        rw [hz]
        (repeat walk_at "m.one")
        exact ⟨rfl, rfl⟩
      refine SS.ifX (true && (!true || false)) (TP.and ?_ fun _ => TP.or (TP.not ?_) fun _ => ?_) (fun h => by simp at h) fun _ => ?_
      · (repeat walk_at "m.one")
        refine S2.divI (by decide) (np _ _ (by decide +kernel)) ?_
        (repeat walk_at "m.one")
        refine S2.modI (by decide) ?_
        rw [hz]
        (repeat walk_at "m.one")
        exact ⟨rfl, rfl⟩
      · (repeat walk_at "m.one")
        refine SC.isi_obj W (b := true) (by kernel_rfl) (by kernel_rfl) ?_
        (repeat walk_at "m.one")
        exact ⟨rfl, rfl⟩
      · (repeat walk_at "m.one")
        refine c_rooms W ?_
        simp only [List.length_map, List.length_range]
        (repeat walk_at "m.one")
        exact ⟨rfl, rfl⟩
      refine SS.ifX false ?_ (fun h => by cases h) fun _ => ?_
      · (repeat walk_at "m.one")
        refine SliceGoal.of (SE.sliceFromT ?_)
        (repeat walk_at "m.one")
        refine ⟨_, 1, rfl, rfl, ?_⟩
        (repeat walk_at "m.one")
        refine last (σ := []) (nm := []) ?_
        (repeat walk_at "m.one")
        refine S2.neSelf (dt := .tuple [.str "refused", .str "machine"]) (.tup (.cons .str (.cons .str .nil))) (.tup (.cons .str (.cons .str .nil))) (by decide +kernel) ?_
        (repeat walk_at "m.one")
        exact ⟨rfl, rfl⟩
      (repeat walk_at "m.one")
      exact ⟨by simp [Less], rfl⟩
    | 1, _ =>
      refine c_l_told_many W okS (by omega) okB (by rw [lB]; exact rowV_of (by decide)) (by rw [wordS_len]; simp) (fun t ht => ?_) (by omega) ?_
      · obtain ⟨k, _, rfl⟩ := List.mem_map.mp ht
        rw [lB]; exact tabV_of (by decide)
      (repeat walk_at "m.one")
      refine SS.ifX (true && false) (TP.and ?_ fun _ => ?_) (fun h => by simp at h) fun _ => ?_
      · (repeat walk_at "m.one")
        refine S2.divI (by decide) (np _ _ (by decide +kernel)) ?_
        (repeat walk_at "m.one")
        refine S2.modI (by decide) ?_
        rw [hz]
        (repeat walk_at "m.one")
        exact ⟨rfl, rfl⟩
      · (repeat walk_at "m.one")
        refine S2.neSelf (dt := .tuple [.str "refused", .str "many"]) (.tup (.cons .str (.cons .str .nil))) (.tup (.cons .str (.cons .str .nil))) (by decide +kernel) ?_
        (repeat walk_at "m.one")
        exact ⟨rfl, rfl⟩
      refine SS.ifX (false && false) (TP.and ?_ fun h => by cases h) (fun h => by simp at h) fun _ => ?_
      · (repeat walk_at "m.one")
        refine S2.divI (by decide) (np _ _ (by decide +kernel)) ?_
        (repeat walk_at "m.one")
        refine S2.modI (by decide) ?_
        rw [hz]
        (repeat walk_at "m.one")
        exact ⟨rfl, rfl⟩
      refine SS.ifX false ?_ (fun h => by cases h) fun _ => ?_
      · (repeat walk_at "m.one")
        refine SliceGoal.of (SE.sliceFromT ?_)
        (repeat walk_at "m.one")
        refine ⟨_, 1, rfl, rfl, ?_⟩
        (repeat walk_at "m.one")
        refine last (σ := []) (nm := []) ?_
        (repeat walk_at "m.one")
        refine S2.neSelf (dt := .tuple [.str "refused", .str "machine"]) (.tup (.cons .str (.cons .str .nil))) (.tup (.cons .str (.cons .str .nil))) (by decide +kernel) ?_
        (repeat walk_at "m.one")
        exact ⟨rfl, rfl⟩
      (repeat walk_at "m.one")
      exact ⟨by simp [Less], rfl⟩
  -- the lists that are handed in
  (repeat walk_at "m.one")
  refine SC.listM fun a1 n1 => ?_
  (repeat walk_at "m.one")
  refine SE.compM ["_law_table"] none (by (with_reducible (repeat (first | exact CapR.nil | apply CapR.own (by decide) | apply CapR.cap (by repeat (first | exact At.head | apply At.tail)) | apply CapR.capF (by repeat (first | exact At.head | apply At.tail)))))) (SJ.of ?_)
  (repeat walk_at "m.one")
  refine ⟨_, SI.lst, range_len (by omega), ?_⟩
  refine CompLG.foldH (α := Nat × (Nat → Addr) × (Nat → Nat → Addr) × Hp) (fun u => u.2.2.2)
    (fun u vs ws => u.1 ≤ m ∧ vs = ((List.range m).map fun k => V.lst (tabS n (T k) r)).drop u.1 ∧ ws = (List.range u.1).map (fun k => V.loc (u.2.1 k)) ∧ Crt (η.set a1 (.lst (rowS n b p))) n T r u.1 u.2.1 u.2.2.1 u.2.2.2)
    (0, (fun _ => a1), (fun _ _ => a1), η.set a1 (.lst (rowS n b p))) ⟨Nat.zero_le _, rfl, rfl, ⟨Ext.refl _, (fun j hj => by cases hj), (fun j i hj => by cases hj), (fun j j' _ hj => by cases hj), (fun j j' i hj => by cases hj)⟩⟩ (fun _ _ _ _ => trivial) (fun u v vs ws hp => ?_) (fun u ws hp => ?_)
  · obtain ⟨k, ta, ra, η1⟩ := u
    obtain ⟨hk, hv, rfl, cr⟩ := hp
    dsimp only at hk hv cr ⊢
    obtain ⟨hk', rfl, hvs⟩ := drop_cons hv
    refine ⟨_, SA.name (by (with_reducible (repeat (first | exact Put.loc | exact Put.cell | apply Put.tail)))) rfl, by simp [Less], ?_⟩
    refine SE.compM ["_law_row_here"] none (by (with_reducible (repeat (first | exact CapR.nil | apply CapR.own (by decide) | apply CapR.cap (by repeat (first | exact At.head | apply At.tail)) | apply CapR.capF (by repeat (first | exact At.head | apply At.tail)))))) (SJ.of ?_)
    (repeat walk_at "m.one")
    refine ⟨_, SI.lst, range_len (by omega), ?_⟩
    refine CompLG.foldH (α := Nat × (Nat → Addr) × Hp) (fun u => u.2.2)
      (fun u vs ws => u.1 ≤ n ∧ vs = ((List.range n).map fun i => V.lst (rowS n (T k i) r)).drop u.1 ∧ ws = (List.range u.1).map (fun i => V.loc (u.2.1 i)) ∧ Rw η1 (fun i => rowS n (T k i) r) u.1 u.2.1 u.2.2)
      (0, (fun _ => a1), η1) ⟨Nat.zero_le _, rfl, rfl, ⟨Ext.refl _, (fun j hj => by cases hj), (fun j hj => by cases hj)⟩⟩ (fun _ _ _ _ => trivial) (fun u v vs ws hp => ?_) (fun u ws hp => ?_)
    · obtain ⟨i, rr, η2⟩ := u
      obtain ⟨hi, hv, rfl, rw'⟩ := hp
      dsimp only at hi hv rw' ⊢
      obtain ⟨hi', rfl, hvs'⟩ := drop_cons hv
      refine ⟨_, SA.name (by (with_reducible (repeat (first | exact Put.loc | exact Put.cell | apply Put.tail)))) rfl, by simp [Less], ?_⟩
      (repeat walk_at "m.one")
      refine SC.listM fun ad nd => ?_
      exact ⟨(i + 1, (fun k => if k = i then ad else rr k), η2.set ad (.lst (rowS n (T k i) r))), ⟨hi', hvs', snoc_loc, rw'.next nd⟩, rfl⟩
    · obtain ⟨i, rr, η2⟩ := u
      obtain ⟨hi, hv, rfl, rw'⟩ := hp
      dsimp only at hi hv rw' ⊢
      have := drop_nil hi hv
      subst this
      intro t nt
      exact ⟨(k + 1, (fun j => if j = k then t else ta j), (fun j => if j = k then rr else ra j), η2.set t (.lst ((List.range i).map fun i => V.loc (rr i)))), ⟨hk', hvs, snoc_loc, cr.next rw' nt⟩, rfl⟩
  obtain ⟨k, ta, ra, η1⟩ := u
  obtain ⟨hk, hv, rfl, cr⟩ := hp
  dsimp only at hk hv cr ⊢
  have := drop_nil hk hv
  subst this
  intro a2 n2
  (repeat walk_at "m.one")
  refine SC.listM fun a3 n3 => ?_
  (repeat walk_at "m.one")
  -- what lies where
  have keep : ∀ x o, η1 x = some o → ((η1.set a2 (.lst ((List.range k).map fun j => V.loc (ta j)))).set a3 (.lst (rowS n e s))) x = some o := fun x o h => by
    have n3' : η1 a3 = none := by
      by_cases q : a3 = a2
      · rw [q]; exact n2
      · rw [Hp.set_ne _ _ q] at n3; exact n3
    rw [Hp.set_ne _ _ (fun q => by rw [q, n3'] at h; cases h), Hp.set_ne _ _ (fun q => by rw [q, n2] at h; cases h)]; exact h
  have a23 : a2 ≠ a3 := fun q => by rw [← q, Hp.set_self] at n3; cases n3
  have H : HM ((η1.set a2 (.lst ((List.range k).map fun j => V.loc (ta j)))).set a3 (.lst (rowS n e s))) k n b e T p r s a1 a2 a3 ta ra :=
    ⟨keep _ _ (cr.ext _ _ (Hp.set_self ..)), Hp.set_self .., (Hp.set_ne _ _ a23).trans (Hp.set_self ..), fun j hj => keep _ _ (cr.ht j hj), fun j i hj hi => keep _ _ (cr.hr j i hj hi)⟩
  have D : DS k n a2 ta ra := ⟨fun j hj q => (by have := cr.ht j hj; rw [← q, n2] at this; cases this), fun j i hj hi q => (by have := cr.hr j i hj hi; rw [← q, n2] at this; cases this), cr.ti, cr.tr⟩
  have M0 : MI k n 0 a1 a2 a3 ta ra ((η1.set a2 (.lst ((List.range k).map fun j => V.loc (ta j)))).set a3 (.lst (rowS n e s))) :=
    ⟨H.hm, fun j _ hj => H.ht j hj, fun j i hj hi => ⟨_, H.hr j i hj hi, by simp; omega⟩, ⟨_, H.hb, by simp; omega⟩, ⟨_, H.he, by simp; omega⟩⟩
  generalize (η1.set a2 (.lst ((List.range k).map fun j => V.loc (ta j)))).set a3 (.lst (rowS n e s)) = η3 at H M0 ⊢
  clear keep cr n3 n2 hv
  refine c_l_toldG W H sg (by omega) (by omega) sc ?_
  (repeat walk_at "m.one")
  refine SS.ifX (!true || false) (TP.or (TP.not ?_) fun _ => ?_) (fun h => by simp at h) fun _ => ?_
  · (repeat walk_at "m.one")
    refine SC.isi_obj W (b := true) (by kernel_rfl) (by kernel_rfl) ?_
    (repeat walk_at "m.one")
    exact ⟨rfl, rfl⟩
  · (repeat walk_at "m.one")
    refine S2.neSelf (dt := partsD k n g b T e p r s) (handed_pyr H) (.lst (.cons .str (.cons row_pyr (.cons tabs_pyr (.cons row_pyr .nil))))) ((parts_lay sg).shaped (by decide)) ?_
    (repeat walk_at "m.one")
    exact ⟨rfl, rfl⟩
  -- they are emptied
  refine SS.forJ ["_law_table"] (SJ.loc ?_)
  (repeat walk_at "m.one")
  refine ⟨a2, _, rfl, H.hm, ?_⟩
  refine ForLG.foldH (α := Nat × Hp) [some (.lst (ns.map V.int)), some (.int a), some (.str (signS k g)), some (.int (n : Nat)), some (partsV (signS k g) k n b T e p r s), some (.int sp), none, none, none, none, some (.lst [.str (signS k g), .loc a1, .loc a2, .loc a3]), some (machV (signS k g) (rowS n b p) (tabsS k n T r) (rowS n e s)), none, none, none, none, none, none, none, none, none, none, none, none, none, none, none] (fun u => u.2)
    (fun u vs => u.1 ≤ k ∧ vs = ((List.range k).map fun j => V.loc (ta j)).drop u.1 ∧ MI k n u.1 a1 a2 a3 ta ra u.2) (0, η3) ⟨Nat.zero_le _, rfl, M0⟩ (fun u _ hp => hp.2.2.top) (fun u v vs hp => ?_) (fun u σ' hp l => SS.forget l ?_) (by simp [Less])
  · obtain ⟨j, η4⟩ := u
    obtain ⟨hj, hv, M⟩ := hp
    dsimp only at hj hv M ⊢
    obtain ⟨hj', rfl, hvs⟩ := drop_cons hv
    refine SA.name (by (with_reducible (repeat (first | exact Put.loc | exact Put.cell | apply Put.tail)))) ?_
    refine SS.forJ ["_law_row_here"] (SJ.loc ?_)
    (repeat walk_at "m.one")
    refine ⟨ta j, _, rfl, M.tab j (Nat.le_refl _) hj', ?_⟩
    refine ForLG.foldH (α := Hp) [some (.lst (ns.map V.int)), some (.int a), some (.str (signS k g)), some (.int (n : Nat)), some (partsV (signS k g) k n b T e p r s), some (.int sp), none, none, some (.loc (ta j)), none, some (.lst [.str (signS k g), .loc a1, .loc a2, .loc a3]), some (machV (signS k g) (rowS n b p) (tabsS k n T r) (rowS n e s)), none, none, none, none, none, none, none, none, none, none, none, none, none, none, none] (fun u => u)
      (fun u vs => (∀ v ∈ vs, ∃ i, i < n ∧ v = V.loc (ra j i)) ∧ MI k n j a1 a2 a3 ta ra u) η4 ⟨fun v hv => ?_, M⟩ (fun u _ hp => hp.2.tab j (Nat.le_refl _) hj') (fun u v vs hp => ?_) (fun u σ' hp l => SS.forget l ?_) (by simp [Less])
    · obtain ⟨i, hi, rfl⟩ := List.mem_map.mp hv
      exact ⟨i, List.mem_range.mp hi, rfl⟩
    · obtain ⟨hin, M'⟩ := hp
      obtain ⟨i, hi, rfl⟩ := hin v (.head _)
      obtain ⟨rs, hrs, _⟩ := M'.row j i hj' hi
      refine SA.name (by (with_reducible (repeat (first | exact Put.loc | exact Put.cell | apply Put.tail)))) ?_
      refine SS.expr ?_
      with_reducible refine SE.meth (A.var ⟨_, Meth.clear hrs, Callee.bi, ?_⟩)
      (repeat walk_at "m.one")
      refine SC.clear hrs ?_
      (repeat walk_at "m.one")
      exact ⟨_, ⟨fun v hv => hin v (.tail _ hv), M'.clear D hj' hi⟩, by simp [Less], rfl⟩
    · obtain ⟨_, M'⟩ := hp
      refine SS.expr ?_
      with_reducible refine SE.meth (A.var ⟨_, Meth.append (M'.tab j (Nat.le_refl _) hj'), Callee.bi, ?_⟩)
      (repeat walk_at "m.one")
      refine SC.append (M'.tab j (Nat.le_refl _) hj') (by simp; omega) ?_
      (repeat walk_at "m.one")
      exact ⟨(j + 1, _), ⟨hj', hvs, M'.app D hj' (by simp; omega)⟩, by simp [Less], rfl⟩
  obtain ⟨j, η4⟩ := u
  obtain ⟨hj, hv, M⟩ := hp
  dsimp only at hj hv M ⊢
  obtain ⟨v1, e1, h1⟩ := M.beg
  refine SS.expr ?_
  with_reducible refine SE.meth ?_
  (repeat walk_at "m.one")
  refine ⟨_, Meth.append e1, Callee.bi, ?_⟩
  (repeat walk_at "m.one")
  refine SC.append e1 (by omega) ?_
  obtain ⟨v2, e2⟩ := lst_set (b := a1) (ws := v1 ++ [.tup [.int 1, .int 1]]) ⟨_, M.top⟩
  obtain ⟨v3, e3, _⟩ := M.fin
  obtain ⟨v4, e4⟩ := lst_set (b := a2) (ws := []) (lst_set (b := a1) (ws := v1 ++ [.tup [.int 1, .int 1]]) ⟨_, e3⟩)
  refine SS.expr ?_
  with_reducible refine SE.meth ?_
  (repeat walk_at "m.one")
  refine ⟨_, Meth.clear e2, Callee.bi, ?_⟩
  (repeat walk_at "m.one")
  refine SC.clear e2 ?_
  refine SS.expr ?_
  with_reducible refine SE.meth ?_
  (repeat walk_at "m.one")
  refine ⟨_, Meth.clear e4, Callee.bi, ?_⟩
  (repeat walk_at "m.one")
  refine SC.clear e4 ?_
  generalize ((η4.set a1 (.lst (v1 ++ [.tup [.int 1, .int 1]]))).set a2 (.lst [])).set a3 (.lst []) = η5
  clear e1 e2 e3 e4 M D H M0
  refine SS.ifX (false || false) (TP.or ?_ fun _ => ?_) (fun h => by simp at h) fun _ => ?_
  · (repeat walk_at "m.one")
    refine SE.attr (A.var ?_)
    refine mach_signs W ?_
    (repeat walk_at "m.one")
    refine SE.attr (A.var ?_)
    refine mach_begins W ?_
    (repeat walk_at "m.one")
    refine SE.attr (A.var ?_)
    refine mach_moves W ?_
    (repeat walk_at "m.one")
    refine SE.attr (A.var ?_)
    refine mach_ends W ?_
    (repeat walk_at "m.one")
    refine S2.neSelf (dt := partsD k n g b T e p r s) (.lst (.cons .str (.cons row_pyr (.cons tabs_pyr (.cons row_pyr .nil))))) (.lst (.cons .str (.cons row_pyr (.cons tabs_pyr (.cons row_pyr .nil))))) ((parts_lay sg).shaped (by decide)) ?_
    (repeat walk_at "m.one")
    exact ⟨rfl, rfl⟩
  · (repeat walk_at "m.one")
    refine c_rooms W ?_
    simp only [List.length_map, List.length_range]
    (repeat walk_at "m.one")
    exact ⟨by simp, rfl⟩
  have hw : ∀ s ∈ List.range k, s < k := fun s hs => List.mem_range.mp hs
  have hl : (List.range k).length ≤ 20 := by simp; omega
  (repeat walk_at "m.one")
  refine c_weight W sg B hw hl ?_
  (repeat walk_at "m.one")
  refine c_row_of W sg B hw hl ?_
  (repeat walk_at "m.one")
  refine SS.ifX (!true) (TP.not ?_) (fun h => by simp at h) fun _ => ?_
  · (repeat walk_at "m.one")
    refine S2.divI (by decide) (np _ _ (by decide +kernel)) ?_
    (repeat walk_at "m.one")
    refine c_l_words_refused W sg (by omega) ?_
    (repeat walk_at "m.one")
    exact ⟨rfl, rfl⟩
  (repeat walk_at "m.one")
  refine c_weight W sg B hw hl ?_
  (repeat walk_at "m.one")
  refine c_row_of W sg B hw hl ?_
  (repeat walk_at "m.one")
  refine S2.eqSelf (dt := .tuple [shareD (dotN n (wordF n T b (List.range k)) e) (p * r ^ (List.range k).length * s), rowD n (wordF n T b (List.range k)) (p * r ^ (List.range k).length)])
    (.tup (.cons (.tup (.cons .int (.cons .int .nil))) (.cons row_pyr .nil))) (.tup (.cons (.tup (.cons .int (.cons .int .nil))) (.cons row_pyr .nil))) ?_ (q _)
  refine (Lay.tuple (k := 2) fun d hd => ?_).shaped (by decide)
  simp only [List.mem_cons, List.not_mem_nil, or_false] at hd
  rcases hd with rfl | rfl
  · exact share_lay.mono (by decide)
  · exact row_lay

end
end Mine

theorem PySem.Challenge.cw_uf020009_05_holds : PySem.Challenge.rw_uf020009_05.Holds :=
  Mine.Hd.hd (by
    intro w s₀ s₁ mg mb G Y fa o pm cd doc dV kV ho hd hcd hD hmg hg args vals as hpre hlay hrd hwl hlo
    have KX := kIn_of Y
    refine Ground.open G ?_
    intro T B D TE TW
    wrow_args hpre hlay hrd hwl hlo
    rename_i ns _ _ hL _ _ _ _ l _ _ _ _ w1 _ _ _ hlen _
    refine Mine.law_end (a := Mine.p_law) T KX hg (Mine.gt_ok _) (Mine.bt_ok _) Mine.bt_ok' w1 (by omega) hL hmg (by decide +kernel) (fun _ => rfl) (by kernel_rfl) fun c W => ?_
    exact Mine.c_law W (Mine.bits_of_layable hL) (by first | exact rfl | exact fun _ => rfl))
