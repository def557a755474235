import PyProof.Rows.All
import PyProof.Raises
import PyProof.Calls
import PyProof.RulesRaise
import PyProof.Rules2
import PyProof.Ends
import PyProof.Rows.Frame
import PyProof.Rules3
import PyProof.SeqI
import PyProof.CallRoads
import PyProof.Cells
import PyProof.CompMap
import PyProof.CompUse
import PyProof.ConsumeWalk
import PyProof.CompFree
import PyProof.PureInt
import PyProof.DefCall
import PyProof.Dict
import PyProof.ListOps
import PyProof.RaisesMany
import PyProof.WalksMore
import PyProof.RangeFor
import PyProof.IsiHeapPairs
import PyProof.IsiNone
import PyProof.IsiPairs
import PyProof.LetGo
import PyProof.ListCopy
import PyProof.Rows.Tup
import PyProof.Rows.TupSub
import PyProof.TupleCall
import PyProof.Rows.Exc
import PyProof.Rows.Chain
import PyProof.Rows.RuleB_pow
import PyProof.Rows.RuleB_floordiv
import PyProof.Rows.RuleB_mod
import PyProof.Rows.StrTemp
import PyProof.Rows.TupMore
import PyProof.SliceMore
import PyProof.Rows.Walk
import PyProof.Rows.TupAdd
import PyProof.TupleOfSeq
import OpenK.KLine
import Wide.All
import PySem.Challenge.RW_uf010038_01
set_option Elab.async false
set_option linter.all false
open PySem
namespace Mine

/-- plain values: tuples are trees, a ref is a mutable thing -/
inductive V where
  | none
  | bool (b : Bool)
  | int (i : Int)
  | str (s : Str)
  | tup (l : List V)
  | ref (a : Addr)

inductive AObj where
  | lst (l : List V)
  | dict (l : List (V × V))

abbrev Hp := Addr → Option AObj
def upd (σ : Hp) (a : Addr) (o : AObj) : Hp := fun b => if b = a then some o else σ b
theorem upd_same (σ : Hp) (a : Addr) (o : AObj) : upd σ a o a = some o := if_pos rfl
theorem upd_ne (σ : Hp) {a b : Addr} (o : AObj) (h : b ≠ a) : upd σ a o b = σ b := if_neg h
theorem upd_upd (σ : Hp) (a : Addr) (o o' : AObj) : upd (upd σ a o) a o' = upd σ a o' := by
  funext b; unfold upd; split <;> rfl

def Sub (σ' σ : Hp) : Prop := ∀ a o, σ' a = some o → σ a = some o
theorem Sub.refl (σ : Hp) : Sub σ σ := fun _ _ h => h
theorem Sub.trans {a b c : Hp} (h : Sub a b) (k : Sub b c) : Sub a c := fun x o e => k x o (h x o e)
theorem Sub.upd {σ : Hp} {a : Addr} {o : AObj} (h : σ a = none) : Sub σ (upd σ a o) := fun b o' e => by
  unfold Mine.upd; rw [if_neg (fun q => by rw [q, h] at e; cases e)]; exact e

mutual
inductive Rep (h : Heap) : Value → V → Prop
  | none : Rep h .none .none
  | bool (b : Bool) : Rep h (.bool b) (.bool b)
  | int (i : Int) (t : Tok) : Rep h (.int i t) (.int i)
  | str (x : Str) (t : Tok) : Rep h (.str x t) (.str x)
  | tup {a : Addr} {vs : Array Value} {n : Nat} {l : List V} : h.get? a = some { cls := .type "tuple", data := .seq vs n } → RepL h vs.toList l → Rep h (.ref a) (.tup l)
  | ref (a : Addr) : Rep h (.ref a) (.ref a)
inductive RepL (h : Heap) : List Value → List V → Prop
  | nil : RepL h [] []
  | cons {v : Value} {V : V} {vs : List Value} {l : List Mine.V} : Rep h v V → RepL h vs l → RepL h (v :: vs) (V :: l)
end

def Tups (h h' : Heap) : Prop := ∀ b vs n, h.get? b = some { cls := .type "tuple", data := .seq vs n } → h'.get? b = some { cls := .type "tuple", data := .seq vs n }
theorem Tups.refl (h : Heap) : Tups h h := fun _ _ _ e => e
theorem Tups.trans {a b c : Heap} (x : Tups a b) (y : Tups b c) : Tups a c := fun d vs n e => y d vs n (x d vs n e)

mutual
theorem Rep.mono {h h' : Heap} {v : Value} {V : V} (k : Tups h h') : Rep h v V → Rep h' v V
  | .none => .none
  | .bool b => .bool b
  | .int i t => .int i t
  | .str x t => .str x t
  | .tup ho r => .tup (k _ _ _ ho) (RepL.mono k r)
  | .ref a => .ref a
theorem RepL.mono {h h' : Heap} {vs : List Value} {l : List V} (k : Tups h h') : RepL h vs l → RepL h' vs l
  | .nil => .nil
  | .cons r rs => .cons (Rep.mono k r) (RepL.mono k rs)
end

theorem RepL.length {h : Heap} : ∀ {vs : List Value} {l : List V}, RepL h vs l → vs.length = l.length
  | _, _, .nil => rfl
  | _, _, .cons _ r => by rw [List.length_cons, List.length_cons, r.length]
theorem RepL.get {h : Heap} : ∀ {vs : List Value} {l : List V} {i : Nat} {x : V}, RepL h vs l → l[i]? = some x → ∃ v, vs[i]? = some v ∧ Rep h v x
  | _, _, 0, x, .cons (v := v) r _, e => by
    simp at e; subst e; exact ⟨v, rfl, r⟩
  | _, _, i + 1, x, .cons _ r, e => by
    simp at e ⊢; exact r.get e
theorem RepL.append {h : Heap} : ∀ {vs us : List Value} {l k : List V}, RepL h vs l → RepL h us k → RepL h (vs ++ us) (l ++ k)
  | _, _, _, _, .nil, y => y
  | _, _, _, _, .cons r rs, y => .cons r (rs.append y)

def ORep (h : Heap) (a : Addr) : AObj → Prop
  | .lst l => ∃ vs, h.PlainList a vs ∧ RepL h vs.toList l
  | .dict _ => False

/-- what is fixed while the law runs -/
structure G where
  prog : Program
  w : World
  h₀ : Heap
  mg : Str → Option Value
  mb : Str → Option Value
  ns : h₀.Ns mainGlobals mg
  nb : h₀.Ns builtinsNs mb
  nolimit : h₀.NoLimit

def Kept (h : Heap) (b : Addr) (o : Obj) : Prop := h.get? b = some o ∨ ((∃ es ep, o.data = .dict es ep) ∧ ∃ sl, h.get? b = some { o with slots := sl })
theorem Kept.ns {h h' : Heap} {L : Addr} {m : Str → Option Value} (hn : h.Ns L m) (k : ∀ o, h.get? L = some o → Kept h' L o) : h'.Ns L m := by
  obtain ⟨o, es, ep, ho, hd, r⟩ := hn
  rcases k o ho with e | ⟨_, sl, e⟩
  · exact ⟨o, es, ep, e, hd, r⟩
  · exact ⟨_, es, ep, e, hd, r⟩
theorem Kept.cell {h h' : Heap} {c : Addr} {v : Option Value} (hn : h.IsCell c v) (k : ∀ o, h.get? c = some o → Kept h' c o) : h'.IsCell c v := by
  obtain ⟨o, ho, hd⟩ := hn
  rcases k o ho with e | ⟨⟨_, _, e⟩, _⟩
  · exact ⟨o, e, hd⟩
  · rw [hd] at e; cases e
end Mine

set_option linter.all false
open PySem
namespace Mine

structure Step (own : Addr → Prop) (σ σ' : Hp) (s s' : Shared) : Prop where
  same : ∃ h' tk, s' = { s with heap := h', toks := tk }
  dom : ∀ b o, s.heap.get? b = some o → ∃ o', s'.heap.get? b = some o' ∧ ((∃ es ep, o.data = .dict es ep) → ∃ es ep, o'.data = .dict es ep)
  keep : ∀ b o, s.heap.get? b = some o → σ b = none → ¬ own b → Kept s'.heap b o
  tups : Tups s.heap s'.heap
  new : ∀ b o, s.heap.get? b = some o → σ b = none → σ' b = none

def nobody : Addr → Prop := fun _ => False

theorem Kept.trans {h₁ h₂ : Heap} {b : Addr} {o : Obj} (x : Kept h₁ b o) (y : ∀ o', h₁.get? b = some o' → Kept h₂ b o') : Kept h₂ b o := by
  rcases x with e | ⟨hd, sl, e⟩
  · exact y o e
  · rcases y _ e with e' | ⟨_, sl', e'⟩
    · exact .inr ⟨hd, sl, e'⟩
    · exact .inr ⟨hd, sl', e'⟩

theorem Step.trans {own : Addr → Prop} {σ₁ σ₂ σ₃ : Hp} {s₁ s₂ s₃ : Shared} (x : Step own σ₁ σ₂ s₁ s₂) (y : Step own σ₂ σ₃ s₂ s₃) : Step own σ₁ σ₃ s₁ s₃ where
  same := by
    obtain ⟨h, t, rfl⟩ := x.same
    obtain ⟨h', t', rfl⟩ := y.same
    exact ⟨h', t', rfl⟩
  dom := fun b o e => by
    obtain ⟨o', e', k⟩ := x.dom b o e
    obtain ⟨o'', e'', k'⟩ := y.dom b o' e'
    exact ⟨o'', e'', fun q => k' (k q)⟩
  keep := fun b o e hσ ho => Kept.trans (x.keep b o e hσ ho) fun o' e' => y.keep b o' e' (x.new b o e hσ) ho
  tups := x.tups.trans y.tups
  new := fun b o e hσ => by
    obtain ⟨o', e', _⟩ := x.dom b o e
    exact y.new b o' e' (x.new b o e hσ)
theorem Step.mono {own own' : Addr → Prop} {σ σ' : Hp} {s s' : Shared} (x : Step own σ σ' s s') (h : ∀ b, own b → own' b) : Step own' σ σ' s s' :=
  ⟨x.same, x.dom, fun b o e hσ ho => x.keep b o e hσ fun q => ho (h b q), x.tups, x.new⟩
/-- only tokens and new things -/
theorem Step.grow {own : Addr → Prop} {σ : Hp} {s : Shared} {h' : Heap} {tk : Nat} (k : ∀ b o, s.heap.get? b = some o → h'.get? b = some o) : Step own σ σ s { s with heap := h', toks := tk } :=
  ⟨⟨h', tk, rfl⟩, fun b o e => ⟨o, k b o e, fun q => q⟩, fun b o e _ _ => .inl (k b o e), fun b _ _ e => k b _ e, fun _ _ _ h => h⟩
theorem Step.toks {own : Addr → Prop} {σ : Hp} {s : Shared} {tk : Nat} : Step own σ σ s { s with toks := tk } := Step.grow fun _ _ e => e
theorem Step.refl {own : Addr → Prop} {σ : Hp} {s : Shared} : Step own σ σ s s := Step.grow (h' := s.heap) (tk := s.toks) fun _ _ e => e
theorem Step.sub {own : Addr → Prop} {σ σ₁ σ' : Hp} {s s' : Shared} (x : Step own σ σ₁ s s') (h : Sub σ' σ₁) : Step own σ σ' s s' :=
  ⟨x.same, x.dom, x.keep, x.tups, fun b o e hσ => by
    cases q : σ' b with
    | none => rfl
    | some o' => rw [← h b o' q, x.new b o e hσ]⟩

structure Sim (g : G) (σ : Hp) (h : Heap) : Prop where
  stays : g.h₀.StaysIn h
  objs : ∀ a o, σ a = some o → ORep h a o ∧ g.h₀.get? a = none

theorem Sim.sub {g : G} {σ σ' : Hp} {h : Heap} (x : Sim g σ h) (k : Sub σ' σ) : Sim g σ' h := ⟨x.stays, fun a o e => x.objs a o (k a o e)⟩

theorem ORep.keep {h h' : Heap} {a : Addr} {o : AObj} (x : ORep h a o) (t : Tups h h') (k : ∀ ob, h.get? a = some ob → h'.get? a = some ob) : ORep h' a o := by
  cases o with
  | lst l => obtain ⟨vs, hp, r⟩ := x; exact ⟨vs, hp.at k, r.mono t⟩
  | dict l => exact x.elim

/-- all that stood stands -/
theorem Sim.grow {g : G} {σ : Hp} {h h' : Heap} (x : Sim g σ h) (k : ∀ b o, h.get? b = some o → h'.get? b = some o) : Sim g σ h' :=
  ⟨fun b o e => k b o (x.stays b o e), fun a o e => ⟨(x.objs a o e).1.keep (fun b _ _ e => k b _ e) fun ob eb => k a ob eb, (x.objs a o e).2⟩⟩

/-- a variable of the frame -/
def VarOK (env : Env) (h : Heap) (m : Str → Option Value) (x : Str) (v : Option V) : Prop :=
  (env.kindOf x = some .local ∧ ∀ V, v = some V → ∃ r, m x = some r ∧ Rep h r V) ∨
  (env.kindOf x = some .cell ∧ ∃ c r, env.cells.lookup x = some c ∧ h.IsCell c r ∧ ∀ V, v = some V → ∃ rv, r = some rv ∧ Rep h rv V)

def ownOf (env : Env) (b : Addr) : Prop := b = env.locals ∨ ∃ x, env.cells.lookup x = some b

/-- a def's (or a comprehension's) block: its names, the room that it has -/
structure Blk where
  sc : Scope
  vars : List Str
  d : Nat
  q : Bool

structure Loc (env : Env) (vars : List Str) (ρ : List (Option V)) (σ : Hp) (h : Heap) : Prop where
  len : ρ.length = vars.length
  ns : ∃ m, h.Ns env.locals m ∧ ∀ (i : Nat) (x : Str) (v : Option V), vars[i]? = some x → ρ[i]? = some v → VarOK env h m x v
  free : ∀ b, ownOf env b → σ b = none
  live : ∀ x c, env.cells.lookup x = some c → (h.get? c).isSome = true
  apart : ∀ x y c, env.cells.lookup x = some c → env.cells.lookup y = some c → x = y
  other : ∀ x c, env.cells.lookup x = some c → c ≠ env.locals

structure Inv (g : G) (F : Blk) (A : Around) (env : Env) (ρ : List (Option V)) (σ : Hp) (s : Shared) : Prop where
  scope : env.scope = F.sc
  fn : env.scope.kind = .function
  glob : env.globals = mainGlobals
  bltn : env.builtins = builtinsNs
  room : A.depth + F.d < recursionLimit
  units : A.units + 8 * F.d < cLine
  quiet : F.q = true → A.handled = none
  sim : Sim g σ s.heap
  loc : Loc env F.vars ρ σ s.heap
  base : ∀ b, ownOf env b → g.h₀.get? b = none
  nd : F.vars.Nodup

theorem VarOK.keep {env : Env} {h h' : Heap} {m : Str → Option Value} {x : Str} {v : Option V} (y : VarOK env h m x v) (t : Tups h h') (k : ∀ y c, env.cells.lookup y = some c → ∀ o, h.get? c = some o → Kept h' c o) : VarOK env h' m x v := by
  rcases y with ⟨e, y⟩ | ⟨e, c, r, hc, hcell, y⟩
  · exact .inl ⟨e, fun V hV => let ⟨r, e1, e2⟩ := y V hV; ⟨r, e1, e2.mono t⟩⟩
  · exact .inr ⟨e, c, r, hc, Kept.cell hcell fun o q => k x c hc o q, fun V hV => let ⟨r, e1, e2⟩ := y V hV; ⟨r, e1, e2.mono t⟩⟩

theorem Loc.keep {env : Env} {vars : List Str} {ρ : List (Option V)} {σ σ' : Hp} {s s' : Shared} (l : Loc env vars ρ σ s.heap) (x : Step nobody σ σ' s s') : Loc env vars ρ σ' s'.heap := by
  obtain ⟨m, hn, hv⟩ := l.ns
  have k : ∀ y c, env.cells.lookup y = some c → ∀ o, s.heap.get? c = some o → Kept s'.heap c o := fun y c hc o e => x.keep _ _ e (l.free _ (.inr ⟨y, hc⟩)) id
  refine ⟨l.len, ⟨m, Kept.ns hn fun o e => x.keep _ _ e (l.free _ (.inl rfl)) id, fun i y v e1 e2 => (hv i y v e1 e2).keep x.tups k⟩, fun b hb => ?_, fun y c hc => ?_, l.apart, l.other⟩
  · rcases hb with rfl | ⟨y, hc⟩
    · obtain ⟨o, _, _, ho, _⟩ := hn
      exact x.new _ o ho (l.free _ (.inl rfl))
    · obtain ⟨o, ho⟩ := Option.isSome_iff_exists.mp (l.live y b hc)
      exact x.new _ o ho (l.free _ (.inr ⟨y, hc⟩))
  · obtain ⟨o, ho⟩ := Option.isSome_iff_exists.mp (l.live y c hc)
    obtain ⟨o', ho', _⟩ := x.dom _ o ho
    rw [ho']; rfl

theorem Inv.keep {g : G} {F : Blk} {A : Around} {env : Env} {ρ : List (Option V)} {σ σ' : Hp} {s s' : Shared} (I : Inv g F A env ρ σ s) (x : Step nobody σ σ' s s') (y : Sim g σ' s'.heap) : Inv g F A env ρ σ' s' :=
  ⟨I.scope, I.fn, I.glob, I.bltn, I.room, I.units, I.quiet, y, I.loc.keep x, I.base, I.nd⟩

/-- an exception on its way (later) -/
def Fly (_ : G) (_ : Around) (_ : Value) (_ : Str) (_ : Heap) : Prop := False

def Post (g : G) (F : Blk) (A : Around) (env : Env) (ρ : List (Option V)) (σ : Hp) (s : Shared) (Q : V → Hp → Prop) (v : Value) (s' : Shared) : Prop :=
  ∃ V σ', Rep s'.heap v V ∧ Inv g F A env ρ σ' s' ∧ Step nobody σ σ' s s' ∧ Q V σ'
def PostB (g : G) (F : Blk) (A : Around) (env : Env) (ρ : List (Option V)) (σ : Hp) (s : Shared) (Q : Bool → Hp → Prop) (b : Bool) (s' : Shared) : Prop :=
  ∃ σ', Inv g F A env ρ σ' s' ∧ Step nobody σ σ' s s' ∧ Q b σ'
def PostX (g : G) (F : Blk) (A : Around) (env : Env) (ρ : List (Option V)) (σ : Hp) (s : Shared) (X : Str → Hp → Prop) (e : Value) (s' : Shared) : Prop :=
  ∃ x σ', Fly g A e x s'.heap ∧ Inv g F A env ρ σ' s' ∧ Step nobody σ σ' s s' ∧ X x σ'

theorem Post.step {g F A env ρ σ σ₁ s s₁ Q v s'} (x : Step nobody σ σ₁ s s₁) (p : Post g F A env ρ σ₁ s₁ Q v s') : Post g F A env ρ σ s Q v s' :=
  let ⟨V, σ', r, i, y, q⟩ := p; ⟨V, σ', r, i, x.trans y, q⟩
theorem PostB.step {g F A env ρ σ σ₁ s s₁ Q v s'} (x : Step nobody σ σ₁ s s₁) (p : PostB g F A env ρ σ₁ s₁ Q v s') : PostB g F A env ρ σ s Q v s' :=
  let ⟨σ', i, y, q⟩ := p; ⟨σ', i, x.trans y, q⟩
theorem PostX.step {g F A env ρ σ σ₁ s s₁ X v s'} (x : Step nobody σ σ₁ s s₁) (p : PostX g F A env ρ σ₁ s₁ X v s') : PostX g F A env ρ σ s X v s' :=
  let ⟨V, σ', r, i, y, q⟩ := p; ⟨V, σ', r, i, x.trans y, q⟩

/-- an expression comes to a value -/
structure Ev (g : G) (F : Blk) (e : Expr) (ρ : List (Option V)) (σ : Hp) (Q : V → Hp → Prop) (X : Str → Hp → Prop) : Prop where
  run : ∀ A env s, Inv g F A env ρ σ s → wpAny (model g.prog g.w) A (eval e env) (Post g F A env ρ σ s Q) (PostX g F A env ρ σ s X) s

/-- a test -/
structure Tst (g : G) (F : Blk) (e : Expr) (ρ : List (Option V)) (σ : Hp) (Q : Bool → Hp → Prop) (X : Str → Hp → Prop) : Prop where
  run : ∀ A env s, Inv g F A env ρ σ s → wpAny (model g.prog g.w) A (isTrue e env (eval e env)) (PostB g F A env ρ σ s Q) (PostX g F A env ρ σ s X) s

/-- a tree over real values -/
structure Op (g : G) (F : Blk) (t : Sem Value) (rs : List (Value × V)) (ρ : List (Option V)) (σ : Hp) (Q : V → Hp → Prop) (X : Str → Hp → Prop) : Prop where
  run : ∀ A env s, Inv g F A env ρ σ s → (∀ p ∈ rs, Rep s.heap p.1 p.2) → wpAny (model g.prog g.w) A t (Post g F A env ρ σ s Q) (PostX g F A env ρ σ s X) s

section
variable {g : G} {F : Blk} {ρ : List (Option V)} {σ : Hp} {Q : V → Hp → Prop} {X : Str → Hp → Prop}

theorem Ev.sub {e : Expr} {σ' : Hp} (h : Ev g F e ρ σ' Q X) (k : Sub σ' σ) : Ev g F e ρ σ Q X := ⟨fun A env s I => by
  have st : Step nobody σ σ' s s := Step.refl.sub k
  exact wpAny_mono (h.run A env s (I.keep st (I.sim.sub k))) (fun _ _ p => p.step st) fun _ _ p => p.step st⟩
theorem Ev.mono {e : Expr} {Q' : V → Hp → Prop} (h : Ev g F e ρ σ Q X) (k : ∀ v σ, Q v σ → Q' v σ) : Ev g F e ρ σ Q' X := ⟨fun A env s I =>
  wpAny_mono (h.run A env s I) (fun _ _ ⟨V, σ', r, i, y, q⟩ => ⟨V, σ', r, i, y, k _ _ q⟩) fun _ _ p => p⟩

theorem ev_int {i : Int} {k : Nat} {pos : Pos} (h : Q (.int i) σ) : Ev g F (.Constant (.int i) k pos) ρ σ Q X := ⟨fun A env s I =>
  wpAny_Constant_int ⟨_, σ, .int _ _, I.keep Step.toks I.sim, Step.toks, h⟩⟩
theorem ev_str {i : Str} {k : Nat} {pos : Pos} (h : Q (.str i) σ) : Ev g F (.Constant (.str i) k pos) ρ σ Q X := ⟨fun A env s I =>
  wpAny_Constant_str ⟨_, σ, .str _ _, I.keep Step.toks I.sim, Step.toks, h⟩⟩
theorem ev_none {k : Nat} {pos : Pos} (h : Q .none σ) : Ev g F (.Constant .none k pos) ρ σ Q X := ⟨fun A env s I =>
  wpAny_Constant_none ⟨_, σ, .none, I, Step.refl, h⟩⟩
theorem ev_bool {b : Bool} {k : Nat} {pos : Pos} (h : Q (.bool b) σ) : Ev g F (.Constant (.bool b) k pos) ρ σ Q X := ⟨fun A env s I =>
  wpAny_Constant_bool ⟨_, σ, .bool _, I, Step.refl, h⟩⟩
end
end Mine

set_option linter.all false
open PySem
namespace Mine

/-- a tree over two real values -/
structure Op2 (g : G) (F : Blk) (t : Value → Value → Sem Value) (a b : V) (ρ : List (Option V)) (σ : Hp) (Q : V → Hp → Prop) (X : Str → Hp → Prop) : Prop where
  run : ∀ A env s x y, Inv g F A env ρ σ s → Rep s.heap x a → Rep s.heap y b → wpAny (model g.prog g.w) A (t x y) (Post g F A env ρ σ s Q) (PostX g F A env ρ σ s X) s
structure Op1 (g : G) (F : Blk) (t : Value → Sem Value) (a : V) (ρ : List (Option V)) (σ : Hp) (Q : V → Hp → Prop) (X : Str → Hp → Prop) : Prop where
  run : ∀ A env s x, Inv g F A env ρ σ s → Rep s.heap x a → wpAny (model g.prog g.w) A (t x) (Post g F A env ρ σ s Q) (PostX g F A env ρ σ s X) s
/-- truth of a value -/
structure Tru (g : G) (F : Blk) (a : V) (ρ : List (Option V)) (σ : Hp) (Q : Bool → Hp → Prop) (X : Str → Hp → Prop) : Prop where
  run : ∀ A env s x, Inv g F A env ρ σ s → Rep s.heap x a → wpAny (model g.prog g.w) A (truthy x) (PostB g F A env ρ σ s Q) (PostX g F A env ρ σ s X) s
/-- a list of expressions -/
structure Evs (g : G) (F : Blk) (es : List Expr) (ρ : List (Option V)) (σ : Hp) (Q : List V → Hp → Prop) (X : Str → Hp → Prop) : Prop where
  run : ∀ A env s pos, Inv g F A env ρ σ s → wpAny (model g.prog g.w) A (spliced (backTo pos (starEach es env)))
    (fun vs s' => ∃ Vs σ', RepL s'.heap vs Vs ∧ Inv g F A env ρ σ' s' ∧ Step nobody σ σ' s s' ∧ Q Vs σ') (PostX g F A env ρ σ s X) s ∧ (backTo pos (starEach es env)).any (·.1) = false
structure Itm (g : G) (F : Blk) (a b : V) (ρ : List (Option V)) (σ : Hp) (Q : V → Hp → Prop) (X : Str → Hp → Prop) : Prop where
  run : ∀ A env s x y, Inv g F A env ρ σ s → Rep s.heap x a → Rep s.heap y b → ∃ T id, s.TypeIs x T ∧ typeLookup (.type T) "__getitem__" = pure (some (.builtin id)) ∧
    wpAny (model g.prog g.w) A (getItem x y) (Post g F A env ρ σ s Q) (PostX g F A env ρ σ s X) s

section
variable {g : G} {F : Blk} {ρ : List (Option V)} {σ : Hp} {Q : V → Hp → Prop} {QB : Bool → Hp → Prop} {X : Str → Hp → Prop}

theorem Inv.step {A env s s' σ'} (I : Inv g F A env ρ σ s) (x : Step nobody σ σ' s s') (y : Sim g σ' s'.heap) : Inv g F A env ρ σ' s' := I.keep x y

theorem post_int {A env s} {i : Int} {tk tk' : Nat} (I : Inv g F A env ρ σ s) (h : Q (.int i) σ) : Post g F A env ρ σ s Q (.int i tk) { s with toks := tk' } :=
  ⟨_, σ, .int _ _, I.keep Step.toks I.sim, Step.toks, h⟩
theorem post_bool {A env s} {b : Bool} (I : Inv g F A env ρ σ s) (h : Q (.bool b) σ) : Post g F A env ρ σ s Q (.bool b) s :=
  ⟨_, σ, .bool _, I, Step.refl, h⟩
theorem post_boolT {A env s} {b : Bool} {tk' : Nat} (I : Inv g F A env ρ σ s) (h : Q (.bool b) σ) : Post g F A env ρ σ s Q (.bool b) { s with toks := tk' } :=
  ⟨_, σ, .bool _, I.keep Step.toks I.sim, Step.toks, h⟩
theorem post_here {A env s v V} (I : Inv g F A env ρ σ s) (r : Rep s.heap v V) (h : Q V σ) : Post g F A env ρ σ s Q v s := ⟨V, σ, r, I, Step.refl, h⟩

theorem ev_name {x : Str} {pos : Pos} {i : Nat} {v : V} (hx : F.vars[i]? = some x) (hv : ρ[i]? = some (some v)) (h : Q v σ) (hd : (x == ("__debug__" : Str)) = false := by decide +kernel) :
    Ev g F (.Name x pos) ρ σ Q X := ⟨fun A env s I => by
  obtain ⟨m, hn, hm⟩ := I.loc.ns
  refine wpAny_Name ?_ hd
  rcases hm i x _ hx hv with ⟨hk, e⟩ | ⟨hk, c, r, hc, hcell, e⟩
  · obtain ⟨r, e1, e2⟩ := e v rfl
    exact wpAny_loadName_local I.fn hk hn e1 (post_here I e2 h)
  · obtain ⟨r', rfl, e2⟩ := e v rfl
    exact wpAny_loadName_cell I.fn hk hc hcell (post_here I e2 h)⟩

theorem ev_bin {l r : Expr} {op : Operator} {pos : Pos} (h : Ev g F l ρ σ (fun a σ₁ => Ev g F r ρ σ₁ (fun b σ₂ => Op2 g F (binaryOp op) a b ρ σ₂ Q X) X) X) :
    Ev g F (.BinOp l op r pos) ρ σ Q X := ⟨fun A env s I =>
  wpAny_BinOp (wpAny_mono (h.run A env s I) (fun a s₁ ⟨Va, σ₁, ra, I₁, st₁, h₁⟩ => wpAny_mono (h₁.run A env s₁ I₁)
    (fun b s₂ ⟨Vb, σ₂, rb, I₂, st₂, h₂⟩ => wpAny_mono (h₂.run A env s₂ a b I₂ (ra.mono st₂.tups) rb) (fun _ _ p => (p.step st₂).step st₁) fun _ _ p => (p.step st₂).step st₁) fun _ _ p => p.step st₁) fun _ _ p => p)⟩

theorem ev_cmp {l r : Expr} {op : CmpOp} {pos : Pos} (h : Ev g F l ρ σ (fun a σ₁ => Ev g F r ρ σ₁ (fun b σ₂ => Op2 g F (compareOp op) a b ρ σ₂ Q X) X) X) (hm : behindInMarks op r = false := by with_unfolding_all rfl) :
    Ev g F (.Compare l [op] [r] pos) ρ σ Q X := ⟨fun A env s I =>
  wpAny_Compare1 (wpAny_mono (h.run A env s I) (fun a s₁ ⟨Va, σ₁, ra, I₁, st₁, h₁⟩ => wpAny_mono (h₁.run A env s₁ I₁)
    (fun b s₂ ⟨Vb, σ₂, rb, I₂, st₂, h₂⟩ => wpAny_mono (h₂.run A env s₂ a b I₂ (ra.mono st₂.tups) rb) (fun _ _ p => (p.step st₂).step st₁) fun _ _ p => (p.step st₂).step st₁) fun _ _ p => p.step st₁) fun _ _ p => p) hm⟩

theorem ev_un {x : Expr} {op : UnaryOp} {pos : Pos} (h : Ev g F x ρ σ (fun a σ₁ => Op1 g F (unaryOp op) a ρ σ₁ Q X) X) : Ev g F (.UnaryOp op x pos) ρ σ Q X := ⟨fun A env s I =>
  wpAny_UnaryOp (wpAny_mono (h.run A env s I) (fun a s₁ ⟨Va, σ₁, ra, I₁, st₁, h₁⟩ => wpAny_mono (h₁.run A env s₁ a I₁ ra) (fun _ _ p => p.step st₁) fun _ _ p => p.step st₁) fun _ _ p => p)⟩

-- ints
theorem bin_add {a b : Int} (h : Q (.int (a + b)) σ) : Op2 g F (binaryOp .Add) (.int a) (.int b) ρ σ Q X := ⟨fun A env s x y I rx ry => by
  cases rx; cases ry; exact P.add_int (post_int I h)⟩
theorem bin_sub {a b : Int} (h : Q (.int (a - b)) σ) : Op2 g F (binaryOp .Sub) (.int a) (.int b) ρ σ Q X := ⟨fun A env s x y I rx ry => by
  cases rx; cases ry; exact P.sub_int (post_int I h)⟩
theorem bin_mul {a b : Int} (h : Q (.int (a * b)) σ) (hm : IntMulOk a b := by mul_fits) : Op2 g F (binaryOp .Mult) (.int a) (.int b) ρ σ Q X := ⟨fun A env s x y I rx ry => by
  cases rx; cases ry; exact P.mul_int (post_int I h) hm⟩
theorem bin_mod {a b : Int} (hb : b ≠ 0) (h : Q (.int (a.fmod b)) σ) : Op2 g F (binaryOp .Mod) (.int a) (.int b) ρ σ Q X := ⟨fun A env s x y I rx ry => by
  cases rx; cases ry; exact PyProof.Rows.mod_int' hb (post_int I h)⟩
theorem bin_div {a b : Int} (hb : b ≠ 0) (hl : b.natAbs.log2 < 9000) (h : Q (.int (a.fdiv b)) σ) : Op2 g F (binaryOp .FloorDiv) (.int a) (.int b) ρ σ Q X := ⟨fun A env s x y I rx ry => by
  cases rx; cases ry; exact PyProof.Rows.floordiv_int hb (post_int I h) (Or.inl (PyProof.noPylong_of_log2 hl))⟩
theorem bin_pow {a b : Int} (hb : 0 ≤ b) (hl : (Builtin.Int.intBits a : Int) * b ≤ 2 ^ 27) (h : Q (.int (a ^ b.toNat)) σ) : Op2 g F (binaryOp .Pow) (.int a) (.int b) ρ σ Q X := ⟨fun A env s x y I rx ry => by
  cases rx; cases ry; exact PyProof.Rows.pow_int hb hl (post_int I h)⟩
theorem cmp_lt {a b : Int} (h : Q (.bool (decide (a < b))) σ) : Op2 g F (compareOp .Lt) (.int a) (.int b) ρ σ Q X := ⟨fun A env s x y I rx ry => by
  cases rx; cases ry; exact P.lt_int (post_bool I h)⟩
theorem cmp_le {a b : Int} (h : Q (.bool (decide (a ≤ b))) σ) : Op2 g F (compareOp .LtE) (.int a) (.int b) ρ σ Q X := ⟨fun A env s x y I rx ry => by
  cases rx; cases ry; exact P.le_int (post_bool I h)⟩
theorem cmp_gt {a b : Int} (h : Q (.bool (decide (a > b))) σ) : Op2 g F (compareOp .Gt) (.int a) (.int b) ρ σ Q X := ⟨fun A env s x y I rx ry => by
  cases rx; cases ry; exact P.gt_int (post_bool I h)⟩
theorem cmp_ge {a b : Int} (h : Q (.bool (decide (a ≥ b))) σ) : Op2 g F (compareOp .GtE) (.int a) (.int b) ρ σ Q X := ⟨fun A env s x y I rx ry => by
  cases rx; cases ry; exact P.ge_int (post_bool I h)⟩
theorem cmp_eq {a b : Int} (h : Q (.bool (a == b)) σ) : Op2 g F (compareOp .Eq) (.int a) (.int b) ρ σ Q X := ⟨fun A env s x y I rx ry => by
  cases rx; cases ry; exact P.eq_int (post_bool I h)⟩
theorem cmp_ne {a b : Int} (h : Q (.bool (a != b)) σ) : Op2 g F (compareOp .NotEq) (.int a) (.int b) ρ σ Q X := ⟨fun A env s x y I rx ry => by
  cases rx; cases ry; exact P.ne_int (post_bool I h)⟩
theorem un_neg {a : Int} (h : Q (.int (-a)) σ) : Op1 g F (unaryOp .USub) (.int a) ρ σ Q X := ⟨fun A env s x I rx => by
  cases rx; exact P.neg_int (post_int I h)⟩
theorem tru_bool {b : Bool} (h : QB b σ) : Tru g F (.bool b) ρ σ QB X := ⟨fun A env s x I rx => by
  cases rx; exact wpAny_truthy_bool ⟨σ, I, Step.refl, h⟩⟩
theorem tru_int {a : Int} (h : QB (a != 0) σ) : Tru g F (.int a) ρ σ QB X := ⟨fun A env s x I rx => by
  cases rx; exact P.truthy_int ⟨σ, I, Step.refl, h⟩⟩
theorem un_not {a : V} (h : Tru g F a ρ σ (fun b σ' => Q (.bool (!b)) σ') X) : Op1 g F (unaryOp .Not) a ρ σ Q X := ⟨fun A env s x I rx =>
  not_value (wpAny_mono (h.run A env s x I rx) (fun b s' ⟨σ', I', st, q⟩ => ⟨_, σ', .bool _, I', st, q⟩) fun _ _ p => p)⟩

-- tests
theorem Ev.tst_of {e : Expr} (h : Ev g F e ρ σ (fun v σ₁ => Tru g F v ρ σ₁ QB X) X) (he : ∀ env whole, isTrue e env whole = (do let v ← whole; standAt e.pos; holding [v] (truthy v)) := by intros; rfl) : Tst g F e ρ σ QB X := ⟨fun A env s I =>
  wpAny_isTrue_value (wpAny_mono (h.run A env s I) (fun a s₁ ⟨Va, σ₁, ra, I₁, st₁, h₁⟩ => wpAny_mono (h₁.run A env s₁ a I₁ ra) (fun _ _ p => p.step st₁) fun _ _ p => p.step st₁) fun _ _ p => p) (he env _)⟩
theorem tst_cmp {l r : Expr} {op : CmpOp} {pos : Pos} (h : Ev g F l ρ σ (fun a σ₁ => Ev g F r ρ σ₁ (fun b σ₂ => Op2 g F (compareOp op) a b ρ σ₂ (fun v σ₃ => Tru g F v ρ σ₃ QB X) X) X) X) (hm : behindInMarks op r = false := by with_unfolding_all rfl) :
    Tst g F (.Compare l [op] [r] pos) ρ σ QB X := ⟨fun A env s I =>
  wpAny_isTrue_Compare1 (wpAny_mono (h.run A env s I) (fun a s₁ ⟨Va, σ₁, ra, I₁, st₁, h₁⟩ => wpAny_mono (h₁.run A env s₁ I₁)
    (fun b s₂ ⟨Vb, σ₂, rb, I₂, st₂, h₂⟩ => wpAny_mono (h₂.run A env s₂ a b I₂ (ra.mono st₂.tups) rb) (fun c s₃ ⟨Vc, σ₃, rc, I₃, st₃, h₃⟩ =>
      wpAny_mono (h₃.run A env s₃ c I₃ rc) (fun _ _ p => ((p.step st₃).step st₂).step st₁) fun _ _ p => ((p.step st₃).step st₂).step st₁) fun _ _ p => (p.step st₂).step st₁) fun _ _ p => p.step st₁) fun _ _ p => p) hm⟩
theorem tst_not {x : Expr} {pos : Pos} (h : Tst g F x ρ σ (fun b σ₁ => QB (!b) σ₁) X) : Tst g F (.UnaryOp .Not x pos) ρ σ QB X := ⟨fun A env s I =>
  wpAny_isTrue_Not (wpAny_mono (h.run A env s I) (fun _ _ p => p) fun _ _ p => p)⟩

/-- a row of tests -/
structure Tsts (g : G) (F : Blk) (op : BoolOp) (es : List Expr) (ρ : List (Option V)) (σ : Hp) (Q : Bool → Hp → Prop) (X : Str → Hp → Prop) : Prop where
  run : ∀ A env s, Inv g F A env ρ σ s → wpAny (model g.prog g.w) A (allTrue op es env) (PostB g F A env ρ σ s Q) (PostX g F A env ρ σ s X) s
theorem tst_bool {op : BoolOp} {es : List Expr} {pos : Pos} (h : Tsts g F op es ρ σ QB X) : Tst g F (.BoolOp op es pos) ρ σ QB X := ⟨fun A env s I => wpAny_isTrue_BoolOp (h.run A env s I)⟩
theorem tsts_and_nil (h : QB true σ) : Tsts g F .And [] ρ σ QB X := ⟨fun A env s I => wpAny_allTrue_And_nil ⟨σ, I, Step.refl, h⟩⟩
theorem tsts_or_nil (h : QB false σ) : Tsts g F .Or [] ρ σ QB X := ⟨fun A env s I => wpAny_allTrue_Or_nil ⟨σ, I, Step.refl, h⟩⟩
theorem tsts_and {e : Expr} {es : List Expr} (h : Tst g F e ρ σ (fun b σ₁ => (b = true → Tsts g F .And es ρ σ₁ QB X) ∧ (b = false → QB false σ₁)) X) : Tsts g F .And (e :: es) ρ σ QB X := ⟨fun A env s I =>
  wpAny_allTrue_And_cons (wpAny_mono (h.run A env s I) (fun b s₁ ⟨σ₁, I₁, st₁, h₁⟩ => by
    cases b with
    | true => exact wpAny_mono ((h₁.1 rfl).run A env s₁ I₁) (fun _ _ p => p.step st₁) fun _ _ p => p.step st₁
    | false => exact ⟨σ₁, I₁, st₁, h₁.2 rfl⟩) fun _ _ p => p)⟩
theorem tsts_or {e : Expr} {es : List Expr} (h : Tst g F e ρ σ (fun b σ₁ => (b = true → QB true σ₁) ∧ (b = false → Tsts g F .Or es ρ σ₁ QB X)) X) : Tsts g F .Or (e :: es) ρ σ QB X := ⟨fun A env s I =>
  wpAny_allTrue_Or_cons (wpAny_mono (h.run A env s I) (fun b s₁ ⟨σ₁, I₁, st₁, h₁⟩ => by
    cases b with
    | false => exact wpAny_mono ((h₁.2 rfl).run A env s₁ I₁) (fun _ _ p => p.step st₁) fun _ _ p => p.step st₁
    | true => exact ⟨σ₁, I₁, st₁, h₁.1 rfl⟩) fun _ _ p => p)⟩

-- rows of expressions
theorem evs_nil {QL : List V → Hp → Prop} (h : QL [] σ) : Evs g F [] ρ σ QL X := ⟨fun A env s pos I => ⟨wpAny_items_nil ⟨[], σ, .nil, I, Step.refl, h⟩, rfl⟩⟩
theorem evs_cons {e : Expr} {es : List Expr} {QL : List V → Hp → Prop} (h : Ev g F e ρ σ (fun v σ₁ => Evs g F es ρ σ₁ (fun vs σ₂ => QL (v :: vs) σ₂) X) X)
    (hp : ∀ env pos, (backTo pos (starEach es env)).any (·.1) = false := by intros; rfl)
    (he : ∀ env, starEach (e :: es) env = (false, eval e env) :: starEach es env := by intro _; rfl) : Evs g F (e :: es) ρ σ QL X := ⟨fun A env s pos I => ⟨
  wpAny_items_cons (wpAny_mono (h.run A env s I) (fun v s₁ ⟨V, σ₁, r, I₁, st₁, h₁⟩ => wpAny_mono (h₁.run A env s₁ pos I₁).1 (fun vs s₂ ⟨Vs, σ₂, rs, I₂, st₂, q⟩ =>
    ⟨V :: Vs, σ₂, .cons (r.mono st₂.tups) rs, I₂, st₁.trans st₂, q⟩) fun _ _ p => p.step st₁) fun _ _ p => p) (he env), by rw [he]; exact hp env pos⟩⟩

theorem Sim.push {h : Heap} {o : Obj} (x : Sim g σ h) : Sim g σ (h.push o) := x.grow fun b o' e => Heap.get?_push_of_some o e
theorem Step.push {own : Addr → Prop} {s : Shared} {o : Obj} : Step own σ σ s { s with heap := s.heap.push o } := Step.grow (tk := s.toks) fun b o' e => Heap.get?_push_of_some o e
theorem get_size (h : Heap) : h.get? h.objs.size = none := by
  cases q : h.get? h.objs.size with
  | none => rfl
  | some o => exact absurd (Heap.lt_size q) (Nat.lt_irrefl _)
theorem Sim.fresh {h : Heap} (x : Sim g σ h) : σ h.objs.size = none := by
  cases q : σ h.objs.size with
  | none => rfl
  | some o =>
    have := (x.objs _ o q).1
    cases o with
    | lst l => obtain ⟨vs, ⟨n, e⟩, _⟩ := this; rw [get_size] at e; cases e
    | dict l => exact this.elim
/-- a new list -/
theorem new_list {A env s} {vs : List Value} {l : List V} (I : Inv g F A env ρ σ s) (r : RepL s.heap vs l) (h : ∀ a, σ a = none → Q (.ref a) (upd σ a (.lst l))) :
    Post g F A env ρ σ s Q (.ref s.heap.objs.size) { s with heap := s.heap.push { cls := .type "list", data := .seq vs.toArray } } := by
  have st : Step nobody σ (upd σ s.heap.objs.size (.lst l)) s { s with heap := s.heap.push { cls := .type "list", data := .seq vs.toArray } } :=
    ⟨⟨_, s.toks, rfl⟩, (Step.push (own := nobody) (σ := σ)).dom, (Step.push (own := nobody) (σ := σ)).keep, (Step.push (own := nobody) (σ := σ)).tups, fun b o e hσ => by
      rw [upd_ne _ _ (Nat.ne_of_lt (Heap.lt_size e))]; exact hσ⟩
  refine ⟨_, _, .ref _, I.keep st ⟨I.sim.push.stays, fun a o e => ?_⟩, st, h _ I.sim.fresh⟩
  by_cases ha : a = s.heap.objs.size
  · subst ha
    rw [upd_same] at e; cases e
    refine ⟨⟨vs.toArray, ⟨0, Heap.get?_push_size _ rfl⟩, r.mono st.tups⟩, ?_⟩
    cases q : g.h₀.get? s.heap.objs.size with
    | none => rfl
    | some o => have := I.sim.stays _ _ q; rw [get_size] at this; cases this
  · rw [upd_ne _ _ ha] at e
    exact (I.sim.push).objs a o e
theorem new_tuple {A env s} {vs : List Value} {l : List V} (I : Inv g F A env ρ σ s) (r : RepL s.heap vs l) (h : Q (.tup l) σ) :
    Post g F A env ρ σ s Q (.ref s.heap.objs.size) { s with heap := s.heap.push { cls := .type "tuple", data := .seq vs.toArray } } := by
  exact ⟨_, σ, .tup (vs := vs.toArray) (n := 0) (Heap.get?_push_size _ rfl) (r.mono (Step.push (own := nobody) (σ := σ)).tups), I.keep Step.push I.sim.push, Step.push, h⟩
theorem ev_tuple {es : List Expr} {k : Nat} {pos : Pos} (h : Evs g F es ρ σ (fun vs σ₁ => vs.length ≤ sizeLine ∧ Q (.tup vs) σ₁) X) : Ev g F (.Tuple es k pos) ρ σ Q X := ⟨fun A env s I =>
  wpAny_Tuple (wpAny_mono (h.run A env s pos I).1 (fun vs s₁ ⟨Vs, σ₁, rs, I₁, st₁, q⟩ => ⟨by rw [rs.length]; exact q.1, (new_tuple I₁ rs q.2).step st₁⟩) fun _ _ p => p)⟩
theorem ev_list {es : List Expr} {pos : Pos} (h : Evs g F es ρ σ (fun vs σ₁ => vs.length ≤ sizeLine ∧ ∀ a, σ₁ a = none → Q (.ref a) (upd σ₁ a (.lst vs))) X) : Ev g F (.List es pos) ρ σ Q X := ⟨fun A env s I =>
  wpAny_List (wpAny_mono (h.run A env s pos I).1 (fun vs s₁ ⟨Vs, σ₁, rs, I₁, st₁, q⟩ => ⟨by rw [rs.length]; exact q.1, (new_list I₁ rs q.2).step st₁⟩) fun _ _ p => p)⟩

-- items
theorem ev_item {value slice : Expr} {pos : Pos} (h : Ev g F value ρ σ (fun a σ₁ => Ev g F slice ρ σ₁ (fun b σ₂ => Itm g F a b ρ σ₂ Q X) X) X)
    (hs : ∀ o i, subscripted slice false o i = operate [o, i] (getItem o i) := by intros; rfl) : Ev g F (.Subscript value slice pos) ρ σ Q X := ⟨fun A env s I =>
  PyProof.Rows.Subscript_ (wpAny_mono (h.run A env s I) (fun a s₁ ⟨Va, σ₁, ra, I₁, st₁, h₁⟩ => wpAny_mono (h₁.run A env s₁ I₁)
    (fun b s₂ ⟨Vb, σ₂, rb, I₂, st₂, h₂⟩ => by
      obtain ⟨T, id, hT, hl, hw⟩ := h₂.run A env s₂ a b I₂ (ra.mono st₂.tups) rb
      exact PyProof.Rows.tail_any hT hl (wpAny_mono hw (fun _ _ p => (p.step st₂).step st₁) fun _ _ p => (p.step st₂).step st₁) (hs a b)) fun _ _ p => p.step st₁) fun _ _ p => p)⟩
theorem itm_tup {l : List V} {k : Int} {j : Nat} {x : V} (hlo : -(2 ^ 63) ≤ k) (hhi : k < 2 ^ 63) (hj : seqIndex? k l.length = some j) (hx : l[j]? = some x) (h : Q x σ) : Itm g F (.tup l) (.int k) ρ σ Q X := ⟨fun A env s v y I rx ry => by
  cases rx with
  | tup ht r =>
    cases ry
    obtain ⟨w, hw, rw'⟩ := r.get hx
    refine ⟨"tuple", _, ⟨_, ht, rfl⟩, PySem.F.slot_tuple_getitem.lookup, PyProof.Rows.getItem_tuple ⟨_, ht, rfl, _, rfl⟩ hlo hhi (j := j) ?_ (x := w) ?_ (post_here I rw' h)⟩
    · rw [← hj, ← r.length]; simp
    · rw [← Array.getElem?_toList]; exact hw⟩
theorem itm_lst {a : Addr} {l : List V} {k : Int} {x : V} (hσ : σ a = some (.lst l)) (h0 : 0 ≤ k) (hhi : k < 2 ^ 63) (hx : l[k.toNat]? = some x) (h : Q x σ) : Itm g F (.ref a) (.int k) ρ σ Q X := ⟨fun A env s v y I rx ry => by
  cases rx; cases ry
  obtain ⟨vs, hp, r⟩ := (I.sim.objs a _ hσ).1
  obtain ⟨w, hw, rw'⟩ := r.get hx
  exact ⟨"list", _, hp.isList.typeIs, slot_list_getitem.lookup, wpAny_getItem_list hp.isList h0 hhi (x := w) (by rw [← Array.getElem?_toList]; exact hw) (post_here I rw' h)⟩⟩
end
end Mine

set_option linter.all false
open PySem
namespace Mine

inductive Flo where
  | next | brk | cont
  | ret (v : V)
inductive FloRep (h : Heap) : Flow → Flo → Prop
  | next : FloRep h .next .next
  | brk : FloRep h .brk .brk
  | cont : FloRep h .cont .cont
  | ret {v : Value} {V : V} : Rep h v V → FloRep h (.ret v) (.ret V)

abbrev SPost := Flo → List (Option V) → Hp → Prop
abbrev XPost := Str → List (Option V) → Hp → Prop

def PostS (g : G) (F : Blk) (A : Around) (env : Env) (σ : Hp) (s : Shared) (Q : SPost) (f : Flow) (s' : Shared) : Prop :=
  ∃ f' ρ' σ', FloRep s'.heap f f' ∧ Inv g F A env ρ' σ' s' ∧ Step (ownOf env) σ σ' s s' ∧ Q f' ρ' σ'
def PostSX (g : G) (F : Blk) (A : Around) (env : Env) (σ : Hp) (s : Shared) (X : XPost) (e : Value) (s' : Shared) : Prop :=
  ∃ x ρ' σ', Fly g A e x s'.heap ∧ Inv g F A env ρ' σ' s' ∧ Step (ownOf env) σ σ' s s' ∧ X x ρ' σ'
theorem PostS.step {g F A env σ σ₁ s s₁ Q v s'} (x : Step (ownOf env) σ σ₁ s s₁) (p : PostS g F A env σ₁ s₁ Q v s') : PostS g F A env σ s Q v s' :=
  let ⟨V, ρ', σ', r, i, y, q⟩ := p; ⟨V, ρ', σ', r, i, x.trans y, q⟩
theorem PostSX.step {g F A env σ σ₁ s s₁ X v s'} (x : Step (ownOf env) σ σ₁ s s₁) (p : PostSX g F A env σ₁ s₁ X v s') : PostSX g F A env σ s X v s' :=
  let ⟨V, ρ', σ', r, i, y, q⟩ := p; ⟨V, ρ', σ', r, i, x.trans y, q⟩
theorem PostX.toS {g F A env ρ σ s v s'} {X : XPost} (p : PostX g F A env ρ σ s (fun x σ' => X x ρ σ') v s') : PostSX g F A env σ s X v s' :=
  let ⟨x, σ', r, i, y, q⟩ := p; ⟨x, ρ, σ', r, i, y.mono (fun _ h => h.elim), q⟩

structure Exs (g : G) (F : Blk) (ss : List Stmt) (ρ : List (Option V)) (σ : Hp) (Q : SPost) (X : XPost) : Prop where
  run : ∀ A env s, Inv g F A env ρ σ s → wpAny (model g.prog g.w) A (execs ss env) (PostS g F A env σ s Q) (PostSX g F A env σ s X) s
structure Ex (g : G) (F : Blk) (st : Stmt) (ρ : List (Option V)) (σ : Hp) (Q : SPost) (X : XPost) : Prop where
  run : ∀ A env s, Inv g F A env ρ σ s → wpAny (model g.prog g.w) A (exec st env) (PostS g F A env σ s Q) (PostSX g F A env σ s X) s

theorem nodup_get {l : List Str} (hn : l.Nodup) {i j : Nat} {x : Str} (hi : l[i]? = some x) (hj : l[j]? = some x) : i = j := by
  obtain ⟨hi', e1⟩ := List.getElem?_eq_some_iff.mp hi
  obtain ⟨hj', e2⟩ := List.getElem?_eq_some_iff.mp hj
  exact (List.getElem_inj hn).mp (e1.trans e2.symm)

section
variable {g : G} {F : Blk} {ρ : List (Option V)} {σ : Hp} {Q : SPost} {X : XPost}

/-- a name is bound -/
theorem store_name {A : Around} {env : Env} {s : Shared} {v : Value} {V : Mine.V} {i : Nat} {x : Str} {w : Option Mine.V} {QU : Unit → Shared → Prop} {E : Value → Shared → Prop} (I : Inv g F A env ρ σ s) (hx : F.vars[i]? = some x) (hw : ρ[i]? = some w)
    (r : Rep s.heap v V) (h : ∀ s', Inv g F A env (ρ.set i (some V)) σ s' → Step (ownOf env) σ σ s s' → QU () s') : wpAny (model g.prog g.w) A (storeName env x v) QU E s := by
  have hnd := I.nd
  obtain ⟨m, hn, hm⟩ := I.loc.ns
  obtain ⟨oL, es, ep, hoL, hdL, hkL⟩ := id hn
  have get_set : ∀ j, ∀ u : Option Mine.V, (ρ.set i (some V))[j]? = some u → (i = j ∧ u = some V) ∨ (i ≠ j ∧ ρ[j]? = some u) := fun j u hj => by
    by_cases e : i = j
    · subst e
      rw [List.getElem?_set_self (List.getElem?_eq_some_iff.mp hw).1] at hj
      exact .inl ⟨rfl, (Option.some.inj hj).symm⟩
    · rw [List.getElem?_set_ne e] at hj
      exact .inr ⟨e, hj⟩
  rcases hm i x _ hx hw with ⟨hk, _⟩ | ⟨hk, c, r0, hc, hcell, _⟩
  · refine wpAny_storeName_local hk hn (fun h' hn' hs' => h _ ?_ ?_) (by rw [I.fn]; rfl)
    · have tu : Tups s.heap h' := fun b vs n e => (hs'.2 b (fun q => by rw [q, hoL] at e; cases e; cases hdL)).trans e
      have ne : ∀ a o, σ a = some o → a ≠ env.locals := fun a o e q => by rw [q, I.loc.free _ (.inl rfl)] at e; cases e
      refine ⟨I.scope, I.fn, I.glob, I.bltn, I.room, I.units, I.quiet, ⟨fun b o e => ?_, fun a o e => ⟨(I.sim.objs a o e).1.keep tu fun ob eb => (hs'.2 a (ne a o e)).trans eb, (I.sim.objs a o e).2⟩⟩,
        ⟨by rw [List.length_set]; exact I.loc.len, ⟨_, hn', fun j y u hj hu => ?_⟩, I.loc.free, fun y c hc => ?_, I.loc.apart, I.loc.other⟩, I.base, I.nd⟩
      · exact (hs'.2 b (fun q => by rw [q, I.base _ (.inl rfl)] at e; cases e)).trans (I.sim.stays b o e)
      · rcases get_set j u hu with ⟨rfl, rfl⟩ | ⟨hne, hu'⟩
        · rw [hx] at hj; cases hj
          exact .inl ⟨hk, fun W hW => by cases hW; exact ⟨v, if_pos rfl, r.mono tu⟩⟩
        · have hyx : y ≠ x := fun q => hne (nodup_get hnd hx (q ▸ hj))
          rcases hm j y u hj hu' with ⟨hk', e'⟩ | ⟨hk', c, r0, hc, hcell, e'⟩
          · exact .inl ⟨hk', fun W hW => let ⟨r1, a1, a2⟩ := e' W hW; ⟨r1, by simpa [hyx] using a1, a2.mono tu⟩⟩
          · exact .inr ⟨hk', c, r0, hc, hcell.sameBut hs' (I.loc.other _ _ hc), fun W hW => let ⟨r1, a1, a2⟩ := e' W hW; ⟨r1, a1, a2.mono tu⟩⟩
      · show (h'.get? c).isSome = true
        rw [hs'.2 _ (I.loc.other y c hc)]; exact I.loc.live y c hc
    · obtain ⟨o', es', ep', ho', hd', _⟩ := hn'
      refine ⟨⟨h', s.toks + 1, rfl⟩, fun b o e => ?_, fun b o e hσ ho => .inl ((hs'.2 b fun q => ho (.inl q)).trans e), fun b vs n e => (hs'.2 b (fun q => by rw [q, hoL] at e; cases e; cases hdL)).trans e, fun _ _ _ q => q⟩
      by_cases hb : b = env.locals
      · subst hb
        exact ⟨o', ho', fun _ => ⟨es', ep', hd'⟩⟩
      · exact ⟨o, (hs'.2 b hb).trans e, fun q => q⟩
  · refine wpAny_storeName_cell I.fn hk hc hcell fun h' hc' hs' => h _ ?_ ?_
    · obtain ⟨oc, hoc, hdc⟩ := id hcell
      have tu : Tups s.heap h' := fun b vs n e => (hs'.2 b (fun q => by rw [q, hoc] at e; cases e; cases hdc)).trans e
      have ne : ∀ a o, σ a = some o → a ≠ c := fun a o e q => by rw [q, I.loc.free _ (.inr ⟨_, hc⟩)] at e; cases e
      refine ⟨I.scope, I.fn, I.glob, I.bltn, I.room, I.units, I.quiet, ⟨fun b o e => ?_, fun a o e => ⟨(I.sim.objs a o e).1.keep tu fun ob eb => (hs'.2 a (ne a o e)).trans eb, (I.sim.objs a o e).2⟩⟩,
        ⟨by rw [List.length_set]; exact I.loc.len, ⟨m, hn.sameBut hs' (Ne.symm (I.loc.other _ _ hc)), fun j y u hj hu => ?_⟩, I.loc.free, fun y' c' hc'' => ?_, I.loc.apart, I.loc.other⟩, I.base, I.nd⟩
      · exact (hs'.2 b (fun q => by rw [q, I.base _ (.inr ⟨_, hc⟩)] at e; cases e)).trans (I.sim.stays b o e)
      · rcases get_set j u hu with ⟨rfl, rfl⟩ | ⟨hne, hu'⟩
        · rw [hx] at hj; cases hj
          exact .inr ⟨hk, c, _, hc, hc', fun W hW => by cases hW; exact ⟨v, rfl, r.mono tu⟩⟩
        · have hyx : y ≠ x := fun q => hne (nodup_get hnd hx (q ▸ hj))
          rcases hm j y u hj hu' with ⟨hk', e'⟩ | ⟨hk', c2, r2, hc2, hcell2, e'⟩
          · exact .inl ⟨hk', fun W hW => let ⟨r1, a1, a2⟩ := e' W hW; ⟨r1, a1, a2.mono tu⟩⟩
          · exact .inr ⟨hk', c2, r2, hc2, hcell2.sameBut hs' (fun q => hyx (I.loc.apart _ _ _ hc2 (q ▸ hc))), fun W hW => let ⟨r1, a1, a2⟩ := e' W hW; ⟨r1, a1, a2.mono tu⟩⟩
      · show (h'.get? c').isSome = true
        by_cases q : c' = c
        · obtain ⟨o', ho', _⟩ := hc'
          rw [q, ho']; rfl
        · rw [hs'.2 _ q]; exact I.loc.live y' c' hc''
    · obtain ⟨oc, hoc, hdc⟩ := id hcell
      obtain ⟨o', ho', hd'⟩ := hc'
      refine ⟨⟨h', s.toks, rfl⟩, fun b o e => ?_, fun b o e hσ ho => .inl ((hs'.2 b fun q => ho (.inr ⟨_, q ▸ hc⟩)).trans e), fun b vs n e => (hs'.2 b (fun q => by rw [q, hoc] at e; cases e; cases hdc)).trans e, fun _ _ _ q => q⟩
      by_cases hb : b = c
      · subst hb
        refine ⟨o', ho', fun ⟨es, ep, q⟩ => ?_⟩
        rw [hoc] at e; cases e; rw [hdc] at q; cases q
      · exact ⟨o, (hs'.2 b hb).trans e, fun q => q⟩

theorem Exs.mono {ss : List Stmt} {Q' : SPost} (h : Exs g F ss ρ σ Q X) (k : ∀ f ρ σ, Q f ρ σ → Q' f ρ σ) : Exs g F ss ρ σ Q' X := ⟨fun A env s I =>
  wpAny_mono (h.run A env s I) (fun _ _ ⟨V, ρ', σ', r, i, y, q⟩ => ⟨V, ρ', σ', r, i, y, k _ _ _ q⟩) fun _ _ p => p⟩
theorem Exs.sub {ss : List Stmt} {σ' : Hp} (h : Exs g F ss ρ σ' Q X) (k : Sub σ' σ) : Exs g F ss ρ σ Q X := ⟨fun A env s I => by
  have st : Step nobody σ σ' s s := Step.refl.sub k
  have st' : Step (ownOf env) σ σ' s s := Step.refl.sub k
  exact wpAny_mono (h.run A env s (I.keep st (I.sim.sub k))) (fun _ _ p => p.step st') fun _ _ p => p.step st'⟩

def seqQ (g : G) (F : Blk) (rest : List Stmt) (Q : SPost) (X : XPost) : SPost := fun f ρ σ => match f with
  | .next => Exs g F rest ρ σ Q X
  | f => Q f ρ σ

theorem exs_nil (h : Q .next ρ σ) : Exs g F [] ρ σ Q X := ⟨fun A env s I => wpAny_execs_nil ⟨.next, ρ, σ, .next, I, Step.refl, h⟩⟩
theorem exs_cons {st : Stmt} {rest : List Stmt} (h : Ex g F st ρ σ (seqQ g F rest Q X) X) : Exs g F (st :: rest) ρ σ Q X := ⟨fun A env s I =>
  wpAny_execs_cons (wpAny_mono (h.run A env s I) (fun f s₁ ⟨f', ρ₁, σ₁, r, I₁, st₁, q⟩ => by
    cases r with
    | next => exact wpAny_mono (Exs.run q A env s₁ I₁) (fun _ _ p => p.step st₁) fun _ _ p => p.step st₁
    | brk => exact ⟨.brk, ρ₁, σ₁, .brk, I₁, st₁, q⟩
    | cont => exact ⟨.cont, ρ₁, σ₁, .cont, I₁, st₁, q⟩
    | ret r => exact ⟨.ret _, ρ₁, σ₁, .ret r, I₁, st₁, q⟩) fun _ _ p => p)⟩
theorem ex_pass {pos : Pos} (h : Q .next ρ σ) : Ex g F (.Pass pos) ρ σ Q X := ⟨fun A env s I => wpAny_Pass ⟨.next, ρ, σ, .next, I, Step.refl, h⟩⟩
theorem ex_break {pos : Pos} (h : Q .brk ρ σ) : Ex g F (.Break pos) ρ σ Q X := ⟨fun A env s I => wpAny_Break ⟨.brk, ρ, σ, .brk, I, Step.refl, h⟩⟩
theorem ex_return {e : Expr} {pos : Pos} (h : Ev g F e ρ σ (fun v σ₁ => Q (.ret v) ρ σ₁) (fun x σ₁ => X x ρ σ₁)) : Ex g F (.Return (some e) pos) ρ σ Q X := ⟨fun A env s I =>
  wpAny_Return_some (wpAny_mono (h.run A env s I) (fun v s₁ ⟨V, σ₁, r, I₁, st₁, q⟩ => ⟨.ret V, ρ, σ₁, .ret r, I₁, st₁.mono fun _ h => h.elim, q⟩) fun _ _ p => p.toS)⟩
theorem ex_assign {x : Str} {p' pos : Pos} {e : Expr} {i : Nat} {w : Option V} (hx : F.vars[i]? = some x) (hw : ρ[i]? = some w) (h : Ev g F e ρ σ (fun v σ₁ => Q .next (ρ.set i (some v)) σ₁) (fun x σ₁ => X x ρ σ₁))
    (hs : ∀ env, swapsWith e (some (.Name x p')) pos.line env = pure false := by intro _; rfl) : Ex g F (.Assign [.Name x p'] e pos) ρ σ Q X := ⟨fun A env s I =>
  wpAny_Assign_Name (wpAny_mono (h.run A env s I) (fun v s₁ ⟨V, σ₁, r, I₁, st₁, q⟩ =>
    store_name I₁ hx hw r fun s₂ I₂ st₂ => ⟨.next, _, σ₁, .next, I₂, (st₁.mono fun _ h => h.elim).trans st₂, q⟩) fun _ _ p => p.toS) (hs env)⟩
theorem ex_if {test : Expr} {body orelse : List Stmt} {pos : Pos} (h : Tst g F test ρ σ (fun b σ₁ => (b = true → Exs g F body ρ σ₁ Q X) ∧ (b = false → Exs g F orelse ρ σ₁ Q X)) (fun x σ₁ => X x ρ σ₁)) : Ex g F (.If test body orelse pos) ρ σ Q X := ⟨fun A env s I =>
  wpAny_If (wpAny_mono (h.run A env s I) (fun b s₁ ⟨σ₁, I₁, st₁, q⟩ => by
    have st' : Step (ownOf env) σ σ₁ s s₁ := st₁.mono fun _ h => h.elim
    cases b with
    | true => exact wpAny_mono ((q.1 rfl).run A env s₁ I₁) (fun _ _ p => p.step st') fun _ _ p => p.step st'
    | false => exact wpAny_mono ((q.2 rfl).run A env s₁ I₁) (fun _ _ p => p.step st') fun _ _ p => p.step st') fun _ _ p => p.toS)⟩
end
end Mine

set_option linter.all false
open PySem
namespace Mine

/-- a call of a real callee -/
structure Cl (g : G) (F : Blk) (f : Value) (as : List V) (ρ : List (Option V)) (σ : Hp) (Q : V → Hp → Prop) (X : Str → Hp → Prop) : Prop where
  run : ∀ A env s vs, Inv g F A env ρ σ s → RepL s.heap vs as → wpAny (model g.prog g.w) A (call f vs) (Post g F A env ρ σ s Q) (PostX g F A env ρ σ s X) s

/-- the contract of a def, by its name -/
structure CallOK (g : G) (d : Nat) (q : Bool) (f : Str) (as : List V) (σ : Hp) (Q : V → Hp → Prop) (X : Str → Hp → Prop) : Prop where
  run : ∀ A s vs a, g.mg f = some (.ref a) → A.depth + d < recursionLimit → A.units + 8 * d < cLine → (q = true → A.handled = none) → Sim g σ s.heap → RepL s.heap vs as →
    codeAny (model g.prog g.w) A (.call (.ref a) ⟨vs, []⟩) (fun r s' => match r with
      | .ok (.ret v) => ∃ V σ', Rep s'.heap v V ∧ Sim g σ' s'.heap ∧ Step nobody σ σ' s s' ∧ Q V σ'
      | .ok _ => False
      | .error e => ∃ x σ', Fly g A e x s'.heap ∧ Sim g σ' s'.heap ∧ Step nobody σ σ' s s' ∧ X x σ') s

structure FnAt (g : G) (f : Str) (params : Arguments) (body : List Stmt) (scope : Scope) : Prop where
  at' : ∃ a o pm cd doc, g.mg f = some (.ref a) ∧ g.h₀.get? a = some o ∧ o.data = .func (Calls.docDef f params body scope pm cd doc) ∧ g.h₀.CodeRec cd f

section
variable {g : G} {F : Blk} {ρ : List (Option V)} {σ : Hp} {Q : V → Hp → Prop} {X : Str → Hp → Prop}

theorem evalArgs_any {M : Model} {A : Around} {E : Value → Shared → Prop} {s : Shared} {f : Value} : ∀ {args : List (Bool × Sem Value)} {Q : Args → Shared → Prop}, args.any (·.1) = false →
    wpAny M A (spliced args) (fun vs s' => Q ⟨vs, []⟩ s') E s → wpAny M A (evalArgs f true args []) Q E s
  | [], Q, _, h => by
    unfold evalArgs
    show wpAny M A (spliced [] >>= _) Q E s
    refine wpAny_bind (wpAny_mono h (fun vs s' h' => ?_) fun _ _ x => x)
    refine wpAny_holding ?_
    exact wpAny_bind (wpAny_pure (wpAny_bind (wpAny_pure (wpAny_pure h'))))
  | (true, x) :: rest, Q, hp, h => by simp at hp
  | (false, x) :: rest, Q, hp, h => Calls.evalArgs_plain h

theorem ev_global {x : Str} {pos : Pos} {fv : Value} {V : Mine.V} (hk : F.sc.names.lookup x = some .globalImplicit) (hv : g.mg x = some fv) (hr : ∀ h, Rep h fv V) (h : Q V σ) (hd : (x == ("__debug__" : Str)) = false := by decide +kernel) :
    Ev g F (.Name x pos) ρ σ Q X := ⟨fun A env s I =>
  Calls.Name_function_global I.fn (by show env.scope.names.lookup x = _; rw [I.scope]; exact hk) (Calls.loadGlobal_global (by rw [I.glob]; exact g.ns.keeps I.sim.stays) hv (post_here I (hr _) h)) hd⟩

theorem ev_call_b {x : Str} {np pos : Pos} {args : List Expr} {id : String} (hk : F.sc.names.lookup x = some .globalImplicit) (hg : g.mg x = none) (hb : g.mb x = some (.builtin id))
    (h : Evs g F args ρ σ (fun vs σ₁ => Cl g F (.builtin id) vs ρ σ₁ Q X) X) (hd : (x == ("__debug__" : Str)) = false := by decide +kernel) : Ev g F (.Call (.Name x np) args [] pos) ρ σ Q X := ⟨fun A env s I => by
  refine wpAny_Call_ofName (Calls.Name_function_global I.fn (by show env.scope.names.lookup x = _; rw [I.scope]; exact hk) (Calls.loadGlobal_builtin (by rw [I.glob]; exact g.ns.keeps I.sim.stays) hg (by rw [I.bltn]; exact g.nb.keeps I.sim.stays) hb ?_) hd)
  obtain ⟨hw, hp⟩ := h.run A env s pos I
  refine Calls.callWith_builtin hp (evalArgs_any hp (wpAny_mono hw (fun vs s₁ ⟨Vs, σ₁, rs, I₁, st₁, q⟩ => ?_) fun _ _ p => p))
  exact wpAny_mono (q.run A env s₁ vs I₁ rs) (fun _ _ p => p.step st₁) fun _ _ p => p.step st₁⟩
theorem ev_call_t {x : Str} {np pos : Pos} {args : List Expr} {id : String} (hk : F.sc.names.lookup x = some .globalImplicit) (hg : g.mg x = none) (hb : g.mb x = some (.type id))
    (h : Evs g F args ρ σ (fun vs σ₁ => Cl g F (.type id) vs ρ σ₁ Q X) X) (hd : (x == ("__debug__" : Str)) = false := by decide +kernel) : Ev g F (.Call (.Name x np) args [] pos) ρ σ Q X := ⟨fun A env s I => by
  refine wpAny_Call_ofName (Calls.Name_function_global I.fn (by show env.scope.names.lookup x = _; rw [I.scope]; exact hk) (Calls.loadGlobal_builtin (by rw [I.glob]; exact g.ns.keeps I.sim.stays) hg (by rw [I.bltn]; exact g.nb.keeps I.sim.stays) hb ?_) hd)
  obtain ⟨hw, hp⟩ := h.run A env s pos I
  refine callWith_excType hp (evalArgs_any hp (wpAny_mono hw (fun vs s₁ ⟨Vs, σ₁, rs, I₁, st₁, q⟩ => ?_) fun _ _ p => p))
  exact wpAny_mono (q.run A env s₁ vs I₁ rs) (fun _ _ p => p.step st₁) fun _ _ p => p.step st₁⟩

theorem ev_call {x : Str} {np pos : Pos} {args : List Expr} {params : Arguments} {body : List Stmt} {scope : Scope} (hf : FnAt g x params body scope) (hk : F.sc.names.lookup x = some .globalImplicit)
    (h : Evs g F args ρ σ (fun vs σ₁ => CallOK g F.d F.q x vs σ₁ Q X) X) (hd : (x == ("__debug__" : Str)) = false := by decide +kernel) : Ev g F (.Call (.Name x np) args [] pos) ρ σ Q X := ⟨fun A env s I => by
  obtain ⟨a, o, pm, cd, doc, hm, ho, hdat, hcd⟩ := hf.at'
  refine wpAny_Call_ofName (Calls.Name_function_global I.fn (by show env.scope.names.lookup x = _; rw [I.scope]; exact hk) (Calls.loadGlobal_global (by rw [I.glob]; exact g.ns.keeps I.sim.stays) hm ?_) hd)
  obtain ⟨hw, hp⟩ := h.run A env s pos I
  refine Calls.callWith_function (o := o) (evalArgs_any hp (wpAny_mono hw (fun vs s₁ ⟨Vs, σ₁, rs, I₁, st₁, q⟩ => ⟨⟨I₁.sim.stays _ _ ho, hdat⟩, ?_⟩) fun _ _ p => p))
  refine wpAny_call (codeAny_mono (q.run A s₁ vs a hm I₁.room I₁.units I₁.quiet I₁.sim rs) fun r s₂ h₂ => ?_)
  cases r with
  | ok fl =>
    cases fl with
    | ret v =>
      obtain ⟨V, σ', r, sm, st, q'⟩ := h₂
      exact ⟨V, σ', r, I₁.keep st sm, st₁.trans st, q'⟩
    | _ => exact h₂.elim
  | error e =>
    obtain ⟨x, σ', r, sm, st, q'⟩ := h₂
    exact ⟨x, σ', r, I₁.keep st sm, st₁.trans st, q'⟩⟩

/-- what is asked of a def's table of names -/
def blkOk (params : Arguments) (scope : Scope) (vars : List Str) : Bool :=
  decide vars.Nodup && decide (params.args.map (·.arg) = vars.take params.args.length) && decide (params.args.length ≤ vars.length) &&
  vars.all (fun x => scope.names.lookup x == some .local || scope.names.lookup x == some .cell) &&
  (scope.kind == .function) && !scope.isCoroutine && !scope.isGenerator

theorem bindL_get {k : Str → Option NameKind} : ∀ {ps : List Str} {vs : List Value} {m : Str → Option Value} {x : Str}, k x = some .local → ps.Nodup → ps.length = vs.length →
    (∀ i : Nat, ps[i]? = some x → bindL k (ps.zip vs) m x = vs[i]?) ∧ (x ∉ ps → bindL k (ps.zip vs) m x = m x)
  | [], vs, m, x, hk, hn, hl => ⟨fun i h => by simp at h, fun _ => rfl⟩
  | p :: ps, [], m, x, hk, hn, hl => by simp at hl
  | p :: ps, v :: vs, m, x, hk, hn, hl => by
    have ih := @bindL_get k ps vs (if k p = some .local then fun y => if y = p then some v else m y else m) x hk (List.nodup_cons.mp hn).2 (by simpa using hl)
    show (∀ i : Nat, (p :: ps)[i]? = some x → bindL k (ps.zip vs) _ x = (v :: vs)[i]?) ∧ (x ∉ p :: ps → bindL k (ps.zip vs) _ x = m x)
    refine ⟨fun i hi => ?_, fun hx => ?_⟩
    · cases i with
      | zero =>
        simp at hi; subst hi
        rw [ih.2 (List.nodup_cons.mp hn).1, if_pos hk]
        simp
      | succ i => simp at hi ⊢; exact ih.1 i hi
    · rw [ih.2 fun q => hx (List.mem_cons_of_mem _ q)]
      have hne : x ≠ p := fun q => hx (by rw [q]; exact List.mem_cons_self)
      split <;> simp [hne]
theorem bindC_get {k : Str → Option NameKind} : ∀ {ps : List Str} {vs : List Value} {m : Str → Option Value} {x : Str}, k x ≠ some .local → ps.Nodup → ps.length = vs.length →
    (∀ i : Nat, ps[i]? = some x → bindC k (ps.zip vs) m x = vs[i]?) ∧ (x ∉ ps → bindC k (ps.zip vs) m x = m x)
  | [], vs, m, x, hk, hn, hl => ⟨fun i h => by simp at h, fun _ => rfl⟩
  | p :: ps, [], m, x, hk, hn, hl => by simp at hl
  | p :: ps, v :: vs, m, x, hk, hn, hl => by
    have ih := @bindC_get k ps vs (if k p = some .local then m else fun y => if y = p then some v else m y) x hk (List.nodup_cons.mp hn).2 (by simpa using hl)
    show (∀ i : Nat, (p :: ps)[i]? = some x → bindC k (ps.zip vs) _ x = (v :: vs)[i]?) ∧ (x ∉ p :: ps → bindC k (ps.zip vs) _ x = m x)
    refine ⟨fun i hi => ?_, fun hx => ?_⟩
    · cases i with
      | zero =>
        simp at hi; subst hi
        rw [ih.2 (List.nodup_cons.mp hn).1, if_neg hk]
        simp
      | succ i => simp at hi ⊢; exact ih.1 i hi
    · rw [ih.2 fun q => hx (List.mem_cons_of_mem _ q)]
      have hne : x ≠ p := fun q => hx (by rw [q]; exact List.mem_cons_self)
      split <;> simp [hne]
theorem cellsFrom_has {x : Str} : ∀ (names : List (Str × NameKind)) (n : Nat) (acc : List (Str × Addr)), names.lookup x = some .cell ∨ (acc.lookup x).isSome = true → ((cellsFrom n names acc).lookup x).isSome = true
  | [], _, _, h => h.elim (fun e => by cases e) id
  | (y, k) :: r, n, acc, h => by
    unfold cellsFrom
    by_cases hk : (k == .cell) = true
    · rw [if_pos hk]
      refine cellsFrom_has r (n + 1) ((y, n) :: acc) ?_
      by_cases hy : (x == y) = true
      · exact .inr (by rw [List.lookup_cons, hy]; rfl)
      · refine h.imp (fun e => ?_) fun e => ?_
        · rw [List.lookup_cons] at e; simpa only [hy] using e
        · rw [List.lookup_cons]; simpa only [hy] using e
    · rw [if_neg hk]
      refine cellsFrom_has r n acc ?_
      by_cases hy : (x == y) = true
      · refine .inr (h.elim (fun e => ?_) id)
        rw [List.lookup_cons, hy] at e
        exact absurd (by rw [Option.some.inj e]; rfl) hk
      · refine h.imp (fun e => ?_) id
        rw [List.lookup_cons] at e; simpa only [hy] using e
end
end Mine

set_option linter.all false
open PySem
namespace Mine

theorem zip_lookup_isSome : ∀ {ps : List Str} {vs : List Value} {x : Str}, ps.length = vs.length → x ∈ ps → ((ps.zip vs).lookup x).isSome = true
  | p :: ps, v :: vs, x, hl, hx => by
    rw [List.zip_cons_cons, List.lookup_cons]
    cases h : x == p with
    | true => rfl
    | false =>
      rcases List.mem_cons.mp hx with rfl | hx
      · simp at h
      · exact zip_lookup_isSome (by simpa using hl) hx
  | [], _, x, _, hx => by simp at hx
  | p :: ps, [], x, hl, _ => by simp at hl

theorem zip_filterMap : ∀ {ps : List Str} {vs : List Value}, ps.Nodup → ps.length = vs.length → ps.filterMap (fun n => ((ps.zip vs).lookup n).map (n, ·)) = ps.zip vs
  | [], vs, _, _ => by simp
  | p :: ps, [], _, hl => by simp at hl
  | p :: ps, v :: vs, hn, hl => by
    obtain ⟨h1, h2⟩ := List.nodup_cons.mp hn
    have ih := zip_filterMap (ps := ps) (vs := vs) h2 (by simpa using hl)
    rw [List.zip_cons_cons, List.filterMap_cons, List.lookup_cons]
    simp only [beq_self_eq_true, Option.map_some]
    congr 1
    rw [← ih]
    have : ∀ (qs : List Str), (∀ q ∈ qs, q ∈ ps) → qs.filterMap (fun n => (((p, v) :: ps.zip vs).lookup n).map (n, ·)) = qs.filterMap (fun n => ((ps.zip vs).lookup n).map (n, ·)) := by
      intro qs
      induction qs with
      | nil => intro _; rfl
      | cons q qs ih2 =>
        intro hq
        have hqp : (q == p) = false := by
          cases e : q == p with
          | false => rfl
          | true => exact absurd (by rw [← beq_iff_eq.mp e]; exact hq q List.mem_cons_self) h1
        simp only [List.filterMap_cons, List.lookup_cons, hqp]
        rw [← ih2 fun x hx => hq x (List.mem_cons_of_mem _ hx)]
        simp only [List.lookup_cons]
    rw [ih]
    rw [this ps fun _ h => h, ih]

theorem bind_plain {f : Str} {names : List Arg} {body : List Stmt} {scope : Scope} {pm cd doc : Value} {vs : List Value} (hn : (names.map (·.arg)).Nodup) (hl : names.length = vs.length) :
    bindArgs (Calls.docDef f ⟨[], names, none, [], [], none, []⟩ body scope pm cd doc) ⟨vs, []⟩ = pure ((names.map (·.arg)).zip vs) := by
  have hl' : (names.map (·.arg)).length = vs.length := by simpa using hl
  have hm : ((names.map (·.arg)).filter fun n => (((names.map (·.arg)).zip vs).lookup n).isNone) = [] := by
    rw [List.filter_eq_nil_iff]
    intro n hn'
    have := zip_lookup_isSome hl' hn'
    rw [Option.isNone_iff_eq_none]
    intro q; rw [q] at this; cases this
  unfold bindArgs Calls.docDef
  simp only [List.map_nil, List.nil_append, List.append_nil]
  simp only [List.forIn_nil, pure_bind]
  rw [show seqItems? Value.none = pure none from rfl]
  simp only [pure_bind, Option.getD_none, List.drop_nil, List.length_nil, Nat.sub_zero, List.take_length, List.zip_nil_right, List.forIn_nil, hl', hl, Nat.lt_irrefl, gt_iff_lt, decide_false, Bool.false_and, Bool.false_eq_true, if_false, Nat.sub_self, List.length_map, hm]
  rw [List.take_of_length_le (by rw [hl']; exact Nat.le_refl _), hm, zip_filterMap hn hl']
  rfl

section
variable {g : G} {σ : Hp} {Q : V → Hp → Prop} {X : Str → Hp → Prop}

theorem RepL.getAt {h : Heap} {vs : List Value} {l : List V} (r : RepL h vs l) {i : Nat} {v : Value} (e : vs[i]? = some v) : ∃ x, l[i]? = some x ∧ Rep h v x := by
  obtain ⟨hi, _⟩ := List.getElem?_eq_some_iff.mp e
  have hi' : i < l.length := by rw [← r.length]; exact hi
  obtain ⟨w, hw, r'⟩ := r.get (List.getElem?_eq_getElem hi')
  rw [e] at hw; cases hw
  exact ⟨_, List.getElem?_eq_getElem hi', r'⟩

def retOf : Flo → V
  | .ret v => v
  | _ => .none

theorem units_deeper' (A : Around) (env : Env) : (A.deeper env).units = A.units + 3 := rfl
theorem depth_deeper' (A : Around) (env : Env) : (A.deeper env).depth = A.depth + 1 := rfl

/-- a def by its body -/
theorem call_body {f : Str} {names : List Arg} {body : List Stmt} {scope : Scope} {vars : List Str} {args : List V} {d : Nat} {q : Bool} (hf : FnAt g f ⟨[], names, none, [], [], none, []⟩ body scope)
    (ok : blkOk ⟨[], names, none, [], [], none, []⟩ scope vars = true) (hargs : names.length = args.length)
    (h : Exs g ⟨scope, vars, d, q⟩ body (args.map some ++ List.replicate (vars.length - args.length) none) σ (fun fl ρ' σ' => ∃ σ'', Sub σ'' σ' ∧ Q (retOf fl) σ'') (fun x _ σ' => X x σ')) :
    CallOK g (d + 1) q f args σ Q X := ⟨fun A s vs a hm hdep hun hq sm rs => by
  obtain ⟨a', o, pm, cd, doc, hm', ho, hdat, hcd⟩ := hf.at'
  rw [hm] at hm'; cases hm'
  unfold blkOk at ok
  simp only [Bool.and_eq_true, decide_eq_true_eq, List.all_eq_true, Bool.or_eq_true, beq_iff_eq, Bool.not_eq_true'] at ok
  obtain ⟨⟨⟨⟨⟨⟨hnd, hpar⟩, hle⟩, hkinds⟩, hkf⟩, hco⟩, hgen⟩ := ok
  have hlen : names.length = vs.length := by rw [hargs, rs.length]
  have hlen' : (names.map (·.arg)).length = vs.length := by simpa using hlen
  have hnd' : (names.map (·.arg)).Nodup := by rw [hpar]; exact hnd.sublist (List.take_sublist _ _)
  have hin : ∀ x ∈ names.map (·.arg), x ∈ vars := fun x hx => by rw [hpar] at hx; exact List.mem_of_mem_take hx
  refine codeAny_call_cells (fd := Calls.docDef f ⟨[], names, none, [], [], none, []⟩ body scope pm cd doc) (binds := (names.map (·.arg)).zip vs) (by omega) (sm.stays _ _ ho) hdat (g.nolimit.keeps sm.stays) (hcd.keeps sm.stays) rfl (bind_plain hnd' hlen) rfl (fun x hx => ?_) (fun s₁ ic => ?_) hco hgen hkf
  · have hx' := hin x.1 (List.of_mem_zip (a := x.1) (b := x.2) hx).1
    rcases hkinds _ hx' with e | e
    · exact .inl e
    · exact .inr ⟨e, cellsFrom_has _ _ _ (.inl e)⟩
  · have hL : s.heap.get? s.heap.objs.size = none := get_size _
    have fresh : ∀ b, s.heap.objs.size ≤ b → s.heap.get? b = none := fun b hb => by
      cases e : s.heap.get? b with
      | none => rfl
      | some o => exact absurd (Heap.lt_size e) (Nat.not_lt.mpr hb)
    have own : ∀ b, ownOf (callEnvC (Calls.docDef f ⟨[], names, none, [], [], none, []⟩ body scope pm cd doc) s.heap.objs.size a) b → s.heap.objs.size ≤ b := fun b hb => by
      rcases hb with rfl | ⟨c, hc⟩
      · exact Nat.le_refl _
      · exact Nat.le_of_lt (ic.above c b (mem_of_lookup hc))
    have hfree : ∀ b, s.heap.objs.size ≤ b → σ b = none := fun b hb => by
      cases e : σ b with
      | none => rfl
      | some o =>
        have := (sm.objs b o e).1
        cases o with
        | lst l => obtain ⟨vs, ⟨n, e'⟩, _⟩ := this; rw [fresh b hb] at e'; cases e'
        | dict l => exact this.elim
    have hbase : ∀ b, s.heap.objs.size ≤ b → g.h₀.get? b = none := fun b hb => by
      cases e : g.h₀.get? b with
      | none => rfl
      | some o => have := sm.stays _ _ e; rw [fresh b hb] at this; cases this
    obtain ⟨h₁, tk₁, hs₁⟩ := ic.toInCall.same
    have tu : Tups s.heap s₁.heap := fun b _ _ e => ic.toInCall.keep b _ e
    have st : Step nobody σ σ s s₁ := by rw [hs₁]; exact Step.grow fun b o e => by have := ic.toInCall.keep b o e; rw [hs₁] at this; exact this
    have I : Inv g ⟨scope, vars, d, q⟩ (A.deeper (callEnvC (Calls.docDef f ⟨[], names, none, [], [], none, []⟩ body scope pm cd doc) s.heap.objs.size a)) (callEnvC (Calls.docDef f ⟨[], names, none, [], [], none, []⟩ body scope pm cd doc) s.heap.objs.size a)
        (args.map some ++ List.replicate (vars.length - args.length) none) σ s₁ := by
      refine ⟨rfl, hkf, rfl, rfl, by rw [depth_deeper']; show A.depth + 1 + d < _; omega, by rw [units_deeper']; show A.units + 3 + 8 * d < _; omega, fun e => hq e, sm.grow ic.toInCall.keep, ⟨by simp only [List.length_append, List.length_map, List.length_replicate]; omega, ⟨_, ic.toInCall.ns, fun i x v hx hv => ?_⟩, fun b hb => hfree b (own b hb), fun y c hc => ?_, fun x y c h1 h2 => name_of_addr ic.apart (mem_of_lookup h1) (mem_of_lookup h2), fun y c hc => ?_⟩, fun b hb => hbase b (own b hb), hnd⟩
      · have hxk := hkinds x (List.mem_of_getElem? hx)
        have hval : ∀ V, v = some V → ∃ r, (names.map (·.arg))[i]? = some x ∧ vs[i]? = some r ∧ Rep s₁.heap r V := fun V hV => by
          subst hV
          by_cases hi : i < args.length
          · rw [List.getElem?_append_left (by simpa using hi), List.getElem?_map] at hv
            obtain ⟨W, hW, hW'⟩ := Option.map_eq_some_iff.mp hv
            cases hW'
            obtain ⟨r, e1, e2⟩ := rs.get hW
            refine ⟨r, ?_, e1, e2.mono tu⟩
            rw [hpar, List.getElem?_take]
            rw [if_pos (by omega)]; exact hx
          · rw [List.getElem?_append_right (by simpa using hi), List.getElem?_replicate] at hv
            split at hv <;> cases hv
        rcases hxk with e | e
        · refine .inl ⟨e, fun V hV => ?_⟩
          obtain ⟨r, e1, e2, e3⟩ := hval V hV
          exact ⟨r, by rw [(bindL_get (k := (callEnvC (Calls.docDef f ⟨[], names, none, [], [], none, []⟩ body scope pm cd doc) s.heap.objs.size a).kindOf) e hnd' hlen').1 i e1]; exact e2, e3⟩
        · obtain ⟨c, hc⟩ := Option.isSome_iff_exists.mp (cellsFrom_has scope.names (s.heap.objs.size + 1) [] (.inl e))
          refine .inr ⟨e, c, _, hc, ic.cell x c hc, fun V hV => ?_⟩
          obtain ⟨r, e1, e2, e3⟩ := hval V hV
          exact ⟨r, by rw [(bindC_get (k := (callEnvC (Calls.docDef f ⟨[], names, none, [], [], none, []⟩ body scope pm cd doc) s.heap.objs.size a).kindOf) (by show scope.names.lookup x ≠ _; rw [e]; decide) hnd' hlen').1 i e1]; exact e2, e3⟩
      · obtain ⟨o, ho, _⟩ := ic.cell y c hc
        rw [ho]; rfl
      · exact fun e => Nat.lt_irrefl _ (e ▸ ic.above y c (mem_of_lookup hc))
    refine wpAny_mono (h.run _ _ s₁ I) (fun fl s' ⟨f', ρ', σ', r, I', st', σ'', hsub, hQ⟩ => ?_) (fun e s' p => ?_)
    · have st2 : Step nobody σ σ'' s s' := by
        have t := st.mono (own' := ownOf (callEnvC (Calls.docDef f ⟨[], names, none, [], [], none, []⟩ body scope pm cd doc) s.heap.objs.size a)) (fun _ h => h.elim) |>.trans (st'.sub hsub)
        exact ⟨t.same, t.dom, fun b o e hσ _ => t.keep b o e hσ fun hb => (by rw [fresh b (own b hb)] at e; cases e), t.tups, t.new⟩
      cases r with
      | ret r => exact ⟨_, σ'', r, I'.sim.sub hsub, st2, hQ⟩
      | _ => exact ⟨_, σ'', .none, I'.sim.sub hsub, st2, hQ⟩
    · obtain ⟨_, _, _, hfly, _⟩ := p
      exact hfly.elim⟩
end
end Mine

set_option linter.all false
open PySem
namespace Mine

/-- an iterator that hands out a row of values -/
structure IterOK (g : G) (A : Around) (I : Addr) (L : List V) (K : Hp → Prop) (St : Nat → Heap → Prop) : Prop where
  frame : ∀ i h h', St i h → (∀ o, h.get? I = some o → h'.get? I = some o) → Tups h h' → St i h'
  obj : ∀ i h, St i h → ∃ o vs, h.get? I = some o ∧ o.data = .fields vs
  item : ∀ i x σ (s : Shared) (Q : Option Value → Shared → Prop) (E : Value → Shared → Prop), L[i]? = some x → St i s.heap → Sim g σ s.heap → K σ →
    (∀ v h' tk, Rep h' v x → St (i + 1) h' → Heap.ExtBut I s.heap h' → Q (some v) { s with heap := h', toks := tk }) → wpAny (model g.prog g.w) A (pyNext (.ref I)) Q E s
  done : ∀ σ (s : Shared) (Q : Option Value → Shared → Prop) (E : Value → Shared → Prop), St L.length s.heap → Sim g σ s.heap → K σ →
    (∀ h' tk, Heap.ExtBut I s.heap h' → Q none { s with heap := h', toks := tk }) → wpAny (model g.prog g.w) A (pyNext (.ref I)) Q E s
  self : ∀ i (s : Shared) (Q : Value → Shared → Prop) (E : Value → Shared → Prop), St i s.heap → Q (.ref I) s → wpAny (model g.prog g.w) A (pyIter (.ref I)) Q E s
  plain : ∀ i (s : Shared) (v : Value) (elts : List Expr) (k : Nat) (pos : Pos) (Q : Unit → Shared → Prop) (E : Value → Shared → Prop), St i s.heap → Q () s → wpAny (model g.prog g.w) A (letOwnedTupleGo (.Tuple elts k pos) (.ref I) v) Q E s

theorem notOwned {M : Model} {A : Around} {E : Value → Shared → Prop} {s : Shared} {I : Addr} {o : Obj} {n : String} {vs : Array Value} {v : Value} {elts : List Expr} {k : Nat} {pos : Pos} {Q : Unit → Shared → Prop}
    (ho : s.heap.get? I = some o) (hc : o.cls = .type n) (hd : o.data = .fields vs) (hn : ["enumerate", "zip", "dict_itemiterator", "dict_reverseitemiterator", "odict_iterator", "itertools.zip_longest", "itertools.pairwise"].contains n = false) (hQ : Q () s) :
    wpAny M A (letOwnedTupleGo (.Tuple elts k pos) (.ref I) v) Q E s := by
  unfold letOwnedTupleGo
  cases v with
  | ref T =>
    refine wpAny_bind (wpAny_load ho ?_)
    rw [hc, hd]
    show wpAny _ A (if (["enumerate", "zip", "dict_itemiterator", "dict_reverseitemiterator", "odict_iterator", "itertools.zip_longest", "itertools.pairwise"].contains n && vs[0]? == some (rawInt T)) = true then _ else _) Q E s
    rw [hn, Bool.false_and]
    exact wpAny_pure hQ
  | _ => exact wpAny_pure hQ

theorem tups_but {I : Addr} {h h' : Heap} {o : Obj} {vs : Array Value} (ho : h.get? I = some o) (hd : o.data = .fields vs) (x : Heap.ExtBut I h h') : Tups h h' := fun b us n e => x b _ (fun q => by
  rw [q, ho] at e; cases e; cases hd) e

theorem iter_list {g : G} {A : Around} (hh : A.handled = none) {I ax : Addr} {L : List V} : IterOK g A I L (fun σ => σ ax = some (.lst L)) (fun i h => h.IsListIter I ax i) where
  frame := fun i h h' st k _ => let ⟨o, ho, r⟩ := st; ⟨o, k _ ho, r⟩
  obj := fun i h st => let ⟨o, ho, _, hd⟩ := st; ⟨o, _, ho, hd⟩
  item := fun i x σ s Q E hx st sm hK hQ => by
    obtain ⟨vs, hp, r⟩ := (sm.objs _ _ hK).1
    obtain ⟨v, hv, rv⟩ := r.get hx
    obtain ⟨o, ho, hc, hd⟩ := id st
    exact wpAny_pyNext_list_item st hp.isList (x := v) (by rw [← Array.getElem?_toList]; exact hv) fun h' hit' hs' => hQ v h' s.toks (rv.mono (tups_but ho hd hs'.extBut)) hit' hs'.extBut
  done := fun σ s Q E st sm hK hQ => by
    obtain ⟨vs, hp, r⟩ := (sm.objs _ _ hK).1
    exact wpAny_pyNext_list_end hh st hp.isList (by rw [← Array.getElem?_toList]; simp [← r.length]) fun h' he => hQ h' s.toks he
  self := fun i s Q E st hQ => wpAny_pyIter_listiter st hQ
  plain := fun i s v elts k pos Q E st hQ => let ⟨o, ho, hc, hd⟩ := st; notOwned ho hc hd (by decide) hQ

theorem iter_tuple {g : G} {A : Around} (hh : A.handled = none) {I t : Addr} {vs : Array Value} {n : Nat} {L : List V} :
    IterOK g A I L (fun _ => True) (fun i h => h.IsTupleIter I t i ∧ h.get? t = some { cls := .type "tuple", data := .seq vs n } ∧ RepL h vs.toList L) where
  frame := fun i h h' st k t => let ⟨⟨o, ho, r⟩, a, b⟩ := st; ⟨⟨o, k _ ho, r⟩, t _ _ _ a, b.mono t⟩
  obj := fun i h st => let ⟨⟨o, ho, _, hd⟩, _⟩ := st; ⟨o, _, ho, hd⟩
  item := fun i x σ s Q E hx st sm hK hQ => by
    obtain ⟨st1, ht, r⟩ := st
    obtain ⟨v, hv, rv⟩ := r.get hx
    obtain ⟨o, ho, hc, hd⟩ := id st1
    refine wpAny_pyNext_tuple_item st1 ⟨_, ht, rfl, _, rfl⟩ (x := v) (by rw [← Array.getElem?_toList]; exact hv) fun h' hit' hs' => ?_
    have tu := tups_but ho hd hs'.extBut
    exact hQ v h' s.toks (rv.mono tu) ⟨hit', tu _ _ _ ht, r.mono tu⟩ hs'.extBut
  done := fun σ s Q E st sm hK hQ => by
    obtain ⟨st1, ht, r⟩ := st
    exact wpAny_pyNext_tuple_end hh st1 ⟨_, ht, rfl, _, rfl⟩ (by rw [← Array.getElem?_toList]; simp [← r.length]) fun h' he => hQ h' s.toks he
  self := fun i s Q E st hQ => wpAny_pyIter_tupleiter st.1 hQ
  plain := fun i s v elts k pos Q E st hQ => let ⟨⟨o, ho, hc, hd⟩, _⟩ := st; notOwned ho hc hd (by decide) hQ

/-- a row of rngL -/
def rngL (a c : Int) (n : Nat) : List V := (List.range n).map fun (i : Nat) => .int (a + (i : Int) * c)
theorem ints_length (a c : Int) (n : Nat) : (rngL a c n).length = n := by simp [rngL]
theorem ints_get {a c : Int} {n i : Nat} {x : V} (h : (rngL a c n)[i]? = some x) : i < n ∧ x = .int (a + i * c) := by
  have hi : i < n := by
    have := (List.getElem?_eq_some_iff.mp h).1
    rwa [ints_length] at this
  unfold rngL at h
  rw [List.getElem?_map, List.getElem?_range hi] at h
  exact ⟨hi, (Option.some.inj h).symm⟩

theorem iter_range {g : G} {A : Around} (hh : A.handled = none) {I : Addr} {a c : Int} {n : Nat} :
    IterOK g A I (rngL a c n) (fun _ => True) (fun i h => IsRangeIter h I (a + (i : Nat) * c) ((n : Int) - (i : Nat)) c) where
  frame := fun i h h' st k t => k _ st
  obj := fun i h st => ⟨_, _, st, rfl⟩
  item := fun i x σ s Q E hx st sm hK hQ => by
    obtain ⟨hi, rfl⟩ := ints_get hx
    refine wpAny_pyNext_range_item st (by omega) fun h' hit' hs' => hQ _ h' _ (.int _ _) ?_ hs'.extBut
    have e1 : a + ((i + 1 : Nat) : Int) * c = a + (i : Int) * c + c := by rw [Int.natCast_succ, Int.add_mul]; omega
    have e2 : (n : Int) - ((i + 1 : Nat) : Int) = (n : Int) - (i : Int) - 1 := by omega
    show IsRangeIter h' I (a + ((i + 1 : Nat) : Int) * c) ((n : Int) - ((i + 1 : Nat) : Int)) c
    rw [e1, e2]; exact hit'
  done := fun σ s Q E st sm hK hQ => by
    rw [ints_length] at st
    exact wpAny_pyNext_range_end hh st (by omega) fun h' he => hQ h' s.toks he
  self := fun i s Q E st hQ => wpAny_pyIter_rangeiter st hQ
  plain := fun i s v elts k pos Q E st hQ => notOwned st rfl rfl (by decide) hQ
end Mine

set_option linter.all false
open PySem
namespace Mine

section
variable {prog : Program} {w : World} {A : Around} {s : Shared}
theorem forLoop_any {R : Result → Shared → Prop} {target it body orelse env} (I : Nat → Shared → Prop)
    (turn : ∀ n s, I n s → wpAny (model prog w) A (pyNext it) (fun r s₁ => match r with
      | none => wpAny (model prog w) A (execs orelse env) (fun f s₃ => R (.ok f) s₃) (notedBy (model prog w) A env fun e s' => R (.error e) s') s₁
      | some v => wpAny (model prog w) A (letOwnedTupleGo target it v) (fun _ s₁ => wpAny (model prog w) A (assign target env v) (fun _ s₂ => wpAny (model prog w) A (execs body env) (fun f s₃ => match f with
          | .next | .cont => ∃ m, m < n ∧ I m s₃
          | .brk => R (.ok .next) s₃
          | .ret v => R (.ok (.ret v)) s₃) (notedBy (model prog w) A env fun e s' => R (.error e) s') s₂) (notedBy (model prog w) A env fun e s' => R (.error e) s') s₁) (notedBy (model prog w) A env fun e s' => R (.error e) s') s₁) (notedBy (model prog w) A env fun e s' => R (.error e) s') s)
    (n : Nat) (h : I n s) : codeAny (model prog w) A (.forLoop target it body orelse env) R s := by
  refine codeAny_loop' rfl I (fun n s hI => ?_) n h
  show wpAny _ _ ((forTurn target it body orelse env).onRaise (fun x => do noteFrame x env; theTreesLotGoes x)) _ _ s
  refine wpAny_noted ?_
  simp only [forTurn]
  refine wpAny_bind (wpAny_standAt (wpAny_bind (wpAny_onRaise (wpAny_mono (turn n s hI) (fun r s₁ h₁ => ?_) fun _ _ h' => wpAny_standAt h'))))
  cases r with
  | none => exact wpAny_pure (.inr ⟨rfl, codeAny_block h₁⟩)
  | some v =>
    refine wpAny_bind (wpAny_mono h₁ (fun _ s₁ h₁ => ?_) fun _ _ h' => h')
    refine wpAny_bind (wpAny_mono h₁ (fun _ s₂ h₂ => wpAny_bind (wpAny_mono h₂ (fun f s₃ h₃ => ?_) fun _ _ h' => h')) fun _ _ h' => h')
    cases f with
    | next => exact wpAny_pure (.inl ⟨rfl, h₃⟩)
    | cont => exact wpAny_pure (.inl ⟨rfl, h₃⟩)
    | brk => exact wpAny_pure h₃
    | ret v => exact wpAny_pure h₃
end

section
variable {g : G} {F : Blk} {ρ : List (Option V)} {σ : Hp}

theorem Step.but {own : Addr → Prop} {σ σ₁ : Hp} {s s₁ : Shared} {I : Addr} {h' : Heap} {tk : Nat} (x : Step own σ σ₁ s s₁) (e : Heap.ExtBut I s₁.heap h') (hI : s.heap.get? I = none) : Step own σ σ₁ s { s₁ with heap := h', toks := tk } := by
  have ne : ∀ b o, s.heap.get? b = some o → b ≠ I := fun b o hb q => by rw [q, hI] at hb; cases hb
  refine ⟨?_, fun b o hb => ?_, fun b o hb hσ ho => ?_, fun b vs n hb => e _ _ (ne _ _ hb) (x.tups b vs n hb), x.new⟩
  · obtain ⟨h, t, rfl⟩ := x.same; exact ⟨h', tk, rfl⟩
  · obtain ⟨o', ho', k⟩ := x.dom b o hb
    exact ⟨o', e _ _ (ne _ _ hb) ho', k⟩
  · exact Kept.trans (x.keep b o hb hσ ho) fun o' ho' => .inl (e _ _ (ne _ _ hb) ho')

theorem Inv.but {A : Around} {env : Env} {s : Shared} {I : Addr} {h' : Heap} {tk : Nat} (J : Inv g F A env ρ σ s) (e : Heap.ExtBut I s.heap h') (t : Tups s.heap h') (h1 : σ I = none) (h2 : ¬ ownOf env I) (h3 : g.h₀.get? I = none) :
    Inv g F A env ρ σ { s with heap := h', toks := tk } := by
  obtain ⟨m, hn, hv⟩ := J.loc.ns
  have hl : ∀ b o, ownOf env b → s.heap.get? b = some o → h'.get? b = some o := fun b o hb hbo => e b o (fun q => h2 (q ▸ hb)) hbo
  refine ⟨J.scope, J.fn, J.glob, J.bltn, J.room, J.units, J.quiet, ⟨fun b o hb => e b o (fun q => by rw [q, h3] at hb; cases hb) (J.sim.stays b o hb), fun a o ha => ⟨(J.sim.objs a o ha).1.keep t fun ob hob => e a ob (fun q => by rw [q, h1] at ha; cases ha) hob, (J.sim.objs a o ha).2⟩⟩,
    ⟨J.loc.len, ⟨m, hn.at' fun o ho => hl _ o (.inl rfl) ho, fun i y v e1 e2 => (hv i y v e1 e2).keep t fun y c hc o ho => .inl (hl c o (.inr ⟨y, hc⟩) ho)⟩, J.loc.free, fun y c hc => ?_, J.loc.apart, J.loc.other⟩, J.base, J.nd⟩
  obtain ⟨o, ho⟩ := Option.isSome_iff_exists.mp (J.loc.live y c hc)
  show (h'.get? c).isSome = true
  rw [hl c o (.inr ⟨y, hc⟩) ho]; rfl

theorem Inv.notOwn {A : Around} {env : Env} {s : Shared} {I : Addr} (J : Inv g F A env ρ σ s) (h : s.heap.get? I = none) : ¬ ownOf env I := fun q => by
  rcases q with rfl | ⟨y, hc⟩
  · obtain ⟨m, ⟨o, _, _, ho, _⟩, _⟩ := J.loc.ns
    rw [h] at ho; cases ho
  · have := J.loc.live y I hc; rw [h] at this; cases this
theorem Inv.notBase {A : Around} {env : Env} {s : Shared} {I : Addr} (J : Inv g F A env ρ σ s) (h : s.heap.get? I = none) : g.h₀.get? I = none := by
  cases q : g.h₀.get? I with
  | none => rfl
  | some o => have := J.sim.stays _ _ q; rw [h] at this; cases this

/-- an iterable -/
structure Itr (g : G) (F : Blk) (e : Expr) (ρ : List (Option V)) (σ : Hp) (Q : List V → (Hp → Prop) → Hp → Prop) (X : Str → Hp → Prop) : Prop where
  run : ∀ A env s, Inv g F A env ρ σ s → A.handled = none → wpAny (model g.prog g.w) A (eval e env) (fun x s₁ => wpAny (model g.prog g.w) A (pyIter x) (fun it s₂ =>
    ∃ I L K St σ', it = .ref I ∧ IterOK g A I L K St ∧ St 0 s₂.heap ∧ s.heap.get? I = none ∧ σ' I = none ∧ Inv g F A env ρ σ' s₂ ∧ Step nobody σ σ' s s₂ ∧ Q L K σ') (PostX g F A env ρ σ s X) s₁) (PostX g F A env ρ σ s X) s
  fold : ∀ env x, foldedSetIterable e env x = pure x

structure Asg (g : G) (F : Blk) (t : Expr) (v : V) (ρ : List (Option V)) (σ : Hp) (Q : List (Option V) → Prop) : Prop where
  run : ∀ A env s x (QU : Unit → Shared → Prop) (E : Value → Shared → Prop), Inv g F A env ρ σ s → A.handled = none → Rep s.heap x v →
    (∀ s' ρ', Inv g F A env ρ' σ s' → Step (ownOf env) σ σ s s' → Q ρ' → QU () s') → wpAny (model g.prog g.w) A (assign t env x) QU E s
  tgt : (∃ x p, t = .Name x p) ∨ ∃ es k p, t = .Tuple es k p

theorem asg_name {x : Str} {p : Pos} {v : V} {i : Nat} {w : Option V} {Q : List (Option V) → Prop} (hx : F.vars[i]? = some x) (hw : ρ[i]? = some w) (h : Q (ρ.set i (some v))) : Asg g F (.Name x p) v ρ σ Q :=
  ⟨fun A env s xv QU E I hh r k => wpAny_assign_Name (store_name I hx hw r fun s' I' st => k s' _ I' st h), .inl ⟨x, p, rfl⟩⟩

def forQ (Q : SPost) (J : List V → List (Option V) → Hp → Prop) (l : List V) : SPost := fun f ρ σ => match f with
  | .next => J l ρ σ
  | .cont => J l ρ σ
  | .brk => Q .next ρ σ
  | .ret v => Q (.ret v) ρ σ

theorem ex_forx {Q : SPost} {X : XPost} {t iter : Expr} {body : List Stmt} {pos : Pos} (hq : F.q = true)
    (h : Itr g F iter ρ σ (fun L K σ₁ => ∃ J : List V → List (Option V) → Hp → Prop, J L ρ σ₁ ∧ (∀ v l ρ' σ', J (v :: l) ρ' σ' → K σ' ∧ Asg g F t v ρ' σ' (fun ρ'' => Exs g F body ρ'' σ' (forQ Q J l) X)) ∧ ∀ ρ' σ', J [] ρ' σ' → K σ' ∧ Q .next ρ' σ') (fun x σ₁ => X x ρ σ₁)) :
    Ex g F (.For t iter body [] pos) ρ σ Q X := ⟨fun A env s I => by
  have hh := I.quiet hq
  refine wpAny_For (wpAny_mono (h.run A env s I hh) (fun x s₁ h₁ => wpAny_mono h₁ (fun it s₂ h₂ => ?_) fun _ _ p => p.toS) fun _ _ p => p.toS) (h.fold env)
  obtain ⟨It, L, K, St, σ₁, rfl, W, hst, hfr, hσI, I₂, st₂, J, hJ, hturn, hend⟩ := h₂
  have hown := I.notOwn hfr
  have hbase := I.notBase hfr
  refine forLoop_any (fun n s' => ∃ i ρ' σ', i + n = L.length + 1 ∧ i ≤ L.length ∧ J (L.drop i) ρ' σ' ∧ St i s'.heap ∧ σ' It = none ∧ Inv g F A env ρ' σ' s' ∧ Step (ownOf env) σ σ' s s') ?_ (L.length + 1)
    ⟨0, ρ, σ₁, by omega, Nat.zero_le _, by simpa using hJ, hst, hσI, I₂, st₂.mono fun _ h => h.elim⟩
  rintro n s' ⟨i, ρ', σ', hn, hi, hJ', hst', hσ', I', st'⟩
  obtain ⟨oI, vI, hoI, hdI⟩ := W.obj i _ hst'
  by_cases hlt : i < L.length
  · have hd : L.drop i = L[i] :: L.drop (i + 1) := List.drop_eq_getElem_cons hlt
    rw [hd] at hJ'
    obtain ⟨hK, asg⟩ := hturn _ _ _ _ hJ'
    refine W.item i L[i] σ' s' _ _ (List.getElem?_eq_getElem hlt) hst' I'.sim hK fun v h' tk hr hst1 hx => ?_
    have tu := tups_but hoI hdI hx
    have I1 := I'.but (tk := tk) hx tu hσ' hown hbase
    have st1 := st'.but (tk := tk) hx hfr
    have go : ∀ {QU : Unit → Shared → Prop} {E : Value → Shared → Prop}, QU () { s' with heap := h', toks := tk } → wpAny (model g.prog g.w) A (letOwnedTupleGo t (.ref It) v) QU E { s' with heap := h', toks := tk } := fun {QU E} hQ => by
      rcases asg.tgt with ⟨x, p, rfl⟩ | ⟨es, k, p, rfl⟩
      · exact wpAny_pure hQ
      · exact W.plain (i + 1) _ v es k p QU E hst1 hQ
    refine go (asg.run A env _ v _ _ I1 hh hr fun s3 ρ3 I3 st3 hex => ?_)
    have st13 := st1.trans st3
    refine wpAny_mono (hex.run A env s3 I3) (fun fl s4 ⟨f', ρ4, σ4, hf, I4, st4, hq4⟩ => ?_) fun e s4 ⟨_, _, _, hfly, _⟩ => hfly.elim
    have st14 := st13.trans st4
    have hI3 : s3.heap.get? It = h'.get? It := by
      obtain ⟨o1, v1, e1, d1⟩ := W.obj _ _ hst1
      rcases st3.keep It o1 e1 hσ' hown with q | ⟨⟨_, _, q⟩, _⟩
      · rw [q, e1]
      · rw [d1] at q; cases q
    obtain ⟨o1, v1, e1, d1⟩ := W.obj _ _ hst1
    have hI4 : s4.heap.get? It = some o1 := by
      rcases st4.keep It o1 (by rw [hI3, e1]) hσ' hown with q | ⟨⟨_, _, q⟩, _⟩
      · exact q
      · rw [d1] at q; cases q
    have hst4 : St (i + 1) s4.heap := W.frame _ _ _ hst1 (fun o ho => by rw [e1] at ho; cases ho; exact hI4) (st3.tups.trans st4.tups)
    have hσ4 : σ4 It = none := st4.new It o1 (by rw [hI3, e1]) hσ'
    cases hf with
    | next => exact ⟨n - 1, by omega, i + 1, ρ4, σ4, by omega, by omega, hq4, hst4, hσ4, I4, st14⟩
    | cont => exact ⟨n - 1, by omega, i + 1, ρ4, σ4, by omega, by omega, hq4, hst4, hσ4, I4, st14⟩
    | brk => exact ⟨.next, ρ4, σ4, .next, I4, st14, hq4⟩
    | ret r => exact ⟨.ret _, ρ4, σ4, .ret r, I4, st14, hq4⟩
  · have hii : i = L.length := by omega
    rw [hii, List.drop_length] at hJ'
    obtain ⟨hK, hQ⟩ := hend _ _ hJ'
    refine W.done σ' s' _ _ (hii ▸ hst') I'.sim hK fun h' tk hx => wpAny_execs_nil ?_
    exact ⟨.next, ρ', σ', .next, I'.but (tk := tk) hx (tups_but hoI hdI hx) hσ' hown hbase, st'.but (tk := tk) hx hfr, hQ⟩⟩
theorem Itr.mono {e : Expr} {Q Q' : List V → (Hp → Prop) → Hp → Prop} {X : Str → Hp → Prop} (h : Itr g F e ρ σ Q X) (k : ∀ L K σ, Q L K σ → Q' L K σ) : Itr g F e ρ σ Q' X :=
  ⟨fun A env s I hh => wpAny_mono (h.run A env s I hh) (fun x s₁ h₁ => wpAny_mono h₁ (fun it s₂ ⟨It, L, K, St, σ', e1, e2, e3, e4, e5, e6, e7, q⟩ => ⟨It, L, K, St, σ', e1, e2, e3, e4, e5, e6, e7, k _ _ _ q⟩) fun _ _ p => p) fun _ _ p => p, h.fold⟩
theorem ex_for {Q : SPost} {X : XPost} {t iter : Expr} {body : List Stmt} {pos : Pos} (hq : F.q = true) (J : List V → List (Option V) → Hp → Prop)
    (h : Itr g F iter ρ σ (fun L K σ₁ => J L ρ σ₁ ∧ (∀ v l ρ' σ', J (v :: l) ρ' σ' → K σ' ∧ Asg g F t v ρ' σ' (fun ρ'' => Exs g F body ρ'' σ' (forQ Q J l) X)) ∧ ∀ ρ' σ', J [] ρ' σ' → K σ' ∧ Q .next ρ' σ') (fun x σ₁ => X x ρ σ₁)) :
    Ex g F (.For t iter body [] pos) ρ σ Q X := ex_forx hq (h.mono fun L K σ q => ⟨J, q⟩)
end
end Mine

set_option linter.all false
open PySem
namespace Mine

section
variable {g : G} {F : Blk} {ρ : List (Option V)} {σ : Hp} {X : Str → Hp → Prop}

theorem Step.push' {own : Addr → Prop} {σ σ₁ : Hp} {s s₁ : Shared} {o : Obj} (x : Step own σ σ₁ s s₁) : Step own σ σ₁ s { s₁ with heap := s₁.heap.push o } := x.trans Step.push

theorem Step.freshSize {own : Addr → Prop} {σ σ₁ : Hp} {s s₁ : Shared} (x : Step own σ σ₁ s s₁) : s.heap.get? s₁.heap.objs.size = none := by
  cases q : s.heap.get? s₁.heap.objs.size with
  | none => rfl
  | some o => obtain ⟨o', ho', _⟩ := x.dom _ o q; rw [get_size] at ho'; cases ho'

theorem itr_lst {e : Expr} {Q : List V → (Hp → Prop) → Hp → Prop} (h : Ev g F e ρ σ (fun v σ₁ => ∃ a L, v = .ref a ∧ σ₁ a = some (.lst L) ∧ Q L (fun σ => σ a = some (.lst L)) σ₁) X) (hf : ∀ env x, foldedSetIterable e env x = pure x := by intros; rfl) : Itr g F e ρ σ Q X :=
  ⟨fun A env s I hh => wpAny_mono (h.run A env s I) (fun x s₁ ⟨v, σ₁, r, I₁, st₁, a, L, hv, hσ, hQ⟩ => by
    subst hv
    cases r
    obtain ⟨vs, hp, rs⟩ := (I₁.sim.objs a _ hσ).1
    refine wpAny_pyIter_list hp.isList ?_
    exact ⟨_, L, _, _, σ₁, rfl, iter_list hh (ax := a), ⟨_, Heap.get?_push_size _ rfl, rfl, rfl⟩, st₁.freshSize, I₁.sim.fresh, I₁.keep Step.push I₁.sim.push, st₁.push', hQ⟩) fun _ _ p => p, hf⟩
theorem itr_tup {e : Expr} {Q : List V → (Hp → Prop) → Hp → Prop} (h : Ev g F e ρ σ (fun v σ₁ => ∃ L, v = .tup L ∧ Q L (fun _ => True) σ₁) X) (hf : ∀ env x, foldedSetIterable e env x = pure x := by intros; rfl) : Itr g F e ρ σ Q X :=
  ⟨fun A env s I hh => wpAny_mono (h.run A env s I) (fun x s₁ ⟨v, σ₁, r, I₁, st₁, L, hv, hQ⟩ => by
    subst hv
    cases r with
    | tup ht rs =>
      refine wpAny_pyIter_tuple ⟨_, ht, rfl, _, rfl⟩ ?_
      exact ⟨_, L, _, _, σ₁, rfl, iter_tuple hh, ⟨⟨_, Heap.get?_push_size _ rfl, rfl, rfl⟩, Heap.get?_push_of_some _ ht, rs.mono (Step.push (own := nobody) (σ := σ)).tups⟩, st₁.freshSize, I₁.sim.fresh, I₁.keep Step.push I₁.sim.push, st₁.push', hQ⟩) fun _ _ p => p, hf⟩

/-- a range object that was made -/
structure Rng (g : G) (F : Blk) (e : Expr) (ρ : List (Option V)) (σ : Hp) (Q : Int → Int → Int → Hp → Prop) (X : Str → Hp → Prop) : Prop where
  run : ∀ A env s, Inv g F A env ρ σ s → wpAny (model g.prog g.w) A (eval e env) (fun x s₁ => ∃ r a b c t u v σ', x = .ref r ∧ IsRange s₁.heap r a b c t u v ∧ Inv g F A env ρ σ' s₁ ∧ Step nobody σ σ' s s₁ ∧ Q a b c σ') (PostX g F A env ρ σ s X) s

theorem rng_1 {x : Str} {np pos : Pos} {e : Expr} {Q : Int → Int → Int → Hp → Prop} (hk : F.sc.names.lookup x = some .globalImplicit) (hg : g.mg x = none) (hb : g.mb x = some (.type "range"))
    (h : Ev g F e ρ σ (fun v σ₁ => ∃ n, v = .int n ∧ Q 0 n 1 σ₁) X) (hd : (x == ("__debug__" : Str)) = false := by decide +kernel) (he : ∀ env, starEach [e] env = (false, eval e env) :: starEach [] env := by intro _; rfl) : Rng g F (.Call (.Name x np) [e] [] pos) ρ σ Q X := ⟨fun A env s I => by
  refine wpAny_Call_ofName (Calls.Name_function_global I.fn (by show env.scope.names.lookup x = _; rw [I.scope]; exact hk) (Calls.loadGlobal_builtin (by rw [I.glob]; exact g.ns.keeps I.sim.stays) hg (by rw [I.bltn]; exact g.nb.keeps I.sim.stays) hb ?_) hd)
  have hp : (backTo pos (starEach [e] env)).any (·.1) = false := by rw [he]; rfl
  refine callWith_excType hp (evalArgs_any hp (wpAny_items_cons (wpAny_mono (h.run A env s I) (fun v s₁ ⟨V, σ₁, r, I₁, st₁, n, hV, hQ⟩ => wpAny_items_nil ?_) fun _ _ p => p) (he env)))
  subst hV; cases r
  refine call_range_1 ⟨_, 0, n, 1, _, _, _, σ₁, rfl, Heap.get?_push_size _ rfl, ?_, ?_, hQ⟩
  · exact I₁.keep (Step.grow fun b o e => Heap.get?_push_of_some _ e) I₁.sim.push
  · exact st₁.trans (Step.grow fun b o e => Heap.get?_push_of_some _ e)⟩
theorem rng_2 {x : Str} {np pos : Pos} {e e' : Expr} {Q : Int → Int → Int → Hp → Prop} (hk : F.sc.names.lookup x = some .globalImplicit) (hg : g.mg x = none) (hb : g.mb x = some (.type "range"))
    (h : Ev g F e ρ σ (fun v σ₁ => ∃ a, v = .int a ∧ Ev g F e' ρ σ₁ (fun w σ₂ => ∃ b, w = .int b ∧ Q a b 1 σ₂) X) X) (hd : (x == ("__debug__" : Str)) = false := by decide +kernel) (he : ∀ env, starEach [e, e'] env = (false, eval e env) :: starEach [e'] env := by intro _; rfl) (he' : ∀ env, starEach [e'] env = (false, eval e' env) :: starEach [] env := by intro _; rfl) : Rng g F (.Call (.Name x np) [e, e'] [] pos) ρ σ Q X := ⟨fun A env s I => by
  refine wpAny_Call_ofName (Calls.Name_function_global I.fn (by show env.scope.names.lookup x = _; rw [I.scope]; exact hk) (Calls.loadGlobal_builtin (by rw [I.glob]; exact g.ns.keeps I.sim.stays) hg (by rw [I.bltn]; exact g.nb.keeps I.sim.stays) hb ?_) hd)
  have hp : (backTo pos (starEach [e, e'] env)).any (·.1) = false := by rw [he, he']; rfl
  refine callWith_excType hp (evalArgs_any hp (wpAny_items_cons (wpAny_mono (h.run A env s I) (fun v s₁ ⟨V, σ₁, r, I₁, st₁, a, hV, h₁⟩ => wpAny_items_cons (wpAny_mono (h₁.run A env s₁ I₁) (fun v' s₂ ⟨V', σ₂, r', I₂, st₂, b, hV', hQ⟩ => wpAny_items_nil ?_) fun _ _ p => p.step st₁) (he' env)) fun _ _ p => p) (he env)))
  subst hV hV'; cases r; cases r'
  refine call_range_2 ⟨_, a, b, 1, _, _, _, σ₂, rfl, Heap.get?_push_size _ rfl, ?_, ?_, hQ⟩
  · exact I₂.keep (Step.grow fun b o e => Heap.get?_push_of_some _ e) I₂.sim.push
  · exact (st₁.trans st₂).trans (Step.grow fun b o e => Heap.get?_push_of_some _ e)⟩

theorem itr_rng {e : Expr} {Q : List V → (Hp → Prop) → Hp → Prop} (h : Rng g F e ρ σ (fun a b c σ₁ => Builtin.Range.small a b c = true ∧ Q (rngL a c (Builtin.Range.rangeSize a b c).toNat) (fun _ => True) σ₁) X) (hf : ∀ env x, foldedSetIterable e env x = pure x := by intros; rfl) : Itr g F e ρ σ Q X :=
  ⟨fun A env s I hh => wpAny_mono (h.run A env s I) (fun x s₁ ⟨r, a, b, c, t, u, v, σ₁, hx, hr, I₁, st₁, hsm, hQ⟩ => by
    subst hx
    refine wpAny_pyIter_range hr hsm ?_
    have hn : 0 ≤ Builtin.Range.rangeSize a b c := by
      unfold Builtin.Range.rangeSize
      split
      · split
        · have := Int.ediv_nonneg (a := b - a - 1) (b := c) (by omega) (by omega); omega
        · exact Int.le_refl _
      · split
        · by_cases hc : c = 0
          · subst hc; simp
          · have := Int.ediv_nonneg (a := a - b - 1) (b := -c) (by omega) (by omega); omega
        · exact Int.le_refl _
    refine ⟨_, _, _, _, σ₁, rfl, iter_range hh (a := a) (c := c) (n := (Builtin.Range.rangeSize a b c).toNat), ?_, ?_, I₁.sim.fresh, I₁.keep Step.push I₁.sim.push, st₁.push', hQ⟩
    · have e1 : ((Builtin.Range.rangeSize a b c).toNat : Int) - ((0 : Nat) : Int) = Builtin.Range.rangeSize a b c := by omega
      have e2 : a + ((0 : Nat) : Int) * c = a := by simp
      rw [e1, e2]
      exact Heap.get?_push_size _ rfl
    · exact st₁.freshSize) fun _ _ p => p, hf⟩

theorem ex_while {Q : SPost} {X : XPost} {test : Expr} {body : List Stmt} {pos : Pos} (J : Nat → List (Option V) → Hp → Prop) {n : Nat} (h0 : J n ρ σ)
    (h : ∀ n ρ' σ', J n ρ' σ' → Tst g F test ρ' σ' (fun b σ₁ => (b = true → Exs g F body ρ' σ₁ (fun f ρ₂ σ₂ => match f with
      | .next => ∃ m, m < n ∧ J m ρ₂ σ₂
      | .cont => ∃ m, m < n ∧ J m ρ₂ σ₂
      | .brk => Q .next ρ₂ σ₂
      | .ret v => Q (.ret v) ρ₂ σ₂) X) ∧ (b = false → Q .next ρ' σ₁)) (fun x σ₁ => X x ρ' σ₁)) : Ex g F (.While test body [] pos) ρ σ Q X := ⟨fun A env s I => by
  refine wpAny_While (codeAny_whileLoop (fun n s' => ∃ ρ' σ', J n ρ' σ' ∧ Inv g F A env ρ' σ' s' ∧ Step (ownOf env) σ σ' s s') ?_ n ⟨ρ, σ, h0, I, Step.refl⟩)
  rintro n s' ⟨ρ', σ', hJ, I', st'⟩
  refine wpAny_mono ((h n ρ' σ' hJ).run A env s' I') (fun b s₁ ⟨σ₁, I₁, st₁, hb⟩ => ?_) fun e s₁ ⟨_, _, hfly, _⟩ => hfly.elim
  have st1 : Step (ownOf env) σ σ₁ s s₁ := st'.trans (st₁.mono fun _ h => h.elim)
  cases b with
  | false => exact wpAny_execs_nil ⟨.next, ρ', σ₁, .next, I₁, st1, hb.2 rfl⟩
  | true =>
    refine wpAny_mono ((hb.1 rfl).run A env s₁ I₁) (fun f s₂ ⟨f', ρ₂, σ₂, hf, I₂, st₂, hq⟩ => ?_) fun e s₂ ⟨_, _, _, hfly, _⟩ => hfly.elim
    cases hf with
    | next => obtain ⟨m, hm, hJ'⟩ := hq; exact ⟨m, hm, ρ₂, σ₂, hJ', I₂, st1.trans st₂⟩
    | cont => obtain ⟨m, hm, hJ'⟩ := hq; exact ⟨m, hm, ρ₂, σ₂, hJ', I₂, st1.trans st₂⟩
    | brk => exact ⟨.next, ρ₂, σ₂, .next, I₂, st1.trans st₂, hq⟩
    | ret r => exact ⟨.ret _, ρ₂, σ₂, .ret r, I₂, st1.trans st₂, hq⟩⟩
end
end Mine

set_option linter.all false
open PySem
namespace Mine

def rl (scope sc : Scope) : Scope :=
  { scope with names := scope.names.map fun (n, k) => if (k == .free && sc.kind == .function && sc.names.lookup n == some .cell) then (n, .cell) else (n, k) }
def frees (scope : Scope) : List Str := (scope.names.filter (·.2 == .free)).map (·.1)
def compOk (F : Blk) (scope : Scope) (x : Str) (js : List Nat) : Bool :=
  scope.names.all (fun y => y.2 != .cell) && (scope.kind == .function) && (scope.names.all fun y => y.2 != .local || scope.names.lookup y.1 == some .local) && (scope.names.lookup x == some .local) &&
  decide (x :: frees scope).Nodup && ((frees scope).all fun y => F.sc.names.lookup y == some .cell && scope.names.lookup y == some .free) && decide (js.map (fun j => F.vars[j]?) = (frees scope).map some)
def cblk (F : Blk) (scope : Scope) (x : Str) : Blk := ⟨rl scope F.sc, x :: frees scope, F.d, F.q⟩
def cloc (ρ : List (Option V)) (js : List Nat) : List (Option V) := js.map fun j => (ρ[j]?).join

def closL (cells : List (Str × Addr)) : List (Str × NameKind) → List (Str × Addr) → List (Str × Addr)
  | [], acc => acc
  | (n, k) :: r, acc => closL cells r (if k == .free then (n, (cells.lookup n).getD 0) :: acc else acc)

theorem closureFor_eq {scope : Scope} {env : Env} (h : ∀ y ∈ scope.names, y.2 = .free → (env.cells.lookup y.1).isSome = true) : closureFor scope env = pure (closL env.cells scope.names []) := by
  unfold closureFor
  have : ∀ (names : List (Str × NameKind)) (acc : List (Str × Addr)), (∀ y ∈ names, y.2 = .free → (env.cells.lookup y.1).isSome = true) →
      (forIn names acc fun x cs => if (x.2 == NameKind.free) = true then (do let c ← cellOf env x.1; pure (ForInStep.yield ((x.1, c) :: cs))) else pure (ForInStep.yield cs)) = (pure (closL env.cells names acc) : Sem (List (Str × Addr))) := by
    intro names
    induction names with
    | nil => intro acc _; rfl
    | cons y r ih =>
      intro acc hy
      obtain ⟨n, k⟩ := y
      rw [List.forIn_cons]
      cases hk : k == NameKind.free with
      | false =>
        simp only [hk, Bool.false_eq_true, if_false, pure_bind, closL]
        exact ih acc fun y hy' => hy y (List.mem_cons_of_mem _ hy')
      | true =>
        obtain ⟨c, hc⟩ := Option.isSome_iff_exists.mp (hy (n, k) List.mem_cons_self (by simpa using hk))
        have hcell : cellOf env n = pure c := by unfold cellOf; rw [hc]
        simp only [hk, if_true, hcell, pure_bind, closL, hc, Option.getD_some]
        exact ih _ fun y hy' => hy y (List.mem_cons_of_mem _ hy')
  have e := this scope.names [] h
  simp only [bind_pure]
  exact e

theorem closL_lookup {cells : List (Str × Addr)} {x : Str} {c : Addr} : ∀ {names : List (Str × NameKind)} {acc : List (Str × Addr)}, (∀ y c', acc.lookup y = some c' → cells.lookup y = some c') → (∀ y ∈ names, y.2 = .free → (cells.lookup y.1).isSome = true) →
    (closL cells names acc).lookup x = some c → cells.lookup x = some c
  | [], acc, ha, _, h => ha x c h
  | (n, k) :: r, acc, ha, hn, h => by
    unfold closL at h
    refine closL_lookup (fun y c' e => ?_) (fun y hy => hn y (List.mem_cons_of_mem _ hy)) h
    split at e
    · rename_i hk
      rw [List.lookup_cons] at e
      cases hy : y == n with
      | true =>
        rw [hy] at e
        obtain ⟨c2, hc2⟩ := Option.isSome_iff_exists.mp (hn (n, k) List.mem_cons_self (by simpa using hk))
        rw [hc2] at e
        simp at e
        rw [beq_iff_eq.mp hy, hc2, e]
      | false => rw [hy] at e; exact ha y c' e
    · exact ha y c' e
theorem closL_some {cells : List (Str × Addr)} {x : Str} : ∀ {names : List (Str × NameKind)} {acc : List (Str × Addr)}, ((acc.lookup x).isSome = true ∨ ∃ y ∈ names, y.1 = x ∧ y.2 = .free) → ((closL cells names acc).lookup x).isSome = true
  | [], acc, h => by
    rcases h with h | ⟨y, hy, _⟩
    · exact h
    · cases hy
  | (n, k) :: r, acc, h => by
    unfold closL
    refine closL_some ?_
    rcases h with h | ⟨y, hy, e1, e2⟩
    · left
      split
      · rw [List.lookup_cons]; split <;> simp_all
      · exact h
    · rcases List.mem_cons.mp hy with rfl | hy
      · left
        simp only at e1 e2
        subst e1 e2
        simp [List.lookup_cons]
      · exact .inr ⟨y, hy, e1, e2⟩

theorem rl_lookup {scope sc : Scope} {x : Str} {k : NameKind} : ∀ {names : List (Str × NameKind)}, names.lookup x = some k →
    (names.map fun (n, k) => if (k == NameKind.free && sc.kind == .function && sc.names.lookup n == some .cell) then (n, NameKind.cell) else (n, k)).lookup x =
      some (if (k == NameKind.free && sc.kind == .function && sc.names.lookup x == some .cell) then .cell else k)
  | [], h => by cases h
  | (n, k') :: r, h => by
    rw [List.lookup_cons] at h
    have ih := @rl_lookup scope sc x k r
    show List.lookup x ((if (k' == NameKind.free && sc.kind == .function && sc.names.lookup n == some .cell) = true then (n, NameKind.cell) else (n, k')) :: _) = _
    cases hx : x == n with
    | true =>
      rw [hx] at h; cases h
      have := beq_iff_eq.mp hx
      subst this
      by_cases hc : (k == NameKind.free && sc.kind == .function && sc.names.lookup x == some .cell) = true
      · rw [if_pos hc, if_pos hc]; simp [List.lookup_cons]
      · rw [if_neg hc, if_neg hc]; simp [List.lookup_cons]
    | false =>
      rw [hx] at h
      by_cases hc : (k' == NameKind.free && sc.kind == .function && sc.names.lookup n == some .cell) = true
      · rw [if_pos hc]; simp only [List.lookup_cons, hx]; exact ih h
      · rw [if_neg hc]; simp only [List.lookup_cons, hx]; exact ih h

/-- the tests of a comprehension -/
structure Cond (g : G) (F : Blk) (ifs : List Expr) (ρ : List (Option V)) (σ : Hp) (Q : Bool → Hp → Prop) : Prop where
  run : ∀ A env s (E : Value → Shared → Prop), Inv g F A env ρ σ s → wpAny (model g.prog g.w) A (forIn ifs true fun c r => if r = true then do let ok ← isTrue c env (eval c env); pure (ForInStep.yield ok) else pure (ForInStep.yield r)) (PostB g F A env ρ σ s Q) E s
def noX : Str → Hp → Prop := fun _ _ => False
theorem cond_nil {g : G} {F : Blk} {ρ : List (Option V)} {σ : Hp} {Q : Bool → Hp → Prop} (h : Q true σ) : Cond g F [] ρ σ Q := ⟨fun A env s E I => wpAny_tests_nil ⟨σ, I, Step.refl, h⟩⟩
theorem cond_one {g : G} {F : Blk} {c : Expr} {ρ : List (Option V)} {σ : Hp} {Q : Bool → Hp → Prop} (h : Tst g F c ρ σ Q noX) : Cond g F [c] ρ σ Q := ⟨fun A env s E I => wpAny_tests_one (wpAny_mono (h.run A env s I) (fun _ _ p => p) fun _ _ ⟨_, _, f, _⟩ => f.elim)⟩
end Mine

set_option linter.all false
set_option maxHeartbeats 1000000
open PySem
namespace Mine

section
variable {g : G} {F : Blk} {ρ : List (Option V)} {σ : Hp} {X : Str → Hp → Prop}

theorem comp_core {elt iter : Expr} {x : Str} {px pos pos' : Pos} {ifs : List Expr} {scope : Scope} {js : List Nat} (ok : compOk F scope x js = true) (hq : F.q = true) (J : List V → List V → Hp → Prop)
    (h : Itr g F iter ρ σ (fun L K σ₁ => L.length ≤ sizeLine ∧ J L [] σ₁ ∧
      (∀ v l acc σ', J (v :: l) acc σ' → K σ' ∧ Cond g (cblk F scope x) ifs (some v :: cloc ρ js) σ' (fun b σ₂ => (b = true → Ev g (cblk F scope x) elt (some v :: cloc ρ js) σ₂ (fun y σ₃ => J l (acc ++ [y]) σ₃) noX) ∧ (b = false → J l acc σ₂))) ∧
      ∀ acc σ', J [] acc σ' → K σ') X)
    {A : Around} {env : Env} {s : Shared} {E : Value → Shared → Prop} {use : Option (Value → Sem Unit)} {QV : Value → Shared → Prop} (I : Inv g F A env ρ σ s) (hE : ∀ e s', PostX g F A env ρ σ s X e s' → E e s')
    (fin : ∀ D C acc σ' s', J [] acc σ' → σ' D = none → Inv g F A env ρ (upd σ' D (.lst acc)) s' → Step nobody σ (upd σ' D (.lst acc)) s s' → (∃ m, s'.heap.Ns C m) → s.heap.get? C = none → upd σ' D (.lst acc) C = none →
      compPost (model g.prog g.w) A E use QV (.ref D) C (.ok .next) s') :
    wpAny (model g.prog g.w) A (comprehension (.ListComp elt [⟨.Name x px, iter, ifs, 0⟩] scope pos) scope env pos' (newList []) false (eval iter env) use) QV E s := by
  unfold compOk at ok
  simp only [Bool.and_eq_true, decide_eq_true_eq, List.all_eq_true, Bool.or_eq_true, beq_iff_eq, bne_iff_ne] at ok
  obtain ⟨⟨⟨⟨⟨⟨hcell, hkind⟩, hloc⟩, hx⟩, hnd⟩, hfr⟩, hjs⟩ := ok
  have hh := I.quiet hq
  obtain ⟨m₀, hn₀, hv₀⟩ := I.loc.ns
  -- the free names' cells
  have freeCell : ∀ y ∈ frees scope, ∃ (k j : Nat) (c : Addr) (r : Option Value), js[k]? = some j ∧ (frees scope)[k]? = some y ∧ F.vars[j]? = some y ∧ env.cells.lookup y = some c := fun y hy => by
    obtain ⟨k, hk⟩ := List.getElem?_of_mem hy
    have h1 : (js.map (fun j => F.vars[j]?))[k]? = some (some y) := by rw [hjs, List.getElem?_map, hk]; rfl
    rw [List.getElem?_map] at h1
    obtain ⟨j, hj, hj'⟩ := Option.map_eq_some_iff.mp h1
    have hlt : j < ρ.length := by rw [I.loc.len]; exact (List.getElem?_eq_some_iff.mp hj').1
    rcases hv₀ j y _ hj' (List.getElem?_eq_getElem hlt) with ⟨hkd, _⟩ | ⟨_, c, r, hc, _⟩
    · have := (hfr y hy).1
      rw [show env.kindOf y = F.sc.names.lookup y from by unfold Env.kindOf; rw [I.scope], this] at hkd
      cases hkd
    · exact ⟨k, j, c, r, hj, hk, hj', hc⟩
  have hfreeIn : ∀ y ∈ scope.names, y.2 = .free → y.1 ∈ frees scope := fun y hy e => List.mem_map.mpr ⟨y, List.mem_filter.mpr ⟨hy, by simp [e]⟩, rfl⟩
  have hsome : ∀ y ∈ scope.names, y.2 = .free → (env.cells.lookup y.1).isSome = true := fun y hy e => by
    obtain ⟨_, _, c, _, _, _, _, hc⟩ := freeCell y.1 (hfreeIn y hy e)
    rw [hc]; rfl
  have clk : ∀ y c, (closL env.cells scope.names []).lookup y = some c → env.cells.lookup y = some c := fun y c e => closL_lookup (fun _ _ e => by cases e) hsome e
  refine wpAny_comprehension_free (g := ⟨.Name x px, iter, ifs, 0⟩) (gs := []) rfl (fun v => h.fold env v) (closureFor_eq hsome) hkind (fun y hy e => (hloc y hy).resolve_left fun q => q e) ?_
  refine wpAny_mono (h.run A env s I hh) (fun xv s₁ h₁ => wpAny_mono h₁ (fun it s₂ h₂ => ?_) fun e s' p => hE e s' p) fun e s' p => hE e s' p
  obtain ⟨It, L, K, St, σ₁, rfl, W, hst, hItf, hσI, I₂, st₂, hLs, hJ, hturn, hend⟩ := h₂
  refine wpAny_newObj_type (wpAny_newFunctionEnv hcell (by intro y hy; simp at hy) (fun h₁ hns₁ hsb₁ => ?_) hkind)
  dsimp only at hns₁ hsb₁ ⊢
  generalize hH2 : s₂.heap.push { cls := .type "list", dict := none, data := .seq ([] : List Value).toArray } = H2 at hns₁ hsb₁ ⊢
  have hC : H2.objs.size = s₂.heap.objs.size + 1 := by rw [← hH2, Heap.size_push]
  generalize hDd : s₂.heap.objs.size = D at hC ⊢
  generalize hCc : H2.objs.size = C at hns₁ hsb₁ hC ⊢
  have hDC : D ≠ C := by omega
  have old : ∀ b o, s₂.heap.get? b = some o → h₁.get? b = some o := fun b o e => by
    have hlt := Heap.lt_size e
    exact hsb₁.extBut b o (Nat.ne_of_lt (by rw [hC, ← hDd]; exact Nat.lt_succ_of_lt hlt)) (Heap.get?_push_of_some _ (hH2 ▸ Heap.get?_push_of_some _ e))
  have fresh : ∀ a, D ≤ a → s₂.heap.get? a = none := fun a ha => by
    cases e : s₂.heap.get? a with
    | none => rfl
    | some o' => exact absurd (Heap.lt_size e) (Nat.not_lt.mpr (by rw [hDd]; exact ha))
  have hacc : h₁.PlainList D #[] := ⟨0, hsb₁.extBut _ _ hDC (Heap.get?_push_of_some _ (by rw [← hH2, ← hDd]; exact Heap.get?_push_size _ rfl))⟩
  have st3 : Step nobody σ₁ σ₁ s₂ { s₂ with heap := h₁, toks := s₂.toks + ([] : List (Str × Value)).length } := Step.grow old
  have f0 : ∀ a, D ≤ a → s.heap.get? a = none := fun a ha => by
    cases e : s.heap.get? a with
    | none => rfl
    | some o => obtain ⟨o', ho', _⟩ := st₂.dom _ o e; rw [fresh a ha] at ho'; cases ho'
  have hσfresh : ∀ a, D ≤ a → σ₁ a = none := fun a ha => by
    cases e : σ₁ a with
    | none => rfl
    | some o =>
      have := (I₂.sim.objs a o e).1
      cases o with
      | lst l => obtain ⟨vs, ⟨n, e'⟩, _⟩ := this; rw [fresh a ha] at e'; cases e'
      | dict l => exact this.elim
  have hIt2 : ∃ o vs, s₂.heap.get? It = some o ∧ o.data = .fields vs := W.obj 0 _ hst
  have hItD : It ≠ D := fun q => by obtain ⟨o, _, e, _⟩ := hIt2; rw [q, fresh D (Nat.le_refl _)] at e; cases e
  have hItC : It ≠ C := fun q => by obtain ⟨o, _, e, _⟩ := hIt2; rw [q, fresh C (by omega)] at e; cases e
  -- the comprehension's own block
  have hcenv : ({ newEnv scope C env.globals (closL env.cells scope.names []) env.qual none .none (some env) builtinsNs with scope := relabel scope env } : Env) = compEnvC scope (closL env.cells scope.names []) C env := rfl
  have hkx : (compEnvC scope (closL env.cells scope.names []) C env).kindOf x = some .local := by
    show (relabel scope env).names.lookup x = _
    exact lookup_relabel_local hx
  have hky : ∀ y ∈ frees scope, (compEnvC scope (closL env.cells scope.names []) C env).kindOf y = some .cell := fun y hy => by
    show ((relabel scope env).names).lookup y = _
    have hl := (hfr y hy).2
    have e1 := rl_lookup (scope := scope) (sc := env.scope) hl
    have e2 : (NameKind.free == NameKind.free && env.scope.kind == .function && env.scope.names.lookup y == some .cell) = true := by
      rw [I.fn, I.scope, (hfr y hy).1]; rfl
    rw [e2] at e1
    exact e1
  have own_c : ∀ b, ownOf (compEnvC scope (closL env.cells scope.names []) C env) b → b = C ∨ ∃ y, env.cells.lookup y = some b := fun b hb => by
    rcases hb with rfl | ⟨y, hy⟩
    · exact .inl rfl
    · exact .inr ⟨y, clk y b hy⟩
  -- the block at a state
  have mk : ∀ (v : V) (rv : Value) (σ' : Hp) (s' : Shared) (m' : Str → Option Value), Sim g σ' s'.heap → Step nobody σ σ' s s' → s'.heap.Ns C m' → m' x = some rv → Rep s'.heap rv v → σ' C = none → Inv g (cblk F scope x) A (compEnvC scope (closL env.cells scope.names []) C env) (some v :: cloc ρ js) σ' s' := by
    intro v rv σ' s' m' sm st' hns' hmx hrv hσC
    have I' : Inv g F A env ρ σ' s' := I.keep st' sm
    obtain ⟨mE, hnE, hvE⟩ := I'.loc.ns
    refine ⟨?_, hkind, I.glob, I.bltn, I.room, I.units, I.quiet, sm, ⟨?_, ⟨m', hns', fun i y u hy hu => ?_⟩, fun b hb => ?_, fun y c hc => I'.loc.live y c (clk y c hc), fun y z c h1 h2 => I'.loc.apart y z c (clk y c h1) (clk z c h2), fun y c hc q => ?_⟩, fun b hb => ?_, hnd⟩
    · show relabel scope env = rl scope F.sc
      rw [← I.scope]; rfl
    · show (some v :: cloc ρ js).length = (x :: frees scope).length
      have : js.length = (frees scope).length := by have := congrArg List.length hjs; simpa using this
      simp [cloc, this]
    · cases i with
      | zero =>
        simp [cblk] at hy hu
        subst hy hu
        exact .inl ⟨hkx, fun W hW => by cases hW; exact ⟨rv, hmx, hrv⟩⟩
      | succ k =>
        have hy' : (frees scope)[k]? = some y := by simpa [cblk] using hy
        have hu' : (cloc ρ js)[k]? = some u := by simpa using hu
        obtain ⟨j, hj, hj'⟩ : ∃ j, js[k]? = some j ∧ F.vars[j]? = some y := by
          have h1 : (js.map (fun j => F.vars[j]?))[k]? = some (some y) := by rw [hjs, List.getElem?_map, hy']; rfl
          rw [List.getElem?_map] at h1
          exact Option.map_eq_some_iff.mp h1
        have hum : u = (ρ[j]?).join := by
          unfold cloc at hu'
          rw [List.getElem?_map, hj] at hu'
          exact (Option.some.inj hu').symm
        have hymem : y ∈ frees scope := List.mem_of_getElem? hy'
        have hlt : j < ρ.length := by rw [I.loc.len]; exact (List.getElem?_eq_some_iff.mp hj').1
        have hρj : ρ[j]? = some ρ[j] := List.getElem?_eq_getElem hlt
        rcases hvE j y _ hj' hρj with ⟨hkd, _⟩ | ⟨_, c, r, hc, hcl, hval⟩
        · have := (hfr y hymem).1
          rw [show env.kindOf y = F.sc.names.lookup y from by unfold Env.kindOf; rw [I.scope], this] at hkd
          cases hkd
        · obtain ⟨c', hc'⟩ := Option.isSome_iff_exists.mp (closL_some (cells := env.cells) (x := y) (names := scope.names) (acc := []) (.inr (by
            obtain ⟨z, hz, hz'⟩ := List.mem_map.mp hymem
            obtain ⟨hz1, hz2⟩ := List.mem_filter.mp hz
            exact ⟨z, hz1, hz', by simpa using hz2⟩)))
          have : c' = c := by have := clk y c' hc'; rw [hc] at this; exact (Option.some.inj this).symm
          subst this
          refine .inr ⟨hky y hymem, c', r, hc', hcl, fun W hW => hval W ?_⟩
          rw [hum, hρj] at hW
          simpa using hW
    · rcases own_c b hb with rfl | ⟨y, hy⟩
      · exact hσC
      · exact I'.loc.free b (.inr ⟨y, hy⟩)
    · have hyc := clk y c hc
      have e := I'.loc.live y c hyc
      have h0 := I.loc.live y c hyc
      have q' : c = C := q
      rw [q', f0 C (by omega)] at h0
      cases h0
    · rcases own_c b hb with rfl | ⟨y, hy⟩
      · exact I.notBase (f0 b (by omega))
      · exact I.base b (.inr ⟨y, hy⟩)
  -- the loop
  have loop : ∀ s₃ : Shared, s₃ = { s₂ with heap := h₁, toks := s₂.toks + ([] : List (Str × Value)).length } →
      codeAny (model g.prog g.w) A (.compLoop (.ListComp elt [⟨.Name x px, iter, ifs, 0⟩] scope pos) 0 (.ref It) (.ref D) (compEnvC scope (closL env.cells scope.names []) C env)) (compPost (model g.prog g.w) A E use QV (.ref D) C) s₃ := by
    rintro s₃ rfl
    refine codeAny_compLoop_tests (fun n s' => ∃ i acc ys σ' m', i + n = L.length + 1 ∧ i ≤ L.length ∧ acc.length ≤ i ∧ J (L.drop i) acc σ' ∧ St i s'.heap ∧ s'.heap.PlainList D ys ∧ RepL s'.heap ys.toList acc ∧ s'.heap.Ns C m' ∧
      σ' It = none ∧ σ' D = none ∧ σ' C = none ∧ Sim g σ' s'.heap ∧ Step nobody σ σ' s s') ?_ (L.length + 1)
      ⟨0, [], #[], σ₁, _, by omega, Nat.zero_le _, Nat.le_refl _, by simpa using hJ, W.frame _ _ _ hst (fun o e => old _ o e) (fun b _ _ e => old b _ e), hacc, .nil, hns₁, hσI, hσfresh D (Nat.le_refl _), hσfresh C (by omega), I₂.sim.grow old, st₂.trans st3⟩
    rintro n s' ⟨i, acc, ys, σ', m', hn, hi, hacc', hJ', hst', hD', hR', hC', hσI', hσD', hσC', sm', st'⟩
    obtain ⟨oI, vI, hoI, hdI⟩ := W.obj i _ hst'
    obtain ⟨oC, esC, epC, hoC, hdC, _⟩ := id hC'
    by_cases hlt : i < L.length
    · have hd : L.drop i = L[i] :: L.drop (i + 1) := List.drop_eq_getElem_cons hlt
      rw [hd] at hJ'
      obtain ⟨hK, hcond⟩ := hturn _ _ _ _ hJ'
      refine W.item i L[i] σ' s' _ _ (List.getElem?_eq_getElem hlt) hst' sm' hK fun v h' tk hr hst1 hx1 => ?_
      have tu1 := tups_but hoI hdI hx1
      have hC1 : h'.Ns C m' := hC'.at' fun o ho => hx1 C o (Ne.symm hItC) ho
      refine wpAny_assign_Name (wpAny_storeName_local (env := compEnvC scope (closL env.cells scope.names []) C env) hkx hC1 (fun h2 hn2 hs2 => ?_) (by show (scope.kind == .class || (scope.kind == .module && _)) = false; rw [hkind]; rfl))
      obtain ⟨oC1, esC1, epC1, hoC1, hdC1, _⟩ := id hC1
      have tu2 : Tups h' h2 := fun b vs n e => (hs2.2 b (fun q => by rw [q] at e; rw [show (compEnvC scope (closL env.cells scope.names []) C env).locals = C from rfl] at e; rw [hoC1] at e; cases e; cases hdC1)).trans e
      have ext2 : Heap.ExtBut C h' h2 := hs2.extBut
      have sim1 : Sim g σ' h' := ⟨fun b o e => hx1 b o (fun q => by rw [q, I.notBase hItf] at e; cases e) (sm'.stays b o e), fun a o e => ⟨(sm'.objs a o e).1.keep tu1 fun ob hob => hx1 a ob (fun q => by rw [q, hσI'] at e; cases e) hob, (sm'.objs a o e).2⟩⟩
      have sim2 : Sim g σ' h2 := ⟨fun b o e => ext2 b o (fun q => by rw [q, I.notBase (f0 C (by omega))] at e; cases e) (sim1.stays b o e), fun a o e => ⟨(sim1.objs a o e).1.keep tu2 fun ob hob => ext2 a ob (fun q => by rw [q, hσC'] at e; cases e) hob, (sim1.objs a o e).2⟩⟩
      have stp1 : Step nobody σ σ' s { s' with heap := h', toks := tk } := st'.but hx1 hItf
      have stp2 : Step nobody σ σ' s { s' with heap := h2, toks := tk + 1 } := stp1.but (s₁ := { s' with heap := h', toks := tk }) (tk := tk + 1) ext2 (f0 C (by omega))
      have IC := mk L[i] v σ' { s' with heap := h2, toks := tk + 1 } _ sim2 stp2 hn2 (if_pos rfl) (hr.mono tu2) hσC'
      refine wpAny_mono (hcond.run A _ _ _ IC) (fun okb s3 ⟨σ3, I3, st3', hb⟩ => ?_) fun _ _ p => p
      have stp3 := stp2.trans st3'
      have keepF : ∀ (sa sb : Shared) (σa σb : Hp) (b : Addr) (o : Obj), Step nobody σa σb sa sb → σa b = none → sa.heap.get? b = some o → (∀ es ep, o.data ≠ .dict es ep) → sb.heap.get? b = some o := fun sa sb σa σb b o stx hσb hb hnd => by
        rcases stx.keep b o hb hσb id with q | ⟨⟨_, _, q⟩, _⟩
        · exact q
        · exact absurd q (hnd _ _)
      obtain ⟨oI1, vI1, hoI1, hdI1⟩ := W.obj _ _ hst1
      have hI2 : h2.get? It = some oI1 := ext2 It _ hItC hoI1
      have hst2 : St (i + 1) h2 := W.frame _ _ _ hst1 (fun o ho => by rw [hoI1] at ho; cases ho; exact hI2) tu2
      have hI3 : s3.heap.get? It = some oI1 := keepF _ _ _ _ It oI1 st3' hσI' hI2 (fun _ _ q => by rw [hdI1] at q; cases q)
      have hst3 : St (i + 1) s3.heap := W.frame _ _ _ hst2 (fun o ho => by rw [hI2] at ho; cases ho; exact hI3) st3'.tups
      obtain ⟨nD, hDo⟩ := hD'
      have hD2 : h2.get? D = some { cls := .type "list", data := .seq ys nD } := ext2 D _ hDC (hx1 D _ (Ne.symm hItD) hDo)
      have hD3 : s3.heap.get? D = some { cls := .type "list", data := .seq ys nD } := keepF _ _ _ _ D _ st3' hσD' hD2 (fun _ _ q => by cases q)
      have hR3 : RepL s3.heap ys.toList acc := ((hR'.mono tu1).mono tu2).mono st3'.tups
      have hσI3 : σ3 It = none := st3'.new It _ hI2 hσI'
      have hσD3 : σ3 D = none := st3'.new D _ hD2 hσD'
      have hC3 : ∃ m, s3.heap.Ns C m := let ⟨m, a, _⟩ := I3.loc.ns; ⟨m, a⟩
      have hσC3 : σ3 C = none := I3.loc.free C (.inl rfl)
      cases okb with
      | false =>
        rw [if_neg (by decide)]
        obtain ⟨m3, hm3⟩ := hC3
        exact ⟨n - 1, by omega, i + 1, acc, ys, σ3, m3, by omega, by omega, by omega, hb.2 rfl, hst3, ⟨nD, hD3⟩, hR3, hm3, hσI3, hσD3, hσC3, I3.sim, stp3⟩
      | true =>
        rw [if_pos rfl]
        refine wpAny_mono ((hb.1 rfl).run A _ s3 I3) (fun yv s4 ⟨Y, σ4, ry, I4, st4, hJ4⟩ => ?_) fun _ _ ⟨_, _, f, _⟩ => f.elim
        have stp4 := stp3.trans st4
        have hI4 : s4.heap.get? It = some oI1 := keepF _ _ _ _ It oI1 st4 hσI3 hI3 (fun _ _ q => by rw [hdI1] at q; cases q)
        have hst4 : St (i + 1) s4.heap := W.frame _ _ _ hst3 (fun o ho => by rw [hI3] at ho; cases ho; exact hI4) st4.tups
        have hD4 : s4.heap.get? D = some { cls := .type "list", data := .seq ys nD } := keepF _ _ _ _ D _ st4 hσD3 hD3 (fun _ _ q => by cases q)
        have hR4 : RepL s4.heap ys.toList acc := hR3.mono st4.tups
        have hσI4 : σ4 It = none := st4.new It _ hI3 hσI3
        have hσD4 : σ4 D = none := st4.new D _ hD3 hσD3
        obtain ⟨m4, hm4, _⟩ := I4.loc.ns
        have hσC4 : σ4 C = none := I4.loc.free C (.inl rfl)
        have hys : ys.size ≤ sizeLine := by have := hR4.length; rw [Array.length_toList] at this; omega
        refine wpAny_list_append_plain (hsz := hys) ⟨nD, hD4⟩ fun h5 hl5 hs5 => ?_
        have tu5 : Tups s4.heap h5 := fun b vs n e => (hs5.2 b (fun q => by rw [q, hD4] at e; simp at e)).trans e
        have hx5 : Heap.ExtBut D s4.heap h5 := hs5.extBut
        have sim5 : Sim g σ4 h5 := ⟨fun b o e => hx5 b o (fun q => by rw [q, I.notBase (f0 D (Nat.le_refl _))] at e; cases e) (I4.sim.stays b o e), fun a o e => ⟨(I4.sim.objs a o e).1.keep tu5 fun ob hob => hx5 a ob (fun q => by rw [q, hσD4] at e; cases e) hob, (I4.sim.objs a o e).2⟩⟩
        refine ⟨n - 1, by omega, i + 1, acc ++ [Y], ys.push yv, σ4, m4, by omega, by omega, by simp; omega, hJ4, W.frame _ _ _ hst4 (fun o ho => hx5 It o hItD ho) tu5, hl5, ?_, hm4.at' (fun o ho => hx5 C o (Ne.symm hDC) ho), hσI4, hσD4, hσC4, sim5, stp4.but (tk := s4.toks) hx5 (f0 D (Nat.le_refl _))⟩
        rw [Array.toList_push]
        exact (hR4.mono tu5).append (.cons (ry.mono tu5) .nil)
    · have hii : i = L.length := by omega
      rw [hii, List.drop_length] at hJ'
      refine W.done σ' s' _ _ (hii ▸ hst') sm' (hend _ _ hJ') fun h' tk hx1 => ?_
      have tu1 := tups_but hoI hdI hx1
      have sim1 : Sim g σ' h' := ⟨fun b o e => hx1 b o (fun q => by rw [q, I.notBase hItf] at e; cases e) (sm'.stays b o e), fun a o e => ⟨(sm'.objs a o e).1.keep tu1 fun ob hob => hx1 a ob (fun q => by rw [q, hσI'] at e; cases e) hob, (sm'.objs a o e).2⟩⟩
      have stp1 : Step nobody σ σ' s { s' with heap := h', toks := tk } := st'.but hx1 hItf
      obtain ⟨nD, hDo⟩ := hD'
      have hD1 : h'.get? D = some { cls := .type "list", data := .seq ys nD } := hx1 D _ (Ne.symm hItD) hDo
      have simD : Sim g (upd σ' D (.lst acc)) h' := ⟨sim1.stays, fun a o e => by
        by_cases ha : a = D
        · subst ha; rw [upd_same] at e; cases e
          exact ⟨⟨ys, ⟨nD, hD1⟩, hR'.mono tu1⟩, I.notBase (f0 _ (Nat.le_refl _))⟩
        · rw [upd_ne _ _ ha] at e; exact sim1.objs a o e⟩
      have stpD : Step nobody σ (upd σ' D (.lst acc)) s { s' with heap := h', toks := tk } := ⟨stp1.same, stp1.dom, stp1.keep, stp1.tups, fun b o e hσ => by
        rw [upd_ne _ _ (fun q => by rw [q, f0 D (Nat.le_refl _)] at e; cases e)]; exact stp1.new b o e hσ⟩
      exact fin D C acc σ' _ hJ' hσD' (I.keep stpD simD) stpD ⟨m', hC'.at' fun o ho => hx1 C o (Ne.symm hItC) ho⟩ (f0 C (by omega)) (by rw [upd_ne _ _ (Ne.symm hDC)]; exact hσC')
  exact codeAny_compStart_list (loop _ rfl) (W.self 0 _ _ _ (W.frame _ _ _ hst (fun o e => old _ o e) (fun b _ _ e => old b _ e)) (loop _ rfl))

theorem ev_comp {Q : V → Hp → Prop} {elt iter : Expr} {x : Str} {px pos : Pos} {ifs : List Expr} {scope : Scope} (js : List Nat) (ok : compOk F scope x js = true) (hq : F.q = true) (J : List V → List V → Hp → Prop)
    (h : Itr g F iter ρ σ (fun L K σ₁ => L.length ≤ sizeLine ∧ J L [] σ₁ ∧
      (∀ v l acc σ', J (v :: l) acc σ' → K σ' ∧ Cond g (cblk F scope x) ifs (some v :: cloc ρ js) σ' (fun b σ₂ => (b = true → Ev g (cblk F scope x) elt (some v :: cloc ρ js) σ₂ (fun y σ₃ => J l (acc ++ [y]) σ₃) noX) ∧ (b = false → J l acc σ₂))) ∧
      ∀ acc σ', J [] acc σ' → K σ') X)
    (hQ : ∀ acc σ' a, J [] acc σ' → σ' a = none → Q (.ref a) (upd σ' a (.lst acc))) :
    Ev g F (.ListComp elt [⟨.Name x px, iter, ifs, 0⟩] scope pos) ρ σ Q X := ⟨fun A env s I => by
  rw [eval_ListComp]
  refine comp_core ok hq J h I (fun _ _ p => p) fun D C acc σ' s' hJ hD I' st' hC hC0 hσC => ?_
  obtain ⟨m, hm⟩ := hC
  obtain ⟨oC, esC, epC, hoC, hdC, _⟩ := id hm
  refine ⟨m, hm, fun h' hs => ?_⟩
  have tu : Tups s'.heap h' := fun b vs n e => (hs.2 b (fun q => by rw [q, hoC] at e; cases e; cases hdC)).trans e
  exact ⟨.ref D, _, .ref D, I'.but (tk := s'.toks) hs.extBut tu hσC (I.notOwn hC0) (I.notBase hC0), st'.but (tk := s'.toks) hs.extBut hC0, hQ acc σ' D hJ hD⟩⟩

theorem swaps_comp {elt : Expr} {gens : List Comprehension} {scope : Scope} {cpos p' : Pos} {y : Str} {line : Nat} {env : Env} :
    ∃ b, swapsWith (.ListComp elt gens scope cpos) (some (.Name y p')) line env = pure b := ⟨_, rfl⟩

/-- a name is bound to a comprehension's list -/
theorem ex_assign_comp {Q : SPost} {X : XPost} {elt iter : Expr} {x y : Str} {px pos p' cpos : Pos} {ifs : List Expr} {scope : Scope} {i : Nat} {w : Option V} (js : List Nat) (ok : compOk F scope x js = true) (hq : F.q = true) (hy : F.vars[i]? = some y) (hw : ρ[i]? = some w) (J : List V → List V → Hp → Prop)
    (h : Itr g F iter ρ σ (fun L K σ₁ => L.length ≤ sizeLine ∧ J L [] σ₁ ∧
      (∀ v l acc σ', J (v :: l) acc σ' → K σ' ∧ Cond g (cblk F scope x) ifs (some v :: cloc ρ js) σ' (fun b σ₂ => (b = true → Ev g (cblk F scope x) elt (some v :: cloc ρ js) σ₂ (fun y σ₃ => J l (acc ++ [y]) σ₃) noX) ∧ (b = false → J l acc σ₂))) ∧
      ∀ acc σ', J [] acc σ' → K σ') (fun x σ₁ => X x ρ σ₁))
    (hQ : ∀ acc σ' a, J [] acc σ' → σ' a = none → Q .next (ρ.set i (some (.ref a))) (upd σ' a (.lst acc))) :
    Ex g F (.Assign [.Name y p'] (.ListComp elt [⟨.Name x px, iter, ifs, 0⟩] scope cpos) pos) ρ σ Q X := ⟨fun A env s I => by
  obtain ⟨b, hb⟩ := @swaps_comp elt [⟨.Name x px, iter, ifs, 0⟩] scope cpos p' y pos.line env
  cases b with
  | false =>
    exact wpAny_Assign_Name (wpAny_mono ((ev_comp (Q := fun v σ₁ => Q .next (ρ.set i (some v)) σ₁) js ok hq J h hQ).run A env s I) (fun v s₁ ⟨V, σ₁, r, I₁, st₁, q⟩ =>
      store_name I₁ hy hw r fun s₂ I₂ st₂ => ⟨.next, _, σ₁, .next, I₂, (st₁.mono fun _ h => h.elim).trans st₂, q⟩) fun _ _ p => p.toS) hb
  | true =>
    rw [exec_Assign_Name_used _ _ _ _ hb]
    refine wpAny_bind (wpAny_standAt (wpAny_bind ?_))
    show wpAny _ A (comprehension (.ListComp elt [⟨.Name x px, iter, ifs, 0⟩] scope cpos) scope env (firstIterPos [⟨.Name x px, iter, ifs, 0⟩] cpos) (newList []) false (eval iter env) (some (assign (.Name y p') env)) >>= fun _ => pure ()) _ _ s
    refine wpAny_bind (comp_core ok hq J h I (fun _ _ p => p.toS) fun D C acc σ' s' hJ hD I' st' hC hC0 hσC => ?_)
    obtain ⟨m, hm⟩ := hC
    refine wpAny_assign_Name (store_name I' hy hw (.ref D) fun s₂ I₂ st₂ => ?_)
    have hm2 : s₂.heap.Ns C m := Kept.ns hm fun o e => st₂.keep C o e hσC (I.notOwn hC0)
    obtain ⟨oC, esC, epC, hoC, hdC, _⟩ := id hm2
    refine ⟨m, hm2, fun h' hs => wpAny_pure (wpAny_pure ?_)⟩
    have tu : Tups s₂.heap h' := fun b vs n e => (hs.2 b (fun q => by rw [q, hoC] at e; cases e; cases hdC)).trans e
    have st3 : Step (ownOf env) σ (upd σ' D (.lst acc)) s s₂ := (st'.mono fun _ h => h.elim).trans st₂
    exact ⟨.next, _, _, .next, I₂.but (tk := s₂.toks) hs.extBut tu hσC (I.notOwn hC0) (I.notBase hC0), st3.but (tk := s₂.toks) hs.extBut hC0, hQ acc σ' D hJ hD⟩⟩
end
end Mine

set_option linter.all false
set_option maxHeartbeats 1000000
open PySem
namespace Mine

section
variable {g : G} {F : Blk} {ρ : List (Option V)} {σ : Hp} {Q : V → Hp → Prop} {QB : Bool → Hp → Prop} {X : Str → Hp → Prop}

/-- the class of a value, as far as isinstance asks here -/
def isi (σ : Hp) : V → String → Option Bool
  | .none, t => if t = "int" ∨ t = "bool" ∨ t = "str" ∨ t = "tuple" ∨ t = "list" then some false else none
  | .bool _, t => if t = "int" ∨ t = "bool" then some true else if t = "str" ∨ t = "tuple" ∨ t = "list" then some false else none
  | .int _, t => if t = "int" then some true else if t = "bool" ∨ t = "str" ∨ t = "tuple" ∨ t = "list" then some false else none
  | .str _, t => if t = "str" then some true else if t = "bool" ∨ t = "int" ∨ t = "tuple" ∨ t = "list" then some false else none
  | .tup _, t => if t = "tuple" then some true else if t = "bool" ∨ t = "int" ∨ t = "str" ∨ t = "list" then some false else none
  | .ref a, t => match σ a with
    | some (.lst _) => if t = "list" then some true else if t = "bool" ∨ t = "int" ∨ t = "str" ∨ t = "tuple" then some false else none
    | _ => none

theorem isi_run {A env s x} {v : V} {t : String} {b : Bool} (I : Inv g F A env ρ σ s) (r : Rep s.heap x v) (hb : isi σ v t = some b) (h : Q (.bool b) σ) :
    wpAny (model g.prog g.w) A (call (.builtin "isinstance") [x, .type t]) (Post g F A env ρ σ s Q) (PostX g F A env ρ σ s X) s := by
  cases r with
  | none =>
    simp only [isi] at hb
    split at hb
    · rename_i ht; cases hb
      rcases ht with rfl | rfl | rfl | rfl | rfl
      · exact IsiPair.NoneType_int (post_boolT I h)
      · exact IsiPair.NoneType_bool (post_boolT I h)
      · exact IsiPair.NoneType_str (post_boolT I h)
      · exact IsiPair.NoneType_tuple (post_boolT I h)
      · exact IsiPair.NoneType_list (post_boolT I h)
    · cases hb
  | bool c =>
    simp only [isi] at hb
    split at hb
    · rename_i ht; cases hb
      rcases ht with rfl | rfl
      · first | exact IsiPair.bool_int (post_bool I h) | exact IsiPair.bool_int (post_boolT I h)
      · exact IsiPair.bool_bool (post_bool I h)
    · split at hb
      · rename_i ht; cases hb
        rcases ht with rfl | rfl | rfl
        · exact IsiPair.bool_str (post_boolT I h)
        · exact IsiPair.bool_tuple (post_boolT I h)
        · exact IsiPair.bool_list (post_boolT I h)
      · cases hb
  | int i u =>
    simp only [isi] at hb
    split at hb
    · rename_i ht; cases hb; subst ht
      exact IsiPair.int_int (post_bool I h)
    · split at hb
      · rename_i ht; cases hb
        rcases ht with rfl | rfl | rfl | rfl
        · exact IsiPair.int_bool (post_boolT I h)
        · exact IsiPair.int_str (post_boolT I h)
        · exact IsiPair.int_tuple (post_boolT I h)
        · exact IsiPair.int_list (post_boolT I h)
      · cases hb
  | str i u =>
    simp only [isi] at hb
    split at hb
    · rename_i ht; cases hb; subst ht
      exact IsiPair.str_str (post_bool I h)
    · split at hb
      · rename_i ht; cases hb
        rcases ht with rfl | rfl | rfl | rfl
        · exact IsiPair.str_bool (post_boolT I h)
        · exact IsiPair.str_int (post_boolT I h)
        · exact IsiPair.str_tuple (post_boolT I h)
        · exact IsiPair.str_list (post_boolT I h)
      · cases hb
  | tup ht0 rl =>
    simp only [isi] at hb
    split at hb
    · rename_i ht; cases hb; subst ht
      exact IsiPair.tuple_tuple ht0 rfl (post_bool I h)
    · split at hb
      · rename_i ht; cases hb
        rcases ht with rfl | rfl | rfl | rfl
        · exact IsiPair.tuple_bool ht0 rfl (post_boolT I h)
        · exact IsiPair.tuple_int ht0 rfl (post_boolT I h)
        · exact IsiPair.tuple_str ht0 rfl (post_boolT I h)
        · exact IsiPair.tuple_list ht0 rfl (post_boolT I h)
      · cases hb
  | ref a =>
    simp only [isi] at hb
    split at hb
    · rename_i l hσ
      obtain ⟨vs, ⟨n, hp⟩, _⟩ := (I.sim.objs a _ hσ).1
      split at hb
      · rename_i ht; cases hb; subst ht
        exact IsiPair.list_list hp rfl (post_bool I h)
      · split at hb
        · rename_i ht; cases hb
          rcases ht with rfl | rfl | rfl | rfl
          · exact IsiPair.list_bool hp rfl (post_boolT I h)
          · exact IsiPair.list_int hp rfl (post_boolT I h)
          · exact IsiPair.list_str hp rfl (post_boolT I h)
          · exact IsiPair.list_tuple hp rfl (post_boolT I h)
        · cases hb
    · cases hb

theorem ev_isi {x t : Str} {np tp pos : Pos} {e : Expr} {tn : String} (hk : F.sc.names.lookup x = some .globalImplicit) (hg : g.mg x = none) (hb : g.mb x = some (.builtin "isinstance"))
    (hkt : F.sc.names.lookup t = some .globalImplicit) (hgt : g.mg t = none) (hbt : g.mb t = some (.type tn))
    (h : Ev g F e ρ σ (fun v σ₁ => ∃ b, isi σ₁ v tn = some b ∧ Q (.bool b) σ₁) X) (hd : (x == ("__debug__" : Str)) = false := by decide +kernel) (hdt : (t == ("__debug__" : Str)) = false := by decide +kernel)
    (he : ∀ env, starEach [e, .Name t tp] env = (false, eval e env) :: starEach [.Name t tp] env := by intro _; rfl) : Ev g F (.Call (.Name x np) [e, .Name t tp] [] pos) ρ σ Q X := ⟨fun A env s I => by
  refine wpAny_Call_ofName (Calls.Name_function_global I.fn (by show env.scope.names.lookup x = _; rw [I.scope]; exact hk) (Calls.loadGlobal_builtin (by rw [I.glob]; exact g.ns.keeps I.sim.stays) hg (by rw [I.bltn]; exact g.nb.keeps I.sim.stays) hb ?_) hd)
  have hp : (backTo pos (starEach [e, .Name t tp] env)).any (·.1) = false := by rw [he]; rfl
  refine Calls.callWith_builtin hp (evalArgs_any hp (wpAny_items_cons (wpAny_mono (h.run A env s I) (fun v s₁ ⟨V, σ₁, r, I₁, st₁, b, hb', hQ⟩ => ?_) fun _ _ p => p) (he env)))
  refine wpAny_items_cons (Calls.Name_function_global I₁.fn (by show env.scope.names.lookup t = _; rw [I₁.scope]; exact hkt) (Calls.loadGlobal_builtin (by rw [I₁.glob]; exact g.ns.keeps I₁.sim.stays) hgt (by rw [I₁.bltn]; exact g.nb.keeps I₁.sim.stays) hbt (wpAny_items_nil ?_)) hdt)
  exact wpAny_mono (isi_run I₁ r hb' hQ) (fun _ _ p => p.step st₁) fun _ _ p => p.step st₁⟩

-- chains of two
theorem ev_chain {l r₁ r₂ : Expr} {o₁ o₂ : CmpOp} {pos : Pos} (h : Ev g F l ρ σ (fun a σ₁ => Ev g F r₁ ρ σ₁ (fun b σ₂ => Op2 g F (compareOp o₁) a b ρ σ₂ (fun c σ₃ => Tru g F c ρ σ₃ (fun t σ₄ =>
      (t = true → Ev g F r₂ ρ σ₄ (fun d σ₅ => Op2 g F (compareOp o₂) b d ρ σ₅ Q X) X) ∧ (t = false → Q c σ₄)) X) X) X) X) (hm : lastMarks [o₁, o₂] [r₁, r₂] = false := by with_unfolding_all rfl) :
    Ev g F (.Compare l [o₁, o₂] [r₁, r₂] pos) ρ σ Q X := ⟨fun A env s I => by
  refine PyProof.Rows.Compare_chain (wpAny_mono (h.run A env s I) (fun a s₁ ⟨Va, σ₁, ra, I₁, st₁, h₁⟩ => ?_) fun _ _ p => p) hm
  refine PyProof.Rows.chain_link (wpAny_mono (h₁.run A env s₁ I₁) (fun b s₂ ⟨Vb, σ₂, rb, I₂, st₂, h₂⟩ => ?_) fun _ _ p => p.step st₁)
  refine wpAny_mono (h₂.run A env s₂ a b I₂ (ra.mono st₂.tups) rb) (fun c s₃ ⟨Vc, σ₃, rc, I₃, st₃, h₃⟩ => ?_) fun _ _ p => (p.step st₂).step st₁
  have st13 := (st₁.trans st₂).trans st₃
  refine wpAny_mono (h₃.run A env s₃ c I₃ rc) (fun t s₄ ⟨σ₄, I₄, st₄, h₄⟩ => ?_) fun _ _ p => p.step st13
  have st14 := st13.trans st₄
  cases t with
  | false => exact ⟨Vc, σ₄, rc.mono st₄.tups, I₄, st14, h₄.2 rfl⟩
  | true =>
    refine PyProof.Rows.chain_last (wpAny_mono ((h₄.1 rfl).run A env s₄ I₄) (fun d s₅ ⟨Vd, σ₅, rd, I₅, st₅, h₅⟩ => ?_) fun _ _ p => p.step st14)
    have st15 := st14.trans st₅
    exact wpAny_mono (h₅.run A env s₅ b d I₅ (rb.mono ((st₃.tups.trans st₄.tups).trans st₅.tups)) rd) (fun _ _ p => p.step st15) fun _ _ p => p.step st15⟩
theorem tst_chain {l r₁ r₂ : Expr} {o₁ o₂ : CmpOp} {pos : Pos} (h : Ev g F l ρ σ (fun a σ₁ => Ev g F r₁ ρ σ₁ (fun b σ₂ => Op2 g F (compareOp o₁) a b ρ σ₂ (fun c σ₃ => Tru g F c ρ σ₃ (fun t σ₄ =>
      (t = true → Ev g F r₂ ρ σ₄ (fun d σ₅ => Op2 g F (compareOp o₂) b d ρ σ₅ (fun e σ₆ => Tru g F e ρ σ₆ QB X) X) X) ∧ (t = false → QB false σ₄)) X) X) X) X) (hm : lastMarks [o₁, o₂] [r₁, r₂] = false := by with_unfolding_all rfl) :
    Tst g F (.Compare l [o₁, o₂] [r₁, r₂] pos) ρ σ QB X := ⟨fun A env s I => by
  refine PyProof.Rows.isTrue_chain (wpAny_mono (h.run A env s I) (fun a s₁ ⟨Va, σ₁, ra, I₁, st₁, h₁⟩ => ?_) fun _ _ p => p) hm
  refine PyProof.Rows.test_link (wpAny_mono (h₁.run A env s₁ I₁) (fun b s₂ ⟨Vb, σ₂, rb, I₂, st₂, h₂⟩ => ?_) fun _ _ p => p.step st₁)
  refine wpAny_mono (h₂.run A env s₂ a b I₂ (ra.mono st₂.tups) rb) (fun c s₃ ⟨Vc, σ₃, rc, I₃, st₃, h₃⟩ => ?_) fun _ _ p => (p.step st₂).step st₁
  have st13 := (st₁.trans st₂).trans st₃
  refine wpAny_mono (h₃.run A env s₃ c I₃ rc) (fun t s₄ ⟨σ₄, I₄, st₄, h₄⟩ => ?_) fun _ _ p => p.step st13
  have st14 := st13.trans st₄
  cases t with
  | false => exact ⟨σ₄, I₄, st14, h₄.2 rfl⟩
  | true =>
    refine PyProof.Rows.test_last (wpAny_mono ((h₄.1 rfl).run A env s₄ I₄) (fun d s₅ ⟨Vd, σ₅, rd, I₅, st₅, h₅⟩ => ?_) fun _ _ p => p.step st14)
    have st15 := st14.trans st₅
    refine wpAny_mono (h₅.run A env s₅ b d I₅ (rb.mono ((st₃.tups.trans st₄.tups).trans st₅.tups)) rd) (fun e s₆ ⟨Ve, σ₆, re, I₆, st₆, h₆⟩ => ?_) fun _ _ p => p.step st15
    exact wpAny_mono (h₆.run A env s₆ e I₆ re) (fun _ _ p => (p.step st₆).step st15) fun _ _ p => (p.step st₆).step st15⟩

/-- and, or as values -/
structure Bops (g : G) (F : Blk) (op : BoolOp) (es : List Expr) (ρ : List (Option V)) (σ : Hp) (Q : V → Hp → Prop) (X : Str → Hp → Prop) : Prop where
  run : ∀ A env s pos, Inv g F A env ρ σ s → wpAny (model g.prog g.w) A (boolOp pos op (evalEach es env)) (Post g F A env ρ σ s Q) (PostX g F A env ρ σ s X) s
theorem ev_bops {op : BoolOp} {es : List Expr} {pos : Pos} (h : Bops g F op es ρ σ Q X) : Ev g F (.BoolOp op es pos) ρ σ Q X := ⟨fun A env s I => h.run A env s pos I⟩
theorem bops_one {op : BoolOp} {e : Expr} (h : Ev g F e ρ σ Q X) : Bops g F op [e] ρ σ Q X := ⟨fun A env s pos I => h.run A env s I⟩
theorem bops_and {e e' : Expr} {es : List Expr} (h : Ev g F e ρ σ (fun v σ₁ => Tru g F v ρ σ₁ (fun b σ₂ => (b = true → Bops g F .And (e' :: es) ρ σ₂ Q X) ∧ (b = false → Q v σ₂)) X) X) : Bops g F .And (e :: e' :: es) ρ σ Q X := ⟨fun A env s pos I => by
  show wpAny _ A (do
    let v ← eval e env
    standAt pos
    let t ← holding [v] (truthy v)
    match BoolOp.And, t with
    | .And, false | .Or, true => pure v
    | _, _ => boolOp pos .And (evalEach (e' :: es) env)) _ _ s
  refine wpAny_bind (wpAny_mono (h.run A env s I) (fun v s₁ ⟨V, σ₁, r, I₁, st₁, h₁⟩ => wpAny_bind (wpAny_standAt (wpAny_bind (wpAny_holding (wpAny_mono (h₁.run A env s₁ v I₁ r) (fun t s₂ ⟨σ₂, I₂, st₂, h₂⟩ => ?_) fun _ _ p => p.step st₁))))) fun _ _ p => p)
  have st12 := st₁.trans st₂
  cases t with
  | false => exact wpAny_pure ⟨V, σ₂, r.mono st₂.tups, I₂, st12, h₂.2 rfl⟩
  | true => exact wpAny_mono ((h₂.1 rfl).run A env s₂ pos I₂) (fun _ _ p => p.step st12) fun _ _ p => p.step st12⟩
theorem bops_or {e e' : Expr} {es : List Expr} (h : Ev g F e ρ σ (fun v σ₁ => Tru g F v ρ σ₁ (fun b σ₂ => (b = false → Bops g F .Or (e' :: es) ρ σ₂ Q X) ∧ (b = true → Q v σ₂)) X) X) : Bops g F .Or (e :: e' :: es) ρ σ Q X := ⟨fun A env s pos I => by
  show wpAny _ A (do
    let v ← eval e env
    standAt pos
    let t ← holding [v] (truthy v)
    match BoolOp.Or, t with
    | .And, false | .Or, true => pure v
    | _, _ => boolOp pos .Or (evalEach (e' :: es) env)) _ _ s
  refine wpAny_bind (wpAny_mono (h.run A env s I) (fun v s₁ ⟨V, σ₁, r, I₁, st₁, h₁⟩ => wpAny_bind (wpAny_standAt (wpAny_bind (wpAny_holding (wpAny_mono (h₁.run A env s₁ v I₁ r) (fun t s₂ ⟨σ₂, I₂, st₂, h₂⟩ => ?_) fun _ _ p => p.step st₁))))) fun _ _ p => p)
  have st12 := st₁.trans st₂
  cases t with
  | true => exact wpAny_pure ⟨V, σ₂, r.mono st₂.tups, I₂, st12, h₂.2 rfl⟩
  | false => exact wpAny_mono ((h₂.1 rfl).run A env s₂ pos I₂) (fun _ _ p => p.step st12) fun _ _ p => p.step st12⟩

-- len
theorem cl_len_tup {l : List V} (hfit : (l.length : Int) < 2 ^ 63) (h : Q (.int l.length) σ) : Cl g F (.builtin "len") [.tup l] ρ σ Q X := ⟨fun A env s vs I r => by
  cases r with | cons r rs => cases rs; cases r with
    | tup ht rl =>
      rename_i a us n
      have e : ((us.size : Nat) : Int) = (l.length : Int) := by rw [← rl.length, Array.length_toList]
      refine PyProof.Rows.len_tuple ⟨_, ht, rfl, _, rfl⟩ (by rw [e]; exact hfit) ?_
      rw [e]; exact post_int I h⟩
theorem cl_len_lst {a : Addr} {l : List V} (hσ : σ a = some (.lst l)) (hfit : (l.length : Int) < 2 ^ 63) (h : Q (.int l.length) σ) : Cl g F (.builtin "len") [.ref a] ρ σ Q X := ⟨fun A env s vs I r => by
  cases r with | cons r rs => cases rs; cases r with
    | ref a =>
      obtain ⟨us, hp, rl⟩ := (I.sim.objs a _ hσ).1
      have e : ((us.size : Nat) : Int) = (l.length : Int) := by rw [← rl.length, Array.length_toList]
      refine Calls.call_len_list hp.isList (by rw [e]; exact hfit) ?_
      rw [e]; exact post_int I h⟩

-- tuple(..), list(..)
theorem cl_tuple_lst {a : Addr} {l : List V} (hσ : σ a = some (.lst l)) (hz : l.length ≤ sizeLine) (h : Q (.tup l) σ) : Cl g F (.type "tuple") [.ref a] ρ σ Q X := ⟨fun A env s vs I r => by
  cases r with | cons r rs => cases rs; cases r with
    | ref a =>
      obtain ⟨us, hp, rl⟩ := (I.sim.objs a _ hσ).1
      have e : us.size = l.length := by rw [← rl.length, Array.length_toList]
      refine call_tuple_list hp.isList (fun h' hk => ?_) (by rw [e]; exact hz)
      have st1 : Step nobody σ σ s { s with heap := h' } := Step.grow (tk := s.toks) hk
      have I1 := I.keep st1 (I.sim.grow hk)
      have p := new_tuple (Q := Q) I1 (rl.mono st1.tups) h
      rw [Array.toArray_toList] at p
      exact p.step st1⟩
theorem cl_tuple_tup {l : List V} (h : Q (.tup l) σ) : Cl g F (.type "tuple") [.tup l] ρ σ Q X := ⟨fun A env s vs I r => by
  cases r with | cons r rs => cases rs; cases r with
    | tup ht rl => exact call_tuple_same ⟨_, ht, rfl, _, rfl⟩ (post_here I (.tup ht rl) h)⟩
theorem post_list {A env s} {h' : Heap} {D : Addr} {vs : Array Value} {c tk : Nat} {l : List V} (I : Inv g F A env ρ σ s) (hk : ∀ b o, s.heap.get? b = some o → h'.get? b = some o) (hD : h'.get? D = some { cls := .type "list", data := .seq vs c }) (hn : s.heap.get? D = none) (r : RepL h' vs.toList l)
    (h : ∀ a, σ a = none → Q (.ref a) (upd σ a (.lst l))) : Post g F A env ρ σ s Q (.ref D) { s with heap := h', toks := tk } := by
  have st0 : Step nobody σ σ s { s with heap := h', toks := tk } := Step.grow hk
  have hσD : σ D = none := by
    cases q : σ D with
    | none => rfl
    | some o =>
      have := (I.sim.objs _ o q).1
      cases o with
      | lst l => obtain ⟨vs, ⟨n, e⟩, _⟩ := this; rw [hn] at e; cases e
      | dict l => exact this.elim
  have st : Step nobody σ (upd σ D (.lst l)) s { s with heap := h', toks := tk } := ⟨st0.same, st0.dom, st0.keep, st0.tups, fun b o e hσ => by
    rw [upd_ne _ _ (fun q => by rw [q, hn] at e; cases e)]; exact hσ⟩
  refine ⟨_, _, .ref _, I.keep st ⟨(I.sim.grow hk).stays, fun a o e => ?_⟩, st, h _ hσD⟩
  by_cases ha : a = D
  · subst ha
    rw [upd_same] at e; cases e
    exact ⟨⟨vs, ⟨c, hD⟩, r⟩, I.notBase hn⟩
  · rw [upd_ne _ _ ha] at e
    exact (I.sim.grow hk).objs a o e
theorem cl_list_lst {a : Addr} {l : List V} (hσ : σ a = some (.lst l)) (hz : l.length ≤ sizeLine) (h : ∀ b, σ b = none → Q (.ref b) (upd σ b (.lst l))) : Cl g F (.type "list") [.ref a] ρ σ Q X := ⟨fun A env s vs I r => by
  cases r with | cons r rs => cases rs; cases r with
    | ref a =>
      obtain ⟨us, ⟨n, hp⟩, rl⟩ := (I.sim.objs a _ hσ).1
      have e : us.size = l.length := by rw [← rl.length, Array.length_toList]
      refine call_list_seq a (.inl rfl) hp rfl rfl (fun h' c' hk hD => ?_) (by rw [e]; exact hz)
      exact post_list (tk := s.toks) I hk hD (get_size _) (rl.mono fun b _ _ q => hk b _ q) h⟩
theorem cl_list_tup {l : List V} (hz : l.length ≤ sizeLine) (h : ∀ b, σ b = none → Q (.ref b) (upd σ b (.lst l))) : Cl g F (.type "list") [.tup l] ρ σ Q X := ⟨fun A env s vs I r => by
  cases r with | cons r rs => cases rs; cases r with
    | tup ht rl =>
      have e : ∀ (us : Array Value), RepL s.heap us.toList l → us.size = l.length := fun us r => by rw [← r.length, Array.length_toList]
      refine call_list_seq _ (.inr rfl) ht rfl rfl (fun h' c' hk hD => ?_) (by rw [e _ rl]; exact hz)
      exact post_list (tk := s.toks) I hk hD (get_size _) (rl.mono fun b _ _ q => hk b _ q) h⟩

-- sums of rows
theorem bin_add_tup {l k : List V} (hz : l.length + k.length ≤ sizeLine) (h : Q (.tup (l ++ k)) σ) : Op2 g F (binaryOp .Add) (.tup l) (.tup k) ρ σ Q X := ⟨fun A env s x y I rx ry => by
  cases rx with | tup ht rl => cases ry with | tup hu rk =>
    rename_i a vs n b us m
    have e1 : vs.size = l.length := by rw [← rl.length, Array.length_toList]
    have e2 : us.size = k.length := by rw [← rk.length, Array.length_toList]
    by_cases hv : vs.isEmpty = true
    · refine concat_meets ⟨_, ht, rfl⟩ ⟨_, hu, rfl⟩ noFill_tuple_add seq_tuple_add PySem.F.slot_tuple_add PySem.F.entry_tuple_add (PySem.F.args_tuple_add_2 _ _) (PyProof.Rows.tuple_addW0 _ _ vs us n m none none #[] #[] hv) ⟨ht, hu, ?_⟩
      have : l = [] := by
        have : vs.size = 0 := by simpa using hv
        rw [e1] at this; exact List.length_eq_zero_iff.mp this
      subst this
      exact post_here I (.tup hu rk) h
    · by_cases hw : us.isEmpty = true
      · refine concat_meets ⟨_, ht, rfl⟩ ⟨_, hu, rfl⟩ noFill_tuple_add seq_tuple_add PySem.F.slot_tuple_add PySem.F.entry_tuple_add (PySem.F.args_tuple_add_2 _ _) (PyProof.Rows.tuple_addW1 _ _ vs us n m none none #[] #[] hv hw) ⟨ht, hu, ?_⟩
        have : k = [] := by
          have : us.size = 0 := by simpa using hw
          rw [e2] at this; exact List.length_eq_zero_iff.mp this
        subst this
        rw [List.append_nil] at h
        exact post_here I (.tup ht rl) h
      · refine concat_meets ⟨_, ht, rfl⟩ ⟨_, hu, rfl⟩ noFill_tuple_add seq_tuple_add PySem.F.slot_tuple_add PySem.F.entry_tuple_add (PySem.F.args_tuple_add_2 _ _) (PyProof.Rows.tuple_addW2 _ _ vs us n m none none #[] #[] hv hw (by omega)) ⟨ht, hu, ?_⟩
        have p := new_tuple (Q := Q) (vs := vs.toList ++ us.toList) I (rl.append rk) h
        have e : (vs.toList ++ us.toList).toArray = vs ++ us := by simp
        rw [e] at p
        exact p⟩
theorem bin_add_lst {a b : Addr} {l k : List V} (ha : σ a = some (.lst l)) (hb : σ b = some (.lst k)) (hz : l.length + k.length ≤ sizeLine) (h : ∀ c, σ c = none → Q (.ref c) (upd σ c (.lst (l ++ k)))) : Op2 g F (binaryOp .Add) (.ref a) (.ref b) ρ σ Q X := ⟨fun A env s x y I rx ry => by
  cases rx; cases ry
  obtain ⟨vs, ⟨n, hp⟩, rl⟩ := (I.sim.objs a _ ha).1
  obtain ⟨us, ⟨m, hu⟩, rk⟩ := (I.sim.objs b _ hb).1
  have e1 : vs.size = l.length := by rw [← rl.length, Array.length_toList]
  have e2 : us.size = k.length := by rw [← rk.length, Array.length_toList]
  refine P.add_list hp hu ?_ (by omega)
  have p := new_list (Q := Q) (vs := vs.toList ++ us.toList) I (rl.append rk) h
  have e : (vs.toList ++ us.toList).toArray = vs ++ us := by simp
  rw [e] at p
  exact p⟩
end
end Mine

set_option linter.all false
set_option maxHeartbeats 1000000
open PySem
namespace Mine

def slc {α : Type} (lo hi : Option Int) (l : List α) : List α := (l.drop (lo.elim 0 (clipAt l.length))).take (hi.elim l.length (clipAt l.length) - lo.elim 0 (clipAt l.length))

theorem RepL.drop {h : Heap} : ∀ {vs : List Value} {l : List V} (n : Nat), RepL h vs l → RepL h (vs.drop n) (l.drop n)
  | _, _, 0, r => r
  | _, _, n + 1, .nil => .nil
  | _, _, n + 1, .cons _ r => r.drop n
theorem RepL.take {h : Heap} : ∀ {vs : List Value} {l : List V} (n : Nat), RepL h vs l → RepL h (vs.take n) (l.take n)
  | _, _, 0, r => .nil
  | _, _, n + 1, .nil => .nil
  | _, _, n + 1, .cons q r => .cons q (r.take n)
theorem RepL.slc {h : Heap} {vs : List Value} {l : List V} (lo hi : Option Int) (r : RepL h vs l) : RepL h (slc lo hi vs) (slc lo hi l) := by
  unfold Mine.slc; rw [r.length]; exact (r.drop _).take _

inductive OptInt : V → Option Int → Prop
  | none : OptInt .none none
  | int (i : Int) : OptInt (.int i) (some i)
theorem OptInt.part {h : Heap} {x : Value} {v : V} {k : Option Int} (o : OptInt v k) (r : Rep h x v) : IsPart x k := by
  cases o <;> cases r <;> constructor

section
variable {prog : Program} {w : World} {A : Around} {E : Value → Shared → Prop} {s : Shared}
theorem slicePart_any {x : Value} {k : Option Int} {Q : Option Int → Shared → Prop} (p : IsPart x k) (h : Q k s) : wpAny (model prog w) A (Builtin.Slice.slicePartIndex x) Q E s := by
  cases p with
  | none => exact PyProof.Rows.slicePart_none h
  | int i t => exact PyProof.Rows.slicePart_int h
theorem adjust_gen (lo hi : Option Int) (n : Nat) : Builtin.Slice.sliceAdjust lo hi 1 (n : Int) = (((lo.elim 0 (clipAt n) : Nat) : Int), ((hi.elim n (clipAt n) : Nat) : Int)) := by
  have key : ∀ v : Int, (if v < 0 then max (v + n) 0 else min v n) = ((clipAt n v : Nat) : Int) := fun v => by
    rw [clipAt_cast]
    split <;> omega
  unfold Builtin.Slice.sliceAdjust
  have h1 : ¬ ((1 : Int) < 0) := by omega
  simp only [h1, if_false]
  cases lo <;> cases hi <;> simp only [Option.elim, key] <;> rfl
theorem places_gen (i j : Nat) : Builtin.Slice.slicePlaces (i : Int) (j : Int) 1 = j - i := by
  unfold Builtin.Slice.slicePlaces
  have h1 : (1 : Int) > 0 := by omega
  simp only [h1, if_true, Int.ediv_one]
  split <;> omega
theorem sliceApplied_gen {sl : Addr} {lo hi : Option Int} {vl vu : Value} {n : Nat} {Q : Int × Int × Nat → Shared → Prop} (hs : s.heap.IsSliceOf sl vl vu .none) (pl : IsPart vl lo) (pu : IsPart vu hi)
    (h : Q (((lo.elim 0 (clipAt n) : Nat) : Int), 1, (hi.elim n (clipAt n)) - (lo.elim 0 (clipAt n))) s) : wpAny (model prog w) A (Builtin.Slice.sliceApplied (.ref sl) (pure (n : Int))) Q E s := by
  obtain ⟨os, hos, hcs, hds⟩ := id hs
  unfold Builtin.Slice.sliceApplied Builtin.Slice.sliceFields
  refine wpAny_bind (wpAny_bind (wpAny_field hos hds (x := vl) rfl (wpAny_bind (wpAny_field hos hds (x := vu) rfl (wpAny_bind (wpAny_field hos hds (x := .none) rfl (wpAny_pure ?_)))))))
  refine wpAny_bind (PyProof.Rows.slicePart_none ?_)
  show wpAny _ _ (if ((1 : Int) == 0) = true then _ else _) _ _ s
  rw [if_neg (by decide)]
  refine wpAny_bind (slicePart_any pl (wpAny_bind (slicePart_any pu (wpAny_bind (wpAny_pure ?_)))))
  show wpAny _ _ (match Builtin.Slice.sliceAdjust lo hi 1 (n : Int) with | (lo, hi) => pure (lo, (1 : Int), Builtin.Slice.slicePlaces lo hi 1)) _ _ s
  rw [adjust_gen]
  show wpAny _ _ (pure (((lo.elim 0 (clipAt n) : Nat) : Int), (1 : Int), Builtin.Slice.slicePlaces ((lo.elim 0 (clipAt n) : Nat) : Int) ((hi.elim n (clipAt n) : Nat) : Int) 1)) _ _ s
  rw [places_gen]
  exact wpAny_pure h
theorem pick_gen (xs : Array Value) (i k : Nat) : ((List.range k).filterMap fun (j : Nat) => xs[((i : Int) + (j : Int) * 1).toNat]?).toArray = ((xs.toList.drop i).take k).toArray := by
  have e : (fun (j : Nat) => xs[((i : Int) + (j : Int) * 1).toNat]?) = fun j => xs[i + j]? := by
    funext j
    have : ((i : Int) + (j : Int) * 1).toNat = i + j := by omega
    rw [this]
  rw [e]
  have := pick_run xs i k
  rw [List.filterMap_map] at this
  have e2 : ((fun x => xs[x]?) ∘ fun x => i + x) = fun k => xs[i + k]? := rfl
  rw [e2] at this
  rw [this]

theorem getItem_tuple_slice {t sl : Addr} {items : Array Value} {lo hi : Option Int} {vl vu : Value} {Q : Value → Shared → Prop} (ht : PyProof.Rows.IsTup s.heap t items) (hs : s.heap.IsSliceOf sl vl vu .none) (pl : IsPart vl lo) (pu : IsPart vu hi)
    (h0 : slc lo hi items.toList = items.toList → Q (.ref t) s)
    (h : Q (.ref s.heap.objs.size) { s with heap := s.heap.push { cls := .type "tuple", data := .seq (slc lo hi items.toList).toArray } })
    (hsz : items.size ≤ sizeLine) : wpAny (model prog w) A (getItem (.ref t) (.ref sl)) Q E s := by
  have hln : items.toList.length = items.size := Array.length_toList
  have hok : sizeOk (.seq (slc lo hi items.toList).toArray) := by
    show (slc lo hi items.toList).toArray.size ≤ sizeLine
    rw [List.size_toArray]
    unfold slc
    rw [List.length_take, List.length_drop]
    omega
  obtain ⟨os, hos, hcs, hds⟩ := id hs
  have hTs : s.TypeIs (.ref sl) "slice" := ⟨os, hos, hcs⟩
  unfold getItem
  try with_reducible refine wpAny_holding ?_
  first | refine wpAny_bind (wpAny_pure ?_) | skip
  refine wpAny_bind (wpAny_sequenceKey ht.typeIs (by decide) ?_)
  refine wpAny_bind (wpAny_callSpecial?_slot (name := Str.ofString "__getitem__") ht.typeIs PyProof.Rows.slot_tuple_getitem
    (wpAny_call_entry PyProof.Rows.slot_tuple_getitem ht.typeIs PyProof.Rows.entry_tuple_getitem ?_ (PyProof.Rows.args_tuple_getitem _ _)))
  show wpAny _ _ (Builtin.Tuple.tupleItemsOf (.ref t) >>= _) _ _ s
  refine wpAny_bind (PyProof.Rows.tupleItemsOf_ ht ?_)
  refine wpAny_bind (wpAny_typeOf hTs ?_)
  rw [if_pos (by decide)]
  refine wpAny_bind (sliceApplied_gen hs pl pu ?_)
  generalize hi' : lo.elim 0 (clipAt items.size) = i at *
  generalize hj' : hi.elim items.size (clipAt items.size) = j at *
  have hslc : slc lo hi items.toList = (items.toList.drop i).take (j - i) := by
    unfold slc; rw [hln, hi', hj']
  by_cases hc : ((i : Int) == 0 && (1 : Int) == 1 && (j - i) == items.size) = true
  · show wpAny _ _ (if ((i : Int) == 0 && (1 : Int) == 1 && (j - i) == items.size) = true then _ else _) _ _ s
    rw [if_pos hc]
    have hi0 : i = 0 := by simp at hc; omega
    have hj0 : j - i = items.size := by simp at hc; omega
    have he : slc lo hi items.toList = items.toList := by
      rw [hslc, hi0, List.drop_zero, hi0] at *
      rw [hj0, ← hln, List.take_length]
    refine wpAny_bind (m := Builtin.Tuple.tupleIsExact _) ?_
    unfold Builtin.Tuple.tupleIsExact
    refine wpAny_bind (wpAny_typeOf ht.typeIs (wpAny_pure ?_))
    rw [if_pos (by decide)]
    exact wpAny_bind (wpAny_rule (wpAny_bind (wpAny_pure (wpAny_pure ⟨_, rfl, wpAny_pure (h0 he)⟩))))
  · show wpAny _ _ (if ((i : Int) == 0 && (1 : Int) == 1 && (j - i) == items.size) = true then _ else _) _ _ s
    rw [if_neg hc, pick_gen items i (j - i)]
    rw [hslc] at h hok
    first
      | exact wpAny_bind (m := Builtin.Tuple.tupleExact _) (wpAny_newObj_type (wpAny_pure ⟨_, rfl, wpAny_pure h⟩) hok)
      | exact wpAny_bind (m := Builtin.Tuple.tupleExact _) (wpAny_newObj_type (wpAny_bind (wpAny_pure (wpAny_pure ⟨_, rfl, wpAny_pure h⟩))) hok)
      | exact wpAny_bind (wpAny_bind (m := Builtin.Tuple.tupleExact _) (wpAny_newObj_type (wpAny_pure (wpAny_pure ⟨_, rfl, wpAny_pure h⟩)) hok))
      | exact wpAny_bind (wpAny_bind (m := Builtin.Tuple.tupleExact _) (wpAny_newObj_type (wpAny_pure ⟨_, rfl, wpAny_pure h⟩) hok))
end
end Mine

set_option linter.all false
set_option maxHeartbeats 1000000
open PySem
namespace Mine

/-- an optional expression (a bound of a slice) -/
structure EvO (g : G) (F : Blk) (e : Option Expr) (ρ : List (Option V)) (σ : Hp) (Q : V → Hp → Prop) (X : Str → Hp → Prop) : Prop where
  run : ∀ A env s, Inv g F A env ρ σ s → wpAny (model g.prog g.w) A (evalPart e env) (Post g F A env ρ σ s Q) (PostX g F A env ρ σ s X) s
/-- what a slice gives -/
structure Slc (g : G) (F : Blk) (a : V) (lo hi : Option Int) (ρ : List (Option V)) (σ : Hp) (Q : V → Hp → Prop) (X : Str → Hp → Prop) : Prop where
  run : ∀ A env s x sl vl vu, Inv g F A env ρ σ s → Rep s.heap x a → s.heap.IsSliceOf sl vl vu .none → IsPart vl lo → IsPart vu hi → ∃ T id, s.TypeIs x T ∧ typeLookup (.type T) "__getitem__" = pure (some (.builtin id)) ∧
    wpAny (model g.prog g.w) A (getItem x (.ref sl)) (Post g F A env ρ σ s Q) (PostX g F A env ρ σ s X) s

section
variable {g : G} {F : Blk} {ρ : List (Option V)} {σ : Hp} {Q : V → Hp → Prop} {QB : Bool → Hp → Prop} {X : Str → Hp → Prop}

theorem evo_none (h : Q .none σ) : EvO g F none ρ σ Q X := ⟨fun A env s I => wpAny_evalPart_none (post_here I .none h)⟩
theorem evo_some {e : Expr} (h : Ev g F e ρ σ Q X) : EvO g F (some e) ρ σ Q X := ⟨fun A env s I => wpAny_evalPart_some (h.run A env s I)⟩

theorem ev_slice {value : Expr} {lo hi : Option Expr} {p pos : Pos} (h : Ev g F value ρ σ (fun a σ₁ => EvO g F lo ρ σ₁ (fun l σ₂ => EvO g F hi ρ σ₂ (fun u σ₃ => ∃ kl ku, OptInt l kl ∧ OptInt u ku ∧ Slc g F a kl ku ρ σ₃ Q X) X) X) X) :
    Ev g F (.Subscript value (.Slice lo hi none p) pos) ρ σ Q X := ⟨fun A env s I => by
  refine PyProof.Rows.Subscript_ (wpAny_mono (h.run A env s I) (fun a s₁ ⟨Va, σ₁, ra, I₁, st₁, h₁⟩ => ?_) fun _ _ p => p)
  refine wpAny_Slice (wpAny_mono (h₁.run A env s₁ I₁) (fun l s₂ ⟨Vl, σ₂, rl, I₂, st₂, h₂⟩ => ?_) fun _ _ p => p.step st₁)
  have st12 := st₁.trans st₂
  refine wpAny_mono (h₂.run A env s₂ I₂) (fun u s₃ ⟨Vu, σ₃, ru, I₃, st₃, kl, ku, ol, ou, h₃⟩ => ?_) fun _ _ p => p.step st12
  have st13 := st12.trans st₃
  refine wpAny_evalPart_none ?_
  have stp : Step nobody σ₃ σ₃ s₃ { s₃ with heap := s₃.heap.push { cls := .type "slice", data := .fields #[l, u, .none] } } := Step.push
  have I₄ := I₃.keep stp I₃.sim.push
  obtain ⟨T, id, hT, hl, hw⟩ := h₃.run A env _ a s₃.heap.objs.size l u I₄ (ra.mono ((st₂.tups.trans st₃.tups).trans stp.tups)) (Heap.IsSliceOf.new ..) (ol.part (rl.mono st₃.tups)) (ou.part ru)
  have st14 := st13.trans stp
  exact PyProof.Rows.tail_any hT hl (wpAny_mono hw (fun _ _ p => p.step st14) fun _ _ p => p.step st14) rfl⟩

theorem slc_tup {l : List V} {lo hi : Option Int} (hz : l.length ≤ sizeLine) (h : Q (.tup (slc lo hi l)) σ) : Slc g F (.tup l) lo hi ρ σ Q X := ⟨fun A env s x sl vl vu I r hs pl pu => by
  cases r with | tup ht rl =>
    rename_i a us n
    have e : us.size = l.length := by rw [← rl.length, Array.length_toList]
    refine ⟨"tuple", _, ⟨_, ht, rfl⟩, PySem.F.slot_tuple_getitem.lookup, getItem_tuple_slice ⟨_, ht, rfl, _, rfl⟩ hs pl pu (fun e0 => ?_) (new_tuple I (rl.slc lo hi) h) (by omega)⟩
    have r2 := rl.slc lo hi
    rw [e0] at r2
    exact post_here I (.tup ht r2) h⟩
theorem slc_lst {a : Addr} {l : List V} {lo hi : Option Int} (hσ : σ a = some (.lst l)) (hz : l.length ≤ sizeLine) (h : ∀ b, σ b = none → Q (.ref b) (upd σ b (.lst (slc lo hi l)))) : Slc g F (.ref a) lo hi ρ σ Q X := ⟨fun A env s x sl vl vu I r hs pl pu => by
  cases r
  obtain ⟨us, hp, rl⟩ := (I.sim.objs a _ hσ).1
  have e : us.size = l.length := by rw [← rl.length, Array.length_toList]
  refine ⟨"list", _, hp.isList.typeIs, slot_list_getitem.lookup, wpAny_getItem_list_slice hp.isList hs pl pu .none (by simp) ?_ (by omega)⟩
  have p := new_list (Q := Q) I (rl.slc lo hi) h
  have e2 : slicePick us lo hi none = (slc lo hi us.toList).toArray := by
    rw [slicePick_plain]; unfold slc; rw [Array.length_toList]
  rw [e2]
  exact p⟩

-- a list is written into
theorem set_list {A env s} {a : Addr} {l : List V} {us : Array Value} {h' : Heap} {tk : Nat} {own : Addr → Prop} (I : Inv g F A env ρ σ s) (hσ : ∃ o, σ a = some o) (hp : h'.PlainList a us) (rl : RepL h' us.toList l) (hs : Heap.SameBut a s.heap h') (hlist : ∃ vs, s.heap.PlainList a vs) :
    Inv g F A env ρ (upd σ a (.lst l)) { s with heap := h', toks := tk } ∧ Step own σ (upd σ a (.lst l)) s { s with heap := h', toks := tk } ∧ Tups s.heap h' := by
  obtain ⟨o0, ho0⟩ := hσ
  obtain ⟨vs, n0, hvs⟩ := hlist
  have tu : Tups s.heap h' := fun b ws n e => (hs.2 b (fun q => by rw [q, hvs] at e; simp at e)).trans e
  have hna : ∀ b, ownOf env b → b ≠ a := fun b hb q => by have := I.loc.free b hb; rw [q, ho0] at this; cases this
  have st : ∀ own' : Addr → Prop, Step own' σ (upd σ a (.lst l)) s { s with heap := h', toks := tk } := fun own' => ⟨⟨h', tk, rfl⟩, fun b o e => by
      by_cases q : b = a
      · subst q
        obtain ⟨n1, h1⟩ := hp
        rw [hvs] at e; cases e
        exact ⟨_, h1, fun ⟨_, _, q⟩ => by cases q⟩
      · exact ⟨o, (hs.2 b q).trans e, fun q => q⟩, fun b o e hσb _ => .inl ((hs.2 b (fun q => by rw [q, ho0] at hσb; cases hσb)).trans e), tu, fun b o e hσb => by
      rw [upd_ne _ _ (fun q => by rw [q, ho0] at hσb; cases hσb)]; exact hσb⟩
  refine ⟨I.keep (st nobody) ⟨fun b o e => (hs.2 b (fun q => by rw [q, (I.sim.objs a _ ho0).2] at e; cases e)).trans (I.sim.stays b o e), fun b o e => ?_⟩, st own, tu⟩
  by_cases q : b = a
  · subst q
    rw [upd_same] at e; cases e
    exact ⟨⟨us, hp, rl⟩, (I.sim.objs b _ ho0).2⟩
  · rw [upd_ne _ _ q] at e
    exact ⟨(I.sim.objs b o e).1.keep tu fun ob hob => (hs.2 b q).trans hob, (I.sim.objs b o e).2⟩

theorem RepL.set {h : Heap} : ∀ {vs : List Value} {l : List V} (i : Nat) {v : Value} {x : V}, RepL h vs l → Rep h v x → RepL h (vs.set i v) (l.set i x)
  | _, _, _, _, _, .nil, _ => .nil
  | _, _, 0, _, _, .cons _ r, q => .cons q r
  | _, _, i + 1, _, _, .cons p r, q => .cons p (r.set i q)

theorem setItem_plain {prog : Program} {w : World} {A : Around} {E : Value → Shared → Prop} {s : Shared} {l : Addr} {items : Array Value} {n : Nat} {k : Int} {t : Tok} {v : Value} {QU : Unit → Shared → Prop} (ho : s.heap.get? l = some { cls := .type "list", data := .seq items n })
    (h0 : 0 ≤ k) (hfit : k < 2 ^ 63) (hn : k < items.size) (hQ : QU () { s with heap := s.heap.update l (Obj.mapSeq (·.setIfInBounds k.toNat v)) }) :
    wpAny (model prog w) A (setItem (.ref l) (.int k t) v) QU E s := by
  have hl : s.heap.IsList l items := ⟨_, ho, rfl, n, rfl⟩
  unfold setItem
  try with_reducible refine wpAny_holding ?_
  first | refine wpAny_bind (wpAny_pure ?_) | skip
  refine wpAny_bind (wpAny_sequenceKey hl.typeIs (by decide) ?_)
  refine wpAny_bind (wpAny_callSpecial?_slot (name := Str.ofString "__setitem__") hl.typeIs slot_list_setitem
    (wpAny_call_entry slot_list_setitem hl.typeIs entry_list_setitem ?_ (args_list_setitem _ _ _)))
  show wpAny _ _ (Builtin.List.listSubscript? (.int k t) >>= _) _ _ s
  refine wpAny_bind (wpAny_listSubscript_int (fitsIndex_of h0 hfit) ?_)
  clear hfit
  obtain ⟨j, rfl⟩ := Int.eq_ofNat_of_zero_le h0
  have hj : j < items.size := by omega
  have hx' : items[j]? = some items[j] := Array.getElem?_eq_getElem hj
  show wpAny _ _ ((seqItemAt l j >>= fun r => pure (r.map (j, ·))) >>= _) _ _ s
  refine wpAny_bind (wpAny_bind (wpAny_seqItemAt ho rfl (wpAny_pure ?_)))
  rw [hx']
  show wpAny _ _ (setSeqItemAt l j v >>= _) _ _ s
  refine wpAny_bind (wpAny_setSeqItemAt ho rfl ?_)
  first
    | exact wpAny_bind (wpAny_pure (wpAny_pure ⟨.none, rfl, wpAny_pure hQ⟩))
    | exact wpAny_pure ⟨.none, rfl, wpAny_pure hQ⟩

/-- xs[i] = v -/
theorem ex_setitem {QS : SPost} {XS : XPost} {o i value : Expr} {p' pos : Pos} (h : Ev g F value ρ σ (fun v σ₁ => Ev g F o ρ σ₁ (fun a σ₂ => Ev g F i ρ σ₂ (fun k σ₃ =>
      ∃ b l n, a = .ref b ∧ k = .int n ∧ σ₃ b = some (.lst l) ∧ 0 ≤ n ∧ n < l.length ∧ (l.length : Int) < 2 ^ 63 ∧ QS .next ρ (upd σ₃ b (.lst (l.set n.toNat v)))) (fun x σ₁ => XS x ρ σ₁)) (fun x σ₁ => XS x ρ σ₁)) (fun x σ₁ => XS x ρ σ₁))
    (hs : ∀ env, swapsWith value (some (.Subscript o i p')) pos.line env = pure false := by intro _; rfl) : Ex g F (.Assign [.Subscript o i p'] value pos) ρ σ QS XS := ⟨fun A env s I => by
  refine wpAny_Assign_Subscript (wpAny_mono (h.run A env s I) (fun v s₁ ⟨Vv, σ₁, rv, I₁, st₁, h₁⟩ => ?_) fun _ _ p => p.toS) (hs env)
  refine wpAny_mono (h₁.run A env s₁ I₁) (fun a s₂ ⟨Va, σ₂, ra, I₂, st₂, h₂⟩ => ?_) fun _ _ p => (p.step st₁).toS
  have st12 := st₁.trans st₂
  refine wpAny_mono (h₂.run A env s₂ I₂) (fun k s₃ ⟨Vk, σ₃, rk, I₃, st₃, b, l, n, e1, e2, hσ, h0, hn, hf, hQ⟩ => ?_) fun _ _ p => (p.step st12).toS
  have st13 := st12.trans st₃
  subst e1 e2; cases ra; cases rk
  obtain ⟨us, hp, rl⟩ := (I₃.sim.objs b _ hσ).1
  have e : us.size = l.length := by rw [← rl.length, Array.length_toList]
  obtain ⟨c, hc⟩ := id hp
  refine setItem_plain hc h0 (by omega) (by rw [e]; exact hn) ?_
  have hs' : Heap.SameBut b s₃.heap (s₃.heap.update b (Obj.mapSeq (·.setIfInBounds n.toNat v))) := Heap.SameBut.update ..
  generalize hh' : s₃.heap.update b (Obj.mapSeq (·.setIfInBounds n.toNat v)) = h' at hs' ⊢
  have hp' : h'.PlainList b (us.setIfInBounds n.toNat v) := ⟨_, by rw [← hh']; exact Heap.get?_update_self _ hc rfl⟩
  have rv3 := rv.mono (st₂.tups.trans st₃.tups)
  have tu : Tups s₃.heap h' := fun d ws m e => (hs'.2 d (fun q => by rw [q, hc] at e; simp at e)).trans e
  obtain ⟨I₄, st₄, _⟩ := set_list (own := ownOf env) (tk := s₃.toks) (l := l.set n.toNat Vv) I₃ ⟨_, hσ⟩ hp' (by rw [Array.toList_setIfInBounds]; exact (rl.mono tu).set _ (rv3.mono tu)) hs' ⟨us, hp⟩
  exact ⟨.next, ρ, _, .next, I₄, (st13.mono fun _ h => h.elim).trans st₄, hQ⟩⟩

-- methods of a list
theorem ev_meth {o : Expr} {name : Str} {apos pos : Pos} {args : List Expr} {id : String} (slot : Slot "list" name id) (hty : typeOf (.builtin id) = pure (.type "method_descriptor"))
    (h : Ev g F o ρ σ (fun v σ₁ => ∃ a l, v = .ref a ∧ σ₁ a = some (.lst l) ∧ Evs g F args ρ σ₁ (fun vs σ₂ => Cl g F (.builtin id) (.ref a :: vs) ρ σ₂ Q X) X) X)
    (hline : (apos.endLine == pos.line) = true := by rfl) (hbase : ∀ env, attributeBase o name env (eval o env) = eval o env := by intro _; rfl)
    (hfew : ∀ env, ((backTo pos (starEach args env)).all (fun x => !x.1) && (backToKw pos (keywordEach [] env)).all (fun x => x.1.isSome)
      && decide (args.length + ([] : List Keyword).length + (if ([] : List Keyword).isEmpty then 0 else 1) < 30)) = true := by intro _; rfl) :
    Ev g F (.Call (.Attribute o name apos) args [] pos) ρ σ Q X := ⟨fun A env s I => by
  refine wpAny_Call_method (hbase env) (hfew env) hline PySem.F.plainAttrs_list slot hty (wpAny_mono (h.run A env s I) (fun ov s₁ ⟨V, σ₁, r, I₁, st₁, a, l, hv, hσ, h₁⟩ => ?_) fun _ _ p => p)
  subst hv; cases r
  obtain ⟨us, ⟨n, hp⟩, rl⟩ := (I₁.sim.objs a _ hσ).1
  refine ⟨⟨_, hp, rfl⟩, fun b e => by cases e; exact ⟨_, hp, rfl⟩, ?_⟩
  obtain ⟨hw, hpl⟩ := h₁.run A env s₁ pos I₁
  refine Calls.callWith_builtin hpl (evalArgs_any hpl (wpAny_mono hw (fun vs s₂ ⟨Vs, σ₂, rs, I₂, st₂, q⟩ => ?_) fun _ _ p => p.step st₁))
  have st12 := st₁.trans st₂
  exact wpAny_mono (q.run A env s₂ (.ref a :: vs) I₂ (.cons (.ref a) rs)) (fun _ _ p => p.step st12) fun _ _ p => p.step st12⟩

theorem cl_append {a : Addr} {l : List V} {v : V} (hσ : σ a = some (.lst l)) (hz : l.length ≤ sizeLine) (h : Q .none (upd σ a (.lst (l ++ [v])))) : Cl g F (.builtin "list.append") [.ref a, v] ρ σ Q X := ⟨fun A env s vs I r => by
  cases r with | cons r rs => cases rs with | cons r' rs => cases rs; cases r with | ref a =>
    obtain ⟨us, hp, rl⟩ := (I.sim.objs a _ hσ).1
    have e : us.size = l.length := by rw [← rl.length, Array.length_toList]
    obtain ⟨c, hc⟩ := id hp
    refine wpAny_list_append_plain (hsz := by omega) hp fun h' hl' hs' => ?_
    have tu : Tups s.heap h' := fun d ws m e => (hs'.2 d (fun q => by rw [q, hc] at e; simp at e)).trans e
    obtain ⟨I₄, st₄, _⟩ := set_list (own := nobody) (tk := s.toks) (l := l ++ [v]) I ⟨_, hσ⟩ hl' (by rw [Array.toList_push]; exact (rl.mono tu).append (.cons (r'.mono tu) .nil)) hs' ⟨us, hp⟩
    exact ⟨.none, _, .none, I₄, st₄, h⟩⟩
theorem ex_expr {QS : SPost} {XS : XPost} {e : Expr} {pos : Pos} (h : Ev g F e ρ σ (fun _ σ₁ => QS .next ρ σ₁) (fun x σ₁ => XS x ρ σ₁)) (hs : ∀ env, swapsWith e none pos.line env = pure false := by intro _; rfl) : Ex g F (.Expr e pos) ρ σ QS XS := ⟨fun A env s I =>
  wpAny_Expr_any (wpAny_mono (h.run A env s I) (fun v s₁ ⟨V, σ₁, r, I₁, st₁, q⟩ => ⟨.next, ρ, σ₁, .next, I₁, st₁.mono fun _ h => h.elim, q⟩) fun _ _ p => p.toS)
    (by unfold interactive; rw [I.fn]; rfl) (hs env)⟩

-- all(..) of a list of truths
theorem RepL.bools {h : Heap} : ∀ {vs : List Value} {bs : List Bool}, RepL h vs (bs.map .bool) → vs = bs.map .bool
  | _, [], .nil => rfl
  | _, b :: bs, .cons (.bool _) r => by rw [r.bools]; rfl
theorem cl_all {a : Addr} {bs : List Bool} (hq : F.q = true) (hσ : σ a = some (.lst (bs.map .bool))) (h : Q (.bool (bs.all id)) σ) : Cl g F (.builtin "all") [.ref a] ρ σ Q X := ⟨fun A env s vs I r => by
  cases r with | cons r rs => cases rs; cases r with | ref a =>
    obtain ⟨us, hp, rl⟩ := (I.sim.objs a _ hσ).1
    have hus := rl.bools
    have hsz : us.size = bs.length := by rw [← Array.length_toList, hus, List.length_map]
    have hfr : s.heap.get? s.heap.objs.size = none := get_size _
    refine call_all_walk (wpAny_pyIter_list hp.isList ?_)
    have hne : a ≠ s.heap.objs.size := fun q => by obtain ⟨c, hc⟩ := hp; rw [q, hfr] at hc; cases hc
    refine ⟨_, _, _, _, _, _, fun i => bs.getD i true, rfl, Walks.list (A := A.in1) (I.quiet hq) s.heap.objs.size a hne us, ⟨⟨_, Heap.get?_push_size _ rfl, rfl, rfl⟩, hp.isList.push _⟩, fun i v s' QB' E' hP hQ' => ?_, fun h' tk hk => ?_⟩
    · dsimp only at hP hQ'
      have : us.toList[i]? = some v := by rw [Array.getElem?_toList]; exact hP
      rw [hus, List.getElem?_map] at this
      obtain ⟨b, hb, rfl⟩ := Option.map_eq_some_iff.mp this
      refine wpAny_truthy_bool ?_
      have e : bs.getD i true = b := by rw [List.getD_eq_getElem?_getD, hb]; rfl
      rw [e] at hQ'; exact hQ'
    · have hk' : ∀ b o, s.heap.get? b = some o → h'.get? b = some o := fun b o e => hk b o (fun q => by simp at q; rw [q, hfr] at e; cases e) (Heap.get?_push_of_some _ e)
      have e : (List.range us.size).all (fun i => bs.getD i true) = bs.all id := by
        rw [hsz, Bool.eq_iff_iff, List.all_eq_true, List.all_eq_true]
        constructor
        · intro hall b hb
          obtain ⟨i, hi, rfl⟩ := List.getElem_of_mem hb
          have := hall i (List.mem_range.mpr hi)
          rw [List.getD_eq_getElem?_getD, List.getElem?_eq_getElem hi] at this
          exact this
        · intro hall i hi
          have hi' := List.mem_range.mp hi
          rw [List.getD_eq_getElem?_getD, List.getElem?_eq_getElem hi']
          exact hall _ (List.getElem_mem hi')
      rw [e]
      have st : Step nobody σ σ s { s with heap := h', toks := tk } := Step.grow hk'
      exact ⟨.bool _, σ, .bool _, I.keep st (I.sim.grow hk'), st, h⟩⟩
end
end Mine

set_option linter.all false
set_option maxHeartbeats 1000000
open PySem
namespace Mine

def Scr (g : G) (a : Addr) (ns : List Int) : Prop := ∃ vs : Array Value, g.h₀.IsList a vs ∧ ∀ h, RepL h vs.toList (ns.map .int)

section
variable {g : G} {F : Blk} {ρ : List (Option V)} {σ : Hp} {Q : V → Hp → Prop} {QB : Bool → Hp → Prop} {X : Str → Hp → Prop}

theorem cl_len_scr {a : Addr} {ns : List Int} (hs : Scr g a ns) (hfit : (ns.length : Int) < 2 ^ 63) (h : Q (.int ns.length) σ) : Cl g F (.builtin "len") [.ref a] ρ σ Q X := ⟨fun A env s vs I r => by
  obtain ⟨us, hl, rl⟩ := hs
  cases r with | cons r rs => cases rs; cases r with
    | ref a =>
      have hl' : s.heap.IsList a us := let ⟨o, ho, q⟩ := hl; ⟨o, I.sim.stays _ _ ho, q⟩
      have e : ((us.size : Nat) : Int) = (ns.length : Int) := by have := (rl s.heap).length; rw [Array.length_toList, List.length_map] at this; omega
      refine Calls.call_len_list hl' (by rw [e]; exact hfit) ?_
      rw [e]; exact post_int I h⟩
theorem itm_scr {a : Addr} {ns : List Int} {k x : Int} (hs : Scr g a ns) (h0 : 0 ≤ k) (hhi : k < 2 ^ 63) (hx : ns[k.toNat]? = some x) (h : Q (.int x) σ) : Itm g F (.ref a) (.int k) ρ σ Q X := ⟨fun A env s v y I rx ry => by
  obtain ⟨us, hl, rl⟩ := hs
  cases rx; cases ry
  have hl' : s.heap.IsList a us := let ⟨o, ho, q⟩ := hl; ⟨o, I.sim.stays _ _ ho, q⟩
  obtain ⟨w, hw, rw'⟩ := (rl s.heap).get (i := k.toNat) (x := .int x) (by rw [List.getElem?_map, hx]; rfl)
  exact ⟨"list", _, hl'.typeIs, slot_list_getitem.lookup, wpAny_getItem_list hl' h0 hhi (x := w) (by rw [← Array.getElem?_toList]; exact hw) (post_here I rw' h)⟩⟩

/-- targets in a row -/
structure AsgL (g : G) (F : Blk) (es : List Expr) (l : List V) (ρ : List (Option V)) (σ : Hp) (Q : List (Option V) → Prop) : Prop where
  run : ∀ A env s xs (QU : Unit → Shared → Prop) (E : Value → Shared → Prop), Inv g F A env ρ σ s → RepL s.heap xs l →
    (∀ s' ρ', Inv g F A env ρ' σ s' → Step (ownOf env) σ σ s s' → Q ρ' → QU () s') → wpAny (model g.prog g.w) A (assignInOrder ((assignEach es env).map (·.2)) xs) QU E s
  len : ∀ env, (assignEach es env).length = l.length
  star : ∀ env, (assignEach es env).findIdx? (·.1) = none

theorem asgl_nil {P : List (Option V) → Prop} (h : P ρ) : AsgL g F [] [] ρ σ P := ⟨fun A env s xs QU E I r k => wpAny_pure (k s ρ I Step.refl h), fun _ => rfl, fun _ => rfl⟩
theorem asgl_cons {x : Str} {p : Pos} {es : List Expr} {v : V} {l : List V} {i : Nat} {w : Option V} {P : List (Option V) → Prop} (hx : F.vars[i]? = some x) (hw : ρ[i]? = some w) (h : AsgL g F es l (ρ.set i (some v)) σ P) : AsgL g F (.Name x p :: es) (v :: l) ρ σ P :=
  ⟨fun A env s xs QU E I r k => by
    cases r with | cons r rs =>
      show wpAny _ A (do holding _ (assign (.Name x p) env _); assignInOrder ((assignEach es env).map (·.2)) _) QU E s
      refine wpAny_bind (wpAny_holding (wpAny_assign_Name (store_name I hx hw r fun s' I' st => ?_)))
      exact h.run A env s' _ QU E I' (rs.mono st.tups) fun s'' ρ'' I'' st'' hP => k s'' ρ'' I'' (st.trans st'') hP, fun env => by
    show ((false, assign (.Name x p) env) :: assignEach es env).length = _
    rw [List.length_cons, h.len env, List.length_cons], fun env => by
    show ((false, assign (.Name x p) env) :: assignEach es env).findIdx? _ = none
    rw [List.findIdx?_cons, h.star env]; rfl⟩
theorem asg_tuple {es : List Expr} {k : Nat} {p : Pos} {l : List V} {P : List (Option V) → Prop} (h : AsgL g F es l ρ σ P) : Asg g F (.Tuple es k p) (.tup l) ρ σ P :=
  ⟨fun A env s x QU E I hh r kk => by
    cases r with | tup ht rl =>
      rename_i a us n
      have e : us.size = l.length := by rw [← rl.length, Array.length_toList]
      refine wpAny_assign_Tuple hh ⟨_, ht, rfl, _, rfl⟩ (by rw [h.len env, e]) (h.star env) fun h' hx => ?_
      have st : ∀ own, Step own σ σ s { s with heap := h' } := fun own => Step.grow (tk := s.toks) fun b o e => hx b o (Nat.ne_of_lt (Heap.lt_size e)) e
      have hk : ∀ b o, s.heap.get? b = some o → h'.get? b = some o := fun b o e => hx b o (Nat.ne_of_lt (Heap.lt_size e)) e
      refine h.run A env _ _ QU E (I.keep (st nobody) (I.sim.grow hk)) (rl.mono (st nobody).tups) fun s'' ρ'' I'' st'' hP => kk s'' ρ'' I'' ((st _).trans st'') hP, .inr ⟨es, k, p, rfl⟩⟩
end
end Mine

set_option linter.all false
set_option maxHeartbeats 1000000
open PySem
namespace Mine

inductive At : List Str → List (Option V) → Str → V → Prop
  | head {x : Str} {xs : List Str} {v : V} {ρ : List (Option V)} : At (x :: xs) (some v :: ρ) x v
  | tail {x y : Str} {xs : List Str} {v : V} {w : Option V} {ρ : List (Option V)} : At xs ρ x v → At (y :: xs) (w :: ρ) x v
inductive Put : List Str → List (Option V) → Str → V → List (Option V) → Prop
  | head {x : Str} {xs : List Str} {v : V} {w : Option V} {ρ : List (Option V)} : Put (x :: xs) (w :: ρ) x v (some v :: ρ)
  | tail {x y : Str} {xs : List Str} {v : V} {w : Option V} {ρ ρ' : List (Option V)} : Put xs ρ x v ρ' → Put (y :: xs) (w :: ρ) x v (w :: ρ')
/-- which values free names have -/
inductive Sel (vs : List Str) (ρ : List (Option V)) : List Str → List (Option V) → Prop
  | nil : Sel vs ρ [] []
  | cons {x : Str} {v : V} {xs : List Str} {ws : List (Option V)} : At vs ρ x v → Sel vs ρ xs ws → Sel vs ρ (x :: xs) (some v :: ws)

theorem At.get : ∀ {vs : List Str} {ρ : List (Option V)} {x : Str} {v : V}, At vs ρ x v → ∃ i : Nat, vs[i]? = some x ∧ ρ[i]? = some (some v)
  | _, _, _, _, .head => ⟨0, rfl, rfl⟩
  | _, _, _, _, .tail h => let ⟨i, a, b⟩ := h.get; ⟨i + 1, a, b⟩
theorem Put.get : ∀ {vs : List Str} {ρ ρ' : List (Option V)} {x : Str} {v : V}, Put vs ρ x v ρ' → ∃ (i : Nat) (w : Option V), vs[i]? = some x ∧ ρ[i]? = some w ∧ ρ' = ρ.set i (some v)
  | _, _, _, _, _, .head => ⟨0, _, rfl, rfl, rfl⟩
  | _, _, _, _, _, .tail h => let ⟨i, w, a, b, c⟩ := h.get; ⟨i + 1, w, a, b, by rw [c]; rfl⟩
theorem nodup_ix {x : Str} : ∀ {vs : List Str}, vs.Nodup → ∀ {i j : Nat}, vs[i]? = some x → vs[j]? = some x → i = j
  | [], _, i, _, h, _ => by simp at h
  | y :: ys, n, 0, 0, _, _ => rfl
  | y :: ys, n, 0, j + 1, h, h' => by
    have e : y = x := by simpa using h
    have : x ∈ ys := List.mem_of_getElem? (by simpa using h')
    exact absurd (e ▸ this) (List.nodup_cons.mp n).1
  | y :: ys, n, i + 1, 0, h, h' => by
    have e : y = x := by simpa using h'
    have : x ∈ ys := List.mem_of_getElem? (by simpa using h)
    exact absurd (e ▸ this) (List.nodup_cons.mp n).1
  | y :: ys, n, i + 1, j + 1, h, h' => congrArg (· + 1) (nodup_ix (vs := ys) (i := i) (j := j) (List.nodup_cons.mp n).2 (by simpa using h) (by simpa using h'))
theorem Sel.get {vs : List Str} {ρ : List (Option V)} : ∀ {xs : List Str} {ws : List (Option V)}, Sel vs ρ xs ws → ∃ js, js.map (fun j => vs[j]?) = xs.map some ∧ cloc ρ js = ws
  | _, _, .nil => ⟨[], rfl, rfl⟩
  | _, _, .cons a h => by
    obtain ⟨i, e1, e2⟩ := a.get
    obtain ⟨js, f1, f2⟩ := h.get
    exact ⟨i :: js, by rw [List.map_cons, List.map_cons, e1, f1], by show (ρ[i]?).join :: cloc ρ js = _; rw [e2, f2]; rfl⟩

section
variable {g : G} {sc : Scope} {vs : List Str} {d : Nat} {q : Bool} {ρ : List (Option V)} {σ : Hp} {Q : V → Hp → Prop} {QB : Bool → Hp → Prop} {X : Str → Hp → Prop}

theorem u_name {x : Str} {pos : Pos} {v : V} (hx : At vs ρ x v) (h : Q v σ) (hd : (x == ("__debug__" : Str)) = false) : Ev g ⟨sc, vs, d, q⟩ (.Name x pos) ρ σ Q X := by
  obtain ⟨i, a, b⟩ := hx.get; exact ev_name a b h hd
theorem u_assign {QS : SPost} {XS : XPost} {x : Str} {p' pos : Pos} {e : Expr} (h : Ev g ⟨sc, vs, d, q⟩ e ρ σ (fun v σ₁ => ∃ ρ', Put vs ρ x v ρ' ∧ QS .next ρ' σ₁) (fun x σ₁ => XS x ρ σ₁))
    (hs : ∀ env, swapsWith e (some (.Name x p')) pos.line env = pure false) : Ex g ⟨sc, vs, d, q⟩ (.Assign [.Name x p'] e pos) ρ σ QS XS := ⟨fun A env s I =>
  wpAny_Assign_Name (wpAny_mono (h.run A env s I) (fun v s₁ ⟨V, σ₁, r, I₁, st₁, ρ', hp, hq⟩ => by
    obtain ⟨i, w, a, b, rfl⟩ := hp.get
    exact store_name I₁ a b r fun s₂ I₂ st₂ => ⟨.next, _, σ₁, .next, I₂, (st₁.mono fun _ h => h.elim).trans st₂, hq⟩) fun _ _ p => p.toS) (hs env)⟩
theorem u_asg {x : Str} {p : Pos} {v : V} {P : List (Option V) → Prop} {ρ' : List (Option V)} (hp : Put vs ρ x v ρ') (h : P ρ') : Asg g ⟨sc, vs, d, q⟩ (.Name x p) v ρ σ P := by
  obtain ⟨i, w, a, b, rfl⟩ := hp.get; exact asg_name a b h
theorem u_asgl {x : Str} {p : Pos} {es : List Expr} {v : V} {l : List V} {P : List (Option V) → Prop} {ρ' : List (Option V)} (hp : Put vs ρ x v ρ') (h : AsgL g ⟨sc, vs, d, q⟩ es l ρ' σ P) : AsgL g ⟨sc, vs, d, q⟩ (.Name x p :: es) (v :: l) ρ σ P := by
  obtain ⟨i, w, a, b, rfl⟩ := hp.get; exact asgl_cons a b h
theorem u_call {x : Str} {np pos : Pos} {args : List Expr} {params : Arguments} {body : List Stmt} {scope : Scope} (hf : FnAt g x params body scope) (hk : sc.names.lookup x = some .globalImplicit)
    (h : Evs g ⟨sc, vs, d, q⟩ args ρ σ (fun us σ₁ => CallOK g d q x us σ₁ Q X) X) (hd : (x == ("__debug__" : Str)) = false := by decide +kernel) : Ev g ⟨sc, vs, d, q⟩ (.Call (.Name x np) args [] pos) ρ σ Q X := ev_call hf hk h hd

/-- a built-in's name: not bound in the text -/
def Bi (g : G) (x : Str) (v : Value) : Prop := g.mg x = none ∧ g.mb x = some v
theorem u_b {x : Str} {np pos : Pos} {args : List Expr} {id : String} (hb : Bi g x (.builtin id)) (hk : sc.names.lookup x = some .globalImplicit)
    (h : Evs g ⟨sc, vs, d, q⟩ args ρ σ (fun us σ₁ => Cl g ⟨sc, vs, d, q⟩ (.builtin id) us ρ σ₁ Q X) X) (hd : (x == ("__debug__" : Str)) = false := by decide +kernel) : Ev g ⟨sc, vs, d, q⟩ (.Call (.Name x np) args [] pos) ρ σ Q X := ev_call_b hk hb.1 hb.2 h hd
theorem u_t {x : Str} {np pos : Pos} {args : List Expr} {id : String} (hb : Bi g x (.type id)) (hk : sc.names.lookup x = some .globalImplicit)
    (h : Evs g ⟨sc, vs, d, q⟩ args ρ σ (fun us σ₁ => Cl g ⟨sc, vs, d, q⟩ (.type id) us ρ σ₁ Q X) X) (hd : (x == ("__debug__" : Str)) = false := by decide +kernel) : Ev g ⟨sc, vs, d, q⟩ (.Call (.Name x np) args [] pos) ρ σ Q X := ev_call_t hk hb.1 hb.2 h hd
theorem u_isi {x t : Str} {np tp pos : Pos} {e : Expr} {tn : String} (hb : Bi g x (.builtin "isinstance")) (hbt : Bi g t (.type tn)) (hk : sc.names.lookup x = some .globalImplicit) (hkt : sc.names.lookup t = some .globalImplicit)
    (h : Ev g ⟨sc, vs, d, q⟩ e ρ σ (fun v σ₁ => ∃ b, isi σ₁ v tn = some b ∧ Q (.bool b) σ₁) X) (hd : (x == ("__debug__" : Str)) = false := by decide +kernel) (hdt : (t == ("__debug__" : Str)) = false := by decide +kernel)
    (he : ∀ env, starEach [e, .Name t tp] env = (false, eval e env) :: starEach [.Name t tp] env := by intro _; rfl) : Ev g ⟨sc, vs, d, q⟩ (.Call (.Name x np) [e, .Name t tp] [] pos) ρ σ Q X := ev_isi hk hb.1 hb.2 hkt hbt.1 hbt.2 h hd hdt he
theorem u_rng1 {x : Str} {np pos : Pos} {e : Expr} {QR : Int → Int → Int → Hp → Prop} (hb : Bi g x (.type "range")) (hk : sc.names.lookup x = some .globalImplicit)
    (h : Ev g ⟨sc, vs, d, q⟩ e ρ σ (fun v σ₁ => ∃ n, v = .int n ∧ QR 0 n 1 σ₁) X) (hd : (x == ("__debug__" : Str)) = false := by decide +kernel) (he : ∀ env, starEach [e] env = (false, eval e env) :: starEach [] env := by intro _; rfl) : Rng g ⟨sc, vs, d, q⟩ (.Call (.Name x np) [e] [] pos) ρ σ QR X := rng_1 hk hb.1 hb.2 h hd he
theorem u_rng2 {x : Str} {np pos : Pos} {e e' : Expr} {QR : Int → Int → Int → Hp → Prop} (hb : Bi g x (.type "range")) (hk : sc.names.lookup x = some .globalImplicit)
    (h : Ev g ⟨sc, vs, d, q⟩ e ρ σ (fun v σ₁ => ∃ a, v = .int a ∧ Ev g ⟨sc, vs, d, q⟩ e' ρ σ₁ (fun w σ₂ => ∃ b, w = .int b ∧ QR a b 1 σ₂) X) X) (hd : (x == ("__debug__" : Str)) = false := by decide +kernel) (he : ∀ env, starEach [e, e'] env = (false, eval e env) :: starEach [e'] env := by intro _; rfl) (he' : ∀ env, starEach [e'] env = (false, eval e' env) :: starEach [] env := by intro _; rfl) : Rng g ⟨sc, vs, d, q⟩ (.Call (.Name x np) [e, e'] [] pos) ρ σ QR X := rng_2 hk hb.1 hb.2 h hd he he'

/-- what is asked of a comprehension's table of names -/
def cOk (sc : Scope) (scope : Scope) (x : Str) (fr : List Str) : Bool :=
  scope.names.all (fun y => y.2 != .cell) && (scope.kind == .function) && (scope.names.all fun y => y.2 != .local || scope.names.lookup y.1 == some .local) && (scope.names.lookup x == some .local) &&
  decide (frees scope = fr) && decide (x :: fr).Nodup && (fr.all fun y => sc.names.lookup y == some .cell && scope.names.lookup y == some .free)
theorem cOk_of {scope : Scope} {x : Str} {fr : List Str} {js : List Nat} (ok : cOk sc scope x fr = true) (hjs : js.map (fun j => vs[j]?) = fr.map some) : compOk ⟨sc, vs, d, q⟩ scope x js = true ∧ frees scope = fr := by
  unfold cOk at ok
  simp only [Bool.and_eq_true, decide_eq_true_eq] at ok
  obtain ⟨⟨⟨⟨⟨⟨h1, h2⟩, h3⟩, h4⟩, h5⟩, h6⟩, h7⟩ := ok
  subst h5
  refine ⟨?_, rfl⟩
  unfold compOk
  simp only [Bool.and_eq_true, decide_eq_true_eq]
  exact ⟨⟨⟨⟨⟨⟨h1, h2⟩, h3⟩, h4⟩, h6⟩, h7⟩, hjs⟩

theorem u_comp {elt iter : Expr} {x : Str} {px pos : Pos} {ifs : List Expr} {scope : Scope} (fr : List Str) {ws : List (Option V)} (ok : cOk sc scope x fr = true) (hsel : Sel vs ρ fr ws) (J : List V → List V → Hp → Prop)
    (h : Itr g ⟨sc, vs, d, true⟩ iter ρ σ (fun L K σ₁ => L.length ≤ sizeLine ∧ J L [] σ₁ ∧
      (∀ v l acc σ', J (v :: l) acc σ' → K σ' ∧ Cond g ⟨rl scope sc, x :: fr, d, true⟩ ifs (some v :: ws) σ' (fun b σ₂ => (b = true → Ev g ⟨rl scope sc, x :: fr, d, true⟩ elt (some v :: ws) σ₂ (fun y σ₃ => J l (acc ++ [y]) σ₃) noX) ∧ (b = false → J l acc σ₂))) ∧
      ∀ acc σ', J [] acc σ' → K σ') X)
    (hQ : ∀ acc σ' a, J [] acc σ' → σ' a = none → Q (.ref a) (upd σ' a (.lst acc))) :
    Ev g ⟨sc, vs, d, true⟩ (.ListComp elt [⟨.Name x px, iter, ifs, 0⟩] scope pos) ρ σ Q X := by
  obtain ⟨js, hjs, hc⟩ := hsel.get
  obtain ⟨ok', hfr⟩ := cOk_of (vs := vs) (d := d) (q := true) ok hjs
  subst hfr hc
  exact ev_comp js ok' rfl J h hQ
theorem u_assign_comp {QS : SPost} {XS : XPost} {elt iter : Expr} {x y : Str} {px pos p' cpos : Pos} {ifs : List Expr} {scope : Scope} (fr : List Str) {ws : List (Option V)} (ok : cOk sc scope x fr = true) (hsel : Sel vs ρ fr ws) (J : List V → List V → Hp → Prop)
    (h : Itr g ⟨sc, vs, d, true⟩ iter ρ σ (fun L K σ₁ => L.length ≤ sizeLine ∧ J L [] σ₁ ∧
      (∀ v l acc σ', J (v :: l) acc σ' → K σ' ∧ Cond g ⟨rl scope sc, x :: fr, d, true⟩ ifs (some v :: ws) σ' (fun b σ₂ => (b = true → Ev g ⟨rl scope sc, x :: fr, d, true⟩ elt (some v :: ws) σ₂ (fun y σ₃ => J l (acc ++ [y]) σ₃) noX) ∧ (b = false → J l acc σ₂))) ∧
      ∀ acc σ', J [] acc σ' → K σ') (fun x σ₁ => XS x ρ σ₁))
    {ρ' : Addr → List (Option V)} (hput : ∀ a, Put vs ρ y (.ref a) (ρ' a)) (hnd : vs.Nodup)
    (hQ : ∀ acc σ' a, J [] acc σ' → σ' a = none → QS .next (ρ' a) (upd σ' a (.lst acc))) :
    Ex g ⟨sc, vs, d, true⟩ (.Assign [.Name y p'] (.ListComp elt [⟨.Name x px, iter, ifs, 0⟩] scope cpos) pos) ρ σ QS XS := by
  obtain ⟨js, hjs, hc⟩ := hsel.get
  obtain ⟨ok', hfr⟩ := cOk_of (vs := vs) (d := d) (q := true) ok hjs
  subst hfr hc
  obtain ⟨i, w, a, b, _⟩ := (hput 0).get
  refine ex_assign_comp js ok' rfl a b J h fun acc σ' ad hj hn => ?_
  have e := hQ acc σ' ad hj hn
  obtain ⟨i', w', a', b', e'⟩ := (hput ad).get
  obtain rfl : i' = i := by
    exact nodup_ix hnd a' a
  rw [e'] at e; exact e
theorem u_for {QS : SPost} {XS : XPost} {t iter : Expr} {body : List Stmt} {pos : Pos} (J : List V → List (Option V) → Hp → Prop)
    (h : Itr g ⟨sc, vs, d, true⟩ iter ρ σ (fun L K σ₁ => J L ρ σ₁ ∧ (∀ v l ρ' σ', J (v :: l) ρ' σ' → K σ' ∧ Asg g ⟨sc, vs, d, true⟩ t v ρ' σ' (fun ρ'' => Exs g ⟨sc, vs, d, true⟩ body ρ'' σ' (forQ QS J l) XS)) ∧ ∀ ρ' σ', J [] ρ' σ' → K σ' ∧ QS .next ρ' σ') (fun x σ₁ => XS x ρ σ₁)) :
    Ex g ⟨sc, vs, d, true⟩ (.For t iter body [] pos) ρ σ QS XS := ex_for rfl J h

-- cases of a test
theorem sp_dec {p : Prop} [Decidable p] {A B : Prop} (h1 : p → A) (h2 : ¬ p → B) : (decide p = true → A) ∧ (decide p = false → B) := ⟨fun h => h1 (of_decide_eq_true h), fun h => h2 (of_decide_eq_false h)⟩
theorem sp_beq {a b : Int} {A B : Prop} (h1 : a = b → A) (h2 : a ≠ b → B) : ((a == b) = true → A) ∧ ((a == b) = false → B) := ⟨fun h => h1 (beq_iff_eq.mp h), fun h => h2 (beq_eq_false_iff_ne.mp h)⟩
theorem sp_bne {a b : Int} {A B : Prop} (h1 : a ≠ b → A) (h2 : a = b → B) : ((a != b) = true → A) ∧ ((a != b) = false → B) := ⟨fun h => h1 (bne_iff_ne.mp h), fun h => h2 (by simpa using h)⟩
theorem sp_not {b : Bool} {A B : Prop} (h : (b = true → B) ∧ (b = false → A)) : ((!b) = true → A) ∧ ((!b) = false → B) := by
  cases b with
  | true => exact ⟨fun e => (by cases e), fun _ => h.1 rfl⟩
  | false => exact ⟨fun _ => h.2 rfl, fun e => (by cases e)⟩
theorem sp_true {A B : Prop} (h : A) : (true = true → A) ∧ (true = false → B) := ⟨fun _ => h, fun e => (by cases e)⟩
theorem sp_false {A B : Prop} (h : B) : (false = true → A) ∧ (false = false → B) := ⟨fun e => (by cases e), fun _ => h⟩
theorem sp_swap {b : Bool} {A B : Prop} (h : (b = true → B) ∧ (b = false → A)) : (b = false → A) ∧ (b = true → B) := ⟨h.2, h.1⟩
end
end Mine

set_option linter.all false
set_option maxHeartbeats 1000000
open PySem
namespace Mine

/-- the k-th statement of the text, a def -/
def defAt (p : Program) (k : Nat) : PySem.DefRec := match p.main.body[k]? with
  | some (.FunctionDef name params body _ _ _ scope _ _ pos) => ⟨name, params, body, scope, pos⟩
  | _ => ⟨.ofString "", ⟨[], [], none, [], [], none, []⟩, [], default, default⟩

/-- the locals at the start of a body -/
inductive Ini : List V → List Str → List (Option V) → Prop
  | done : Ini [] [] []
  | free {x : Str} {xs : List Str} {ρ : List (Option V)} : Ini [] xs ρ → Ini [] (x :: xs) (Option.none :: ρ)
  | arg {a : V} {l : List V} {x : Str} {xs : List Str} {ρ : List (Option V)} : Ini l xs ρ → Ini (a :: l) (x :: xs) (some a :: ρ)
theorem Ini.eq : ∀ {l : List V} {xs : List Str} {ρ : List (Option V)}, Ini l xs ρ → l.map some ++ List.replicate (xs.length - l.length) Option.none = ρ
  | _, _, _, .done => rfl
  | _, _, _, .free h => congrArg (Option.none :: ·) h.eq
  | _, x :: xs, _, .arg (l := l) h => by
    have := h.eq
    simp only [List.map_cons, List.length_cons, List.cons_append, Nat.add_sub_add_right] at this ⊢
    rw [this]

def Fn (g : G) (x : Str) : Prop := ∃ params body scope, FnAt g x params body scope
/-- a name of the text that is bound to an int -/
def Gi (g : G) (x : Str) (i : Int) : Prop := ∃ t, g.mg x = some (.int i t)

section
variable {g : G} {sc : Scope} {vs : List Str} {d : Nat} {q : Bool} {F : Blk} {ρ : List (Option V)} {σ : Hp} {Q : V → Hp → Prop} {QB : Bool → Hp → Prop} {X : Str → Hp → Prop}

theorem u_body {f : Str} {names : List Arg} {body : List Stmt} {scope : Scope} {vars : List Str} {args : List V} {ρ₀ : List (Option V)} (hf : FnAt g f ⟨[], names, none, [], [], none, []⟩ body scope)
    (ok : blkOk ⟨[], names, none, [], [], none, []⟩ scope vars = true) (hargs : names.length = args.length) (hi : Ini args vars ρ₀)
    (h : Exs g ⟨scope, vars, d, q⟩ body ρ₀ σ (fun fl ρ' σ' => ∃ σ'', Sub σ'' σ' ∧ Q (retOf fl) σ'') (fun x _ σ' => X x σ')) :
    CallOK g (d + 1) q f args σ Q X := call_body hf ok hargs (by rw [hi.eq]; exact h)
theorem u_fn {x : Str} {np pos : Pos} {args : List Expr} (hf : Fn g x) (hk : sc.names.lookup x = some .globalImplicit) (hd : (x == ("__debug__" : Str)) = false)
    (h : Evs g ⟨sc, vs, d, q⟩ args ρ σ (fun us σ₁ => CallOK g d q x us σ₁ Q X) X) : Ev g ⟨sc, vs, d, q⟩ (.Call (.Name x np) args [] pos) ρ σ Q X :=
  let ⟨_, _, _, hf⟩ := hf; ev_call hf hk h hd
theorem u_gi {x : Str} {pos : Pos} {i : Int} (hf : Gi g x i) (hk : sc.names.lookup x = some .globalImplicit) (hd : (x == ("__debug__" : Str)) = false) (h : Q (.int i) σ) : Ev g ⟨sc, vs, d, q⟩ (.Name x pos) ρ σ Q X :=
  let ⟨t, hf⟩ := hf; ev_global hk hf (fun _ => .int i t) h hd
theorem u_mod {a b : Int} (hb : 0 < b) (h : Q (.int (a % b)) σ) : Op2 g F (binaryOp .Mod) (.int a) (.int b) ρ σ Q X := bin_mod (by omega) (by rw [Int.fmod_eq_emod_of_nonneg _ (by omega)]; exact h)
theorem u_div {a b : Int} (hb : 0 < b) (hl : b < 2 ^ 64) (h : Q (.int (a / b)) σ) : Op2 g F (binaryOp .FloorDiv) (.int a) (.int b) ρ σ Q X := bin_div (by omega) (by
  have : b.natAbs < 2 ^ 64 := by omega
  have : b.natAbs.log2 < 64 := (Nat.log2_lt (by omega)).mpr this
  omega) (by rw [Int.fdiv_eq_ediv_of_nonneg _ (by omega)]; exact h)
theorem pow_9 (h : Q (.int 1000000000) σ) : Op2 g F (binaryOp .Pow) (.int 10) (.int 9) ρ σ Q X := bin_pow (by decide) (by decide +kernel) h
theorem pow_12 (h : Q (.int 1000000000000) σ) : Op2 g F (binaryOp .Pow) (.int 10) (.int 12) ρ σ Q X := bin_pow (by decide) (by decide +kernel) h
theorem u_mulL {a b : Int} (ha : -(2 ^ 60) ≤ a) (ha' : a ≤ 2 ^ 60) (h : Q (.int (a * b)) σ) : Op2 g F (binaryOp .Mult) (.int a) (.int b) ρ σ Q X := bin_mul h (PySem.IntMulOk.of_left (PySem.intBits_le_64 (by omega) (by omega)))
theorem u_mulR {a b : Int} (ha : -(2 ^ 60) ≤ b) (ha' : b ≤ 2 ^ 60) (h : Q (.int (a * b)) σ) : Op2 g F (binaryOp .Mult) (.int a) (.int b) ρ σ Q X := bin_mul h (PySem.IntMulOk.of_right (PySem.intBits_le_64 (by omega) (by omega)))

theorem seqQ_next {rest : List Stmt} {Q : SPost} {X : XPost} (h : Exs g F rest ρ σ Q X) : seqQ g F rest Q X .next ρ σ := h
theorem seqQ_ret {rest : List Stmt} {Q : SPost} {X : XPost} {v : V} (h : Q (.ret v) ρ σ) : seqQ g F rest Q X (.ret v) ρ σ := h
theorem seqQ_brk {rest : List Stmt} {Q : SPost} {X : XPost} (h : Q .brk ρ σ) : seqQ g F rest Q X .brk ρ σ := h
theorem u_all {a : Addr} {bs : List Bool} (hσ : σ a = some (.lst (bs.map .bool))) (h : Q (.bool (bs.all id)) σ) : Cl g ⟨sc, vs, d, true⟩ (.builtin "all") [.ref a] ρ σ Q X := cl_all rfl hσ h

theorem upd_old {a b : Addr} {o x : AObj} (hb : σ b = some x) (hn : σ a = none) : upd σ a o b = some x := by rw [upd_ne σ o (fun e => by rw [e, hn] at hb; cases hb)]; exact hb
theorem upd_no {a b : Addr} {o : AObj} (ha : σ b = none) (hab : b ≠ a) : upd σ a o b = none := by rw [upd_ne σ o hab]; exact ha
theorem upd_none {a b : Addr} {o : AObj} (h : upd σ a o b = none) : b ≠ a ∧ σ b = none := by
  by_cases e : b = a
  · subst e; rw [upd_same] at h; cases h
  · exact ⟨e, by rw [upd_ne σ o e] at h; exact h⟩
theorem upd_old' {a b : Addr} {o x : AObj} (hb : σ b = some x) (hn : b ≠ a) : upd σ a o b = some x := by rw [upd_ne σ o hn]; exact hb
theorem ne_of_fresh {a b : Addr} {x : AObj} (hb : σ b = some x) (hn : σ a = none) : b ≠ a := fun e => by rw [e, hn] at hb; cases hb
theorem CallOK.mono {f : Str} {as : List V} {Q' : V → Hp → Prop} (h : CallOK g d q f as σ Q X) (k : ∀ v σ, Q v σ → Q' v σ) : CallOK g d q f as σ Q' X := ⟨fun A s vs a h1 h2 h3 h4 h5 h6 =>
  codeAny_mono (h.run A s vs a h1 h2 h3 h4 h5 h6) (fun r s' p => match r, p with
    | .ok (.ret v), ⟨V, σ', a, b, c, e⟩ => ⟨V, σ', a, b, c, k _ _ e⟩
    | .error e, p => p)⟩
end
end Mine

set_option linter.all false
set_option maxHeartbeats 1000000
open PySem
namespace Mine
section
variable {g : G} {sc : Scope} {vs : List Str} {d : Nat} {q : Bool} {F : Blk} {ρ : List (Option V)} {σ : Hp} {Q : V → Hp → Prop} {QB : Bool → Hp → Prop} {X : Str → Hp → Prop}

theorem Inv.sub {A env s σ'} (I : Inv g F A env ρ σ s) (k : Sub σ' σ) : Inv g F A env ρ σ' s := I.keep (Step.refl.sub k) (I.sim.sub k)
/-- garbage is forgotten -/
theorem Ev.drop {e : Expr} (h : Ev g F e ρ σ (fun v σ' => ∃ σ'', Sub σ'' σ' ∧ Q v σ'') (fun x σ' => ∃ σ'', Sub σ'' σ' ∧ X x σ'')) : Ev g F e ρ σ Q X := ⟨fun A env s I =>
  wpAny_mono (h.run A env s I) (fun _ _ ⟨V, σ', r, i, y, σ'', k, q⟩ => ⟨V, σ'', r, i.sub k, y.sub k, q⟩) fun _ _ ⟨x, σ', f, i, y, σ'', k, q⟩ => ⟨x, σ'', f, i.sub k, y.sub k, q⟩⟩
theorem Ev.xmono {e : Expr} {X' : Str → Hp → Prop} (h : Ev g F e ρ σ Q X) (k : ∀ v σ, X v σ → X' v σ) : Ev g F e ρ σ Q X' := ⟨fun A env s I =>
  wpAny_mono (h.run A env s I) (fun _ _ p => p) (fun _ _ ⟨V, σ', r, i, y, q⟩ => ⟨V, σ', r, i, y, k _ _ q⟩)⟩
theorem Exs.drop {ss : List Stmt} {Q : SPost} {X : XPost} (h : Exs g F ss ρ σ (fun v ρ' σ' => ∃ σ'', Sub σ'' σ' ∧ Q v ρ' σ'') X) : Exs g F ss ρ σ Q X := ⟨fun A env s I =>
  wpAny_mono (h.run A env s I) (fun _ _ ⟨V, ρ', σ', r, i, y, σ'', k, q⟩ => ⟨V, ρ', σ'', r, i.sub k, y.sub k, q⟩) fun _ _ p => p⟩
theorem Ex.drop {ss : Stmt} {Q : SPost} {X : XPost} (h : Ex g F ss ρ σ (fun v ρ' σ' => ∃ σ'', Sub σ'' σ' ∧ Q v ρ' σ'') X) : Ex g F ss ρ σ Q X := ⟨fun A env s I =>
  wpAny_mono (h.run A env s I) (fun _ _ ⟨V, ρ', σ', r, i, y, σ'', k, q⟩ => ⟨V, ρ', σ'', r, i.sub k, y.sub k, q⟩) fun _ _ p => p⟩
theorem sub_upd_upd {σ σ' : Hp} {a : Addr} {o : AObj} (k : Sub σ' σ) : Sub (upd σ' a o) (upd σ a o) := fun b o' e => by
  unfold upd at e ⊢
  split at e
  · rw [if_pos ‹_›]; exact e
  · rw [if_neg ‹_›]; exact k b o' e
theorem frame_step {own : Addr → Prop} {σ' : Hp} {s s' : Shared} {a : Addr} {o : AObj} (st : Step own σ σ' s s') : Step own (upd σ a o) (upd σ' a o) s s' :=
  ⟨st.same, st.dom, fun b ob hb hσ ho => st.keep b ob hb (upd_none hσ).2 ho, st.tups, fun b ob hb hσ => by
    obtain ⟨h1, h2⟩ := upd_none hσ
    rw [upd_ne _ _ h1]; exact st.new b ob hb h2⟩
theorem frame_inv {A env s σ' s'} {a : Addr} {o : AObj} (I : Inv g F A env ρ (upd σ a o) s) (I' : Inv g F A env ρ σ' s') (st : Step nobody σ σ' s s') (ha : σ a = none) : Inv g F A env ρ (upd σ' a o) s' ∧ σ' a = none := by
  obtain ⟨r, hb⟩ := I.sim.objs a o (upd_same _ _ _)
  cases o with
  | dict l => exact r.elim
  | lst l =>
    obtain ⟨us, ⟨n, ho⟩, rl⟩ := r
    have hn : σ' a = none := st.new a _ ho ha
    have hk : s'.heap.get? a = some _ := (st.keep a _ ho ha id).elim id (fun ⟨⟨_, _, e⟩, _⟩ => by cases e)
    refine ⟨I.keep (frame_step st) ⟨I'.sim.stays, fun b o' e => ?_⟩, hn⟩
    by_cases hba : b = a
    · subst hba
      rw [upd_same] at e; cases e
      exact ⟨⟨us, ⟨n, hk⟩, rl.mono st.tups⟩, hb⟩
    · rw [upd_ne _ _ hba] at e
      exact I'.sim.objs b o' e
/-- the frame rule, for one thing that was made since -/
theorem Ev.frame {e : Expr} {a : Addr} {o : AObj} (h : Ev g F e ρ σ Q X) (ha : σ a = none) : Ev g F e ρ (upd σ a o) (fun v σ₂ => ∃ σ', σ₂ = upd σ' a o ∧ σ' a = none ∧ Q v σ') (fun v σ₂ => ∃ σ', σ₂ = upd σ' a o ∧ σ' a = none ∧ X v σ') := ⟨fun A env s I => by
  have I₀ := I.sub (Sub.upd (o := o) ha)
  refine wpAny_mono (h.run A env s I₀) (fun v s' ⟨V, σ', r, I', st, q⟩ => ?_) fun v s' ⟨V, σ', r, I', st, q⟩ => ?_
  · obtain ⟨J, hn⟩ := frame_inv I I' st ha
    exact ⟨V, _, r, J, frame_step st, σ', rfl, hn, q⟩
  · obtain ⟨J, hn⟩ := frame_inv I I' st ha
    exact ⟨V, _, r, J, frame_step st, σ', rfl, hn, q⟩⟩

theorem Evs.mono {es : List Expr} {Q Q' : List V → Hp → Prop} (h : Evs g F es ρ σ Q X) (k : ∀ v σ, Q v σ → Q' v σ) : Evs g F es ρ σ Q' X := ⟨fun A env s pos I =>
  ⟨wpAny_mono (h.run A env s pos I).1 (fun _ _ ⟨V, σ', r, i, y, q⟩ => ⟨V, σ', r, i, y, k _ _ q⟩) fun _ _ p => p, (h.run A env s pos I).2⟩⟩
theorem Evs.xmono {es : List Expr} {Q : List V → Hp → Prop} {X' : Str → Hp → Prop} (h : Evs g F es ρ σ Q X) (k : ∀ v σ, X v σ → X' v σ) : Evs g F es ρ σ Q X' := ⟨fun A env s pos I =>
  ⟨wpAny_mono (h.run A env s pos I).1 (fun _ _ p => p) (fun _ _ ⟨V, σ', r, i, y, q⟩ => ⟨V, σ', r, i, y, k _ _ q⟩), (h.run A env s pos I).2⟩⟩
/-- one of a list written out: the list is forgotten -/
theorem u_pick {es : List Expr} {idx : Expr} {p pos : Pos} (h : Evs g F es ρ σ (fun vs σ₁ => vs.length ≤ sizeLine ∧ Ev g F idx ρ σ₁ (fun k σ₂ => ∃ n x, k = .int n ∧ 0 ≤ n ∧ n < 2 ^ 63 ∧ vs[n.toNat]? = some x ∧ Q x σ₂) X) X)
    (hs : ∀ o i, subscripted idx false o i = operate [o, i] (getItem o i) := by intros; rfl) : Ev g F (.Subscript (.List es p) idx pos) ρ σ Q X := by
  refine Ev.drop (ev_item (ev_list ((h.xmono fun x σ h => ⟨σ, Sub.refl _, h⟩).mono fun vs σ₁ ⟨hl, hi⟩ => ⟨hl, fun a ha => ?_⟩)) hs)
  refine ((Ev.frame hi ha).mono ?_).xmono ?_
  · rintro k σ₂ ⟨σ', rfl, hn, n, x, rfl, h0, h1, hx, hq⟩
    exact itm_lst (upd_same _ _ _) h0 h1 hx ⟨σ', Sub.upd hn, hq⟩
  · rintro x σ₂ ⟨σ', rfl, hn, hq⟩
    exact ⟨σ', Sub.upd hn, hq⟩
theorem isi_ref {a : Addr} {l : List V} (h : σ a = some (.lst l)) {t : String} (ht : t = "bool" ∨ t = "int" ∨ t = "str" ∨ t = "tuple") : isi σ (.ref a) t = some false := by
  rcases ht with rfl | rfl | rfl | rfl <;> simp [isi, h]
theorem isi_refl {a : Addr} {l : List V} (h : σ a = some (.lst l)) : isi σ (.ref a) "list" = some true := by
  simp [isi, h]
theorem forQ_next {Q : SPost} {J : List V → List (Option V) → Hp → Prop} {l : List V} (h : J l ρ σ) : forQ Q J l .next ρ σ := h
theorem forQ_ret {Q : SPost} {J : List V → List (Option V) → Hp → Prop} {l : List V} {v : V} (h : Q (.ret v) ρ σ) : forQ Q J l (.ret v) ρ σ := h
theorem forQ_brk {Q : SPost} {J : List V → List (Option V) → Hp → Prop} {l : List V} (h : Q .next ρ σ) : forQ Q J l .brk ρ σ := h
theorem forQ_cont {Q : SPost} {J : List V → List (Option V) → Hp → Prop} {l : List V} (h : J l ρ σ) : forQ Q J l .cont ρ σ := h
end
end Mine

set_option linter.all false
set_option maxHeartbeats 1000000
open PySem
namespace Mine
section
variable {g : G} {sc : Scope} {vs : List Str} {d : Nat} {F : Blk} {ρ : List (Option V)} {σ : Hp} {Q : V → Hp → Prop} {QB : Bool → Hp → Prop} {X : Str → Hp → Prop}

def ok60 (a : Int) : Prop := -(2 ^ 60) ≤ a ∧ a ≤ 2 ^ 60
theorem small_of {a b : Int} (ha : ok60 a) (hb : ok60 b) : Builtin.Range.small a b 1 = true := by
  unfold ok60 at *
  unfold Builtin.Range.small Builtin.Range.rangeSize Builtin.Range.rangeFitsLong
  simp
  split
  · refine ⟨⟨⟨?_, ?_⟩, ?_⟩, ?_⟩ <;> omega
  · refine ⟨⟨⟨?_, ?_⟩, ?_⟩, ?_⟩ <;> omega
theorem rangeSize_1 (a b : Int) : (Builtin.Range.rangeSize a b 1).toNat = (b - a).toNat := by
  unfold Builtin.Range.rangeSize
  simp
  split <;> omega
theorem ints_drop {a : Int} {n i : Nat} (h : i < n) : (rngL a 1 n).drop i = .int (a + i) :: (rngL a 1 n).drop (i + 1) := by
  have hl : i < (rngL a 1 n).length := by rw [ints_length]; exact h
  rw [List.drop_eq_getElem_cons hl]
  congr 1
  simp [rngL]
theorem ints_drop_cons {a : Int} {n i : Nat} {v : V} {l : List V} (h : v :: l = (rngL a 1 n).drop i) : i < n ∧ v = .int (a + i) ∧ l = (rngL a 1 n).drop (i + 1) := by
  by_cases hi : i < n
  · rw [ints_drop hi] at h
    cases h
    exact ⟨hi, rfl, rfl⟩
  · rw [List.drop_eq_nil_of_le (by rw [ints_length]; omega)] at h; cases h
theorem ints_drop_nil {a : Int} {n i : Nat} (hi : i ≤ n) (h : [] = (rngL a 1 n).drop i) : i = n := by
  have := congrArg List.length h
  simp [ints_length] at this; omega

def rngQ (Q : SPost) (J : Nat → List (Option V) → Hp → Prop) (i : Nat) : SPost := fun f ρ σ => match f with
  | .next => J (i + 1) ρ σ
  | .cont => J (i + 1) ρ σ
  | .brk => Q .next ρ σ
  | .ret v => Q (.ret v) ρ σ
theorem rngQ_next {Q : SPost} {J : Nat → List (Option V) → Hp → Prop} {l : Nat} (h : J (l + 1) ρ σ) : rngQ Q J l .next ρ σ := h
theorem rngQ_ret {Q : SPost} {J : Nat → List (Option V) → Hp → Prop} {l : Nat} {v : V} (h : Q (.ret v) ρ σ) : rngQ Q J l (.ret v) ρ σ := h
theorem rngQ_brk {Q : SPost} {J : Nat → List (Option V) → Hp → Prop} {l : Nat} (h : Q .next ρ σ) : rngQ Q J l .brk ρ σ := h
theorem rngQ_cont {Q : SPost} {J : Nat → List (Option V) → Hp → Prop} {l : Nat} (h : J (l + 1) ρ σ) : rngQ Q J l .cont ρ σ := h

theorem u_for_rng {QS : SPost} {XS : XPost} {t iter : Expr} {body : List Stmt} {pos : Pos} (J : Nat → List (Option V) → Hp → Prop)
    (h : Rng g ⟨sc, vs, d, true⟩ iter ρ σ (fun a b c σ₁ => c = 1 ∧ ok60 a ∧ ok60 b ∧ J 0 ρ σ₁ ∧ (∀ (i : Nat) ρ' σ', a + i < b → J i ρ' σ' → Asg g ⟨sc, vs, d, true⟩ t (.int (a + i)) ρ' σ' (fun ρ'' => Exs g ⟨sc, vs, d, true⟩ body ρ'' σ' (rngQ QS J i) XS)) ∧ ∀ ρ' σ', J (b - a).toNat ρ' σ' → QS .next ρ' σ') (fun x σ₁ => XS x ρ σ₁))
    (hf : ∀ env x, foldedSetIterable iter env x = pure x := by intros; rfl) : Ex g ⟨sc, vs, d, true⟩ (.For t iter body [] pos) ρ σ QS XS := by
  have h' : Itr g ⟨sc, vs, d, true⟩ iter ρ σ (fun L K σ₁ => ∃ (a b : Int) (n : Nat), n = (b - a).toNat ∧ L = rngL a 1 n ∧ K = (fun _ => True) ∧ J 0 ρ σ₁ ∧ (∀ (i : Nat) ρ' σ', a + i < b → J i ρ' σ' → Asg g ⟨sc, vs, d, true⟩ t (.int (a + i)) ρ' σ' (fun ρ'' => Exs g ⟨sc, vs, d, true⟩ body ρ'' σ' (rngQ QS J i) XS)) ∧ ∀ ρ' σ', J (b - a).toNat ρ' σ' → QS .next ρ' σ') (fun x σ₁ => XS x ρ σ₁) := by
    refine itr_rng ⟨fun A env s I => wpAny_mono (h.run A env s I) (fun x s₁ ⟨r, a, b, c, t, u, v, σ', h1, h2, h3, h4, hc, ha, hb, h5⟩ => ⟨r, a, b, c, t, u, v, σ', h1, h2, h3, h4, ?_, ?_⟩) fun _ _ p => p⟩ hf
    · subst hc; exact small_of ha hb
    · subst hc; exact ⟨a, b, _, rfl, by rw [rangeSize_1], rfl, h5⟩
  refine ⟨fun A env s I => ?_⟩
  have hh := I.quiet rfl
  -- the list's own invariant
  refine (u_for (fun l ρ' σ' => ∃ (a b : Int) (i : Nat), i ≤ (b - a).toNat ∧ l = (rngL a 1 (b - a).toNat).drop i ∧ J i ρ' σ' ∧ (∀ (i : Nat) ρ' σ', a + i < b → J i ρ' σ' → Asg g ⟨sc, vs, d, true⟩ t (.int (a + i)) ρ' σ' (fun ρ'' => Exs g ⟨sc, vs, d, true⟩ body ρ'' σ' (rngQ QS J i) XS)) ∧ ∀ ρ' σ', J (b - a).toNat ρ' σ' → QS .next ρ' σ') ⟨fun A env s I hh => wpAny_mono (h'.run A env s I hh) (fun x s₁ h₁ => wpAny_mono h₁ (fun it s₂ ⟨It, L, K, St, σ', e1, e2, e3, e4, e5, e6, e7, a, b, n, hn, hL, hK, hJ, ht, he⟩ => ⟨It, L, K, St, σ', e1, e2, e3, e4, e5, e6, e7, ?_, ?_, ?_⟩) fun _ _ p => p) fun _ _ p => p, hf⟩).run A env s I
  · subst hn; exact ⟨a, b, 0, Nat.zero_le _, by simpa using hL, hJ, ht, he⟩
  · rintro v l ρ' σ'' ⟨a', b', i, hi, hl, hJ', ht', he'⟩
    subst hK
    obtain ⟨h1, rfl, rfl⟩ := ints_drop_cons hl
    have asg := ht' i ρ' σ'' (by omega) hJ'
    refine ⟨trivial, ⟨fun A env s x QU E I hh r k => asg.run A env s x QU E I hh r fun s' ρ'' I' st hex => k s' ρ'' I' st (hex.mono fun f ρ₃ σ₃ hq => ?_), asg.tgt⟩⟩
    cases f with
    | next => exact ⟨a', b', i + 1, by omega, rfl, hq, ht', he'⟩
    | cont => exact ⟨a', b', i + 1, by omega, rfl, hq, ht', he'⟩
    | brk => exact hq
    | ret v => exact hq
  · rintro ρ' σ'' ⟨a', b', i, hi, hl, hJ', ht', he'⟩
    subst hK
    have := ints_drop_nil hi hl
    subst this
    exact ⟨trivial, he' _ _ hJ'⟩

theorem Cond.mono {ifs : List Expr} {Q Q' : Bool → Hp → Prop} (h : Cond g F ifs ρ σ Q) (k : ∀ v σ, Q v σ → Q' v σ) : Cond g F ifs ρ σ Q' := ⟨fun A env s E I =>
  wpAny_mono (h.run A env s E I) (fun _ _ ⟨σ', i, y, q⟩ => ⟨σ', i, y, k _ _ q⟩) fun _ _ p => p⟩
theorem u_comp_rng {elt iter : Expr} {x : Str} {px pos : Pos} {ifs : List Expr} {scope : Scope} (fr : List Str) {ws : List (Option V)} (ok : cOk sc scope x fr = true) (hsel : Sel vs ρ fr ws) (a b : Int) (J : Nat → List V → Hp → Prop)
    (h : Rng g ⟨sc, vs, d, true⟩ iter ρ σ (fun a' b' c' σ₁ => a' = a ∧ b' = b ∧ c' = 1 ∧ ok60 a ∧ ok60 b ∧ (b - a).toNat ≤ sizeLine ∧ J 0 [] σ₁) X)
    (hturn : ∀ (i : Nat) acc σ', a + i < b → J i acc σ' → Cond g ⟨rl scope sc, x :: fr, d, true⟩ ifs (some (.int (a + i)) :: ws) σ' (fun t σ₂ => (t = true → Ev g ⟨rl scope sc, x :: fr, d, true⟩ elt (some (.int (a + i)) :: ws) σ₂ (fun y σ₃ => J (i + 1) (acc ++ [y]) σ₃) noX) ∧ (t = false → J (i + 1) acc σ₂)))
    (hQ : ∀ acc σ' c, J (b - a).toNat acc σ' → σ' c = none → Q (.ref c) (upd σ' c (.lst acc)))
    (hf : ∀ env x, foldedSetIterable iter env x = pure x := by intros; rfl) :
    Ev g ⟨sc, vs, d, true⟩ (.ListComp elt [⟨.Name x px, iter, ifs, 0⟩] scope pos) ρ σ Q X := by
  refine u_comp fr ok hsel (fun l acc σ' => ∃ i, i ≤ (b - a).toNat ∧ l = (rngL a 1 (b - a).toNat).drop i ∧ J i acc σ') (itr_rng ⟨fun A env s I => wpAny_mono (h.run A env s I) (fun x s₁ ⟨r, a', b', c', t, u, v, σ', h1, h2, h3, h4, ha', hb', hc, ha, hb, hz, h5⟩ => ⟨r, a', b', c', t, u, v, σ', h1, h2, h3, h4, ?_, ?_⟩) fun _ _ p => p⟩ hf) ?_
  · subst ha' hb' hc; exact small_of ha hb
  · subst ha' hb' hc
    rw [rangeSize_1]
    refine ⟨by rw [ints_length]; exact hz, ⟨0, Nat.zero_le _, by simp, h5⟩, ?_, fun _ _ _ => trivial⟩
    rintro v l acc σ'' ⟨i, hi, hl, hJ⟩
    obtain ⟨h1, rfl, rfl⟩ := ints_drop_cons hl
    refine ⟨trivial, ?_⟩
    have := hturn i acc σ'' (by omega) hJ
    refine Cond.mono this ?_
    rintro t σ₂ ⟨p, q⟩
    exact ⟨fun e => (p e).mono fun y σ₃ hy => ⟨i + 1, by omega, rfl, hy⟩, fun e => ⟨i + 1, by omega, rfl, q e⟩⟩
  · rintro acc σ' c ⟨i, hi, hl, hJ⟩ hn
    have := ints_drop_nil hi hl
    subst this
    exact hQ _ _ _ hJ hn
end
end Mine

set_option linter.all false
set_option maxHeartbeats 1000000
open PySem
namespace Mine
section
variable {g : G} {sc : Scope} {vs : List Str} {d : Nat} {q : Bool} {F : Blk} {ρ : List (Option V)} {σ : Hp} {Q : V → Hp → Prop} {QB : Bool → Hp → Prop} {X : Str → Hp → Prop}

def cutQ (Mid : List (Option V) → Hp → Prop) (QS : SPost) : SPost := fun f ρ' σ' => match f with | .next => Mid ρ' σ' | .ret v => QS (.ret v) ρ' σ' | .brk => QS .brk ρ' σ' | .cont => QS .cont ρ' σ'
theorem cutQ_next {Mid : List (Option V) → Hp → Prop} {QS : SPost} (h : Mid ρ σ) : cutQ Mid QS .next ρ σ := h
theorem cutQ_ret {Mid : List (Option V) → Hp → Prop} {QS : SPost} {v : V} (h : QS (.ret v) ρ σ) : cutQ Mid QS (.ret v) ρ σ := h
theorem cutQ_brk {Mid : List (Option V) → Hp → Prop} {QS : SPost} (h : QS .brk ρ σ) : cutQ Mid QS .brk ρ σ := h
theorem cutQ_cont {Mid : List (Option V) → Hp → Prop} {QS : SPost} (h : QS .cont ρ σ) : cutQ Mid QS .cont ρ σ := h
theorem k_new {P : Addr → Prop} (h : ∀ a, σ a = none → P a) : ∀ a, σ a = none → P a := h
theorem k_meth {o : Expr} {x : Str} {ap p : Pos} {es : List Expr} (h : Ev g F (.Call (.Attribute o x ap) es [] p) ρ σ Q X) : Ev g F (.Call (.Attribute o x ap) es [] p) ρ σ Q X := h
theorem u_append {a : Addr} {l : List V} {v : V} (hz : l.length ≤ 10000) (h : Q .none (upd σ a (.lst (l ++ [v])))) : Cl g F (.builtin "list.append") [.ref a, v] ρ (upd σ a (.lst l)) Q X :=
  cl_append (upd_same _ _ _) (Nat.le_trans hz (by decide)) (by rw [upd_upd]; exact h)
theorem u_tuple_lst {a : Addr} {l : List V} (hσ : σ a = some (.lst l)) (hz : l.length ≤ 10000) (h : Q (.tup l) σ) : Cl g F (.type "tuple") [.ref a] ρ σ Q X := cl_tuple_lst hσ (Nat.le_trans hz (by decide)) h
theorem u_list_tup {l : List V} (hz : l.length ≤ 10000) (h : ∀ b, σ b = none → Q (.ref b) (upd σ b (.lst l))) : Cl g F (.type "list") [.tup l] ρ σ Q X := cl_list_tup (Nat.le_trans hz (by decide)) h
theorem u_list_lst {a : Addr} {l : List V} (hσ : σ a = some (.lst l)) (hz : l.length ≤ 10000) (h : ∀ b, σ b = none → Q (.ref b) (upd σ b (.lst l))) : Cl g F (.type "list") [.ref a] ρ σ Q X := cl_list_lst hσ (Nat.le_trans hz (by decide)) h
/-- a cut between two statements -/
theorem exs_cut {st : Stmt} {rest : List Stmt} {QS : SPost} {XS : XPost} (Mid : List (Option V) → Hp → Prop) (h : Ex g F st ρ σ (cutQ Mid QS) XS)
    (k : ∀ ρ' σ', Mid ρ' σ' → Exs g F rest ρ' σ' QS XS) : Exs g F (st :: rest) ρ σ QS XS := exs_cons ⟨fun A env s I => wpAny_mono (h.run A env s I) (fun f s' ⟨f', ρ', σ', a, b, c, e⟩ => ⟨f', ρ', σ', a, b, c, by
  cases f' with
  | next => exact k _ _ e
  | ret v => exact e
  | brk => exact e
  | cont => exact e⟩) fun _ _ p => p⟩

def AllAt (P : Nat → V → Prop) : Nat → List V → Prop
  | _, [] => True
  | i, x :: xs => P i x ∧ AllAt P (i + 1) xs
theorem AllAt.get {P : Nat → V → Prop} : ∀ {l : List V} {k i : Nat} {x : V}, AllAt P k l → l[i]? = some x → P (k + i) x
  | y :: ys, k, 0, x, h, e => by
    have : y = x := by simpa using e
    subst this; exact h.1
  | y :: ys, k, i + 1, x, h, e => by
    have := AllAt.get (l := ys) (k := k + 1) (i := i) h.2 (by simpa using e)
    rw [show k + (i + 1) = k + 1 + i by omega]; exact this
  | [], _, _, _, _, e => by simp at e
theorem allAt_nil {P : Nat → V → Prop} {i : Nat} : AllAt P i [] := trivial
theorem allAt_cons {P : Nat → V → Prop} {i : Nat} {x : V} {xs : List V} (h : P i x) (t : AllAt P (i + 1) xs) : AllAt P i (x :: xs) := ⟨h, t⟩
/-- one of a written-out list, by cases -/
theorem pk_cases {vs : List V} {n : Int} {P : V → Prop} (h0 : 0 ≤ n) (h1 : n < vs.length) (hz : n < 2 ^ 63) (h : AllAt (fun i x => n = (i : Nat) → P x) 0 vs) : ∃ m x, V.int n = .int m ∧ 0 ≤ m ∧ m < 2 ^ 63 ∧ vs[m.toNat]? = some x ∧ P x := by
  have hl : n.toNat < vs.length := by omega
  refine ⟨n, vs[n.toNat], rfl, h0, hz, List.getElem?_eq_getElem hl, ?_⟩
  have := h.get (List.getElem?_eq_getElem hl)
  exact this (by omega)
/-- ... all alike -/
theorem pk_all (P : V → Prop) {vs : List V} {n : Int} {P' : V → Prop} (h0 : 0 ≤ n) (h1 : n < vs.length) (hz : n < 2 ^ 63) (hP : ∀ x ∈ vs, P x) (h : ∀ x, P x → P' x) : ∃ m x, V.int n = .int m ∧ 0 ≤ m ∧ m < 2 ^ 63 ∧ vs[m.toNat]? = some x ∧ P' x := by
  have hl : n.toNat < vs.length := by omega
  exact ⟨n, vs[n.toNat], rfl, h0, hz, List.getElem?_eq_getElem hl, h _ (hP _ (List.getElem_mem hl))⟩
theorem k_ev {e : Expr} (h : Ev g F e ρ σ Q X) : Ev g F e ρ σ Q X := h
theorem k_name {x : Str} {p : Pos} (h : Ev g F (.Name x p) ρ σ Q X) : Ev g F (.Name x p) ρ σ Q X := h
theorem k_sub {a b : Expr} {p : Pos} (h : Ev g F (.Subscript a b p) ρ σ Q X) : Ev g F (.Subscript a b p) ρ σ Q X := h
theorem k_callx {f : Expr} {es : List Expr} {ks : List Keyword} {p : Pos} (h : Ev g F (.Call f es ks p) ρ σ Q X) : Ev g F (.Call f es ks p) ρ σ Q X := h
theorem k_cmp {a : Expr} {os : List CmpOp} {es : List Expr} {p : Pos} (h : Ev g F (.Compare a os es p) ρ σ Q X) : Ev g F (.Compare a os es p) ρ σ Q X := h
theorem k_asg {t : List Expr} {e : Expr} {p : Pos} {QS : SPost} {XS : XPost} (h : Ex g F (.Assign t e p) ρ σ QS XS) : Ex g F (.Assign t e p) ρ σ QS XS := h
theorem k_expr {e : Expr} {p : Pos} {QS : SPost} {XS : XPost} (h : Ex g F (.Expr e p) ρ σ QS XS) : Ex g F (.Expr e p) ρ σ QS XS := h
theorem k_tcmp {a : Expr} {os : List CmpOp} {es : List Expr} {p : Pos} (h : Tst g F (.Compare a os es p) ρ σ QB X) : Tst g F (.Compare a os es p) ρ σ QB X := h
theorem k_mod {a b : Int} (h : Op2 g F (binaryOp .Mod) (.int a) (.int b) ρ σ Q X) : Op2 g F (binaryOp .Mod) (.int a) (.int b) ρ σ Q X := h
theorem k_div {a b : Int} (h : Op2 g F (binaryOp .FloorDiv) (.int a) (.int b) ρ σ Q X) : Op2 g F (binaryOp .FloorDiv) (.int a) (.int b) ρ σ Q X := h
theorem k_mul {a b : Int} (h : Op2 g F (binaryOp .Mult) (.int a) (.int b) ρ σ Q X) : Op2 g F (binaryOp .Mult) (.int a) (.int b) ρ σ Q X := h
theorem k_evs_cons {e : Expr} {es : List Expr} {QL : List V → Hp → Prop} (h : Evs g F (e :: es) ρ σ QL X) : Evs g F (e :: es) ρ σ QL X := h
theorem k_size {l : List V} {n : Nat} {A : Prop} (h : l.length ≤ n ∧ A) : l.length ≤ n ∧ A := h
theorem k_op2 {t : Value → Value → Sem Value} {a b : V} (h : Op2 g F t a b ρ σ Q X) : Op2 g F t a b ρ σ Q X := h
theorem k_evs {es : List Expr} {QL : List V → Hp → Prop} (h : Evs g F es ρ σ QL X) : Evs g F es ρ σ QL X := h
theorem k_ex {s : Stmt} {QS : SPost} {XS : XPost} (h : Ex g F s ρ σ QS XS) : Ex g F s ρ σ QS XS := h
theorem k_seq {r : List Stmt} {QS : SPost} {XS : XPost} {f : Flo} (h : seqQ g F r QS XS f ρ σ) : seqQ g F r QS XS f ρ σ := h
theorem k_tst {e : Expr} (h : Tst g F e ρ σ QB X) : Tst g F e ρ σ QB X := h
theorem k_itm {a b : V} (h : Itm g F a b ρ σ Q X) : Itm g F a b ρ σ Q X := h
theorem k_and {b c d e : Bool} {A B : Prop} (h : (b = c → A) ∧ (d = e → B)) : (b = c → A) ∧ (d = e → B) := h
theorem k_call {f : Str} {as : List V} (h : CallOK g d q f as σ Q X) : CallOK g d q f as σ Q X := h
theorem k_cl {f : Value} {as : List V} (h : Cl g F f as ρ σ Q X) : Cl g F f as ρ σ Q X := h
theorem k_exi {α : Type} {P : α → Prop} (h : Exists P) : Exists P := h
theorem seqIndex_nn {k : Int} {n : Nat} (h0 : 0 ≤ k) (h1 : k < n) : seqIndex? k n = some k.toNat := by
  unfold seqIndex?
  simp [Int.not_lt.mpr h0]
  omega
theorem itm_at {l : List V} {k : Int} (h0 : 0 ≤ k) (h1 : k < l.length) (hz : k < 2 ^ 63) (h : ∀ x, l[k.toNat]? = some x → Q x σ) : Itm g F (.tup l) (.int k) ρ σ Q X := by
  have hl : k.toNat < l.length := by omega
  exact itm_tup (by omega) hz (seqIndex_nn h0 h1) (List.getElem?_eq_getElem hl) (h _ (List.getElem?_eq_getElem hl))
theorem itm_lat {a : Addr} {l : List V} {k : Int} (hσ : σ a = some (.lst l)) (h0 : 0 ≤ k) (h1 : k < l.length) (hz : k < 2 ^ 63) (h : ∀ x, l[k.toNat]? = some x → Q x σ) : Itm g F (.ref a) (.int k) ρ σ Q X := by
  have hl : k.toNat < l.length := by omega
  exact itm_lst hσ h0 hz (List.getElem?_eq_getElem hl) (h _ (List.getElem?_eq_getElem hl))
theorem itm_lcases {a : Addr} {l : List V} {k : Int} (hσ : σ a = some (.lst l)) (h0 : 0 ≤ k) (h1 : k < l.length) (hz : k < 2 ^ 63) (h : AllAt (fun i x => k = (i : Nat) → Q x σ) 0 l) : Itm g F (.ref a) (.int k) ρ σ Q X :=
  itm_lat hσ h0 h1 hz fun x e => (h.get e) (by omega)
theorem slc_take {α : Type} {l : List α} {j : Int} (h0 : 0 ≤ j) : slc none (some j) l = l.take j.toNat := by
  unfold slc clipAt
  simp
  rw [if_neg (by omega)]
  omega
theorem slc_drop {α : Type} {l : List α} {j : Int} (h0 : 0 ≤ j) : slc (some j) none l = l.drop j.toNat := by
  unfold slc clipAt
  simp
  rw [if_neg (by omega)]
  by_cases h : j.toNat ≤ l.length
  · rw [show (max 0 (min j (l.length : Int))).toNat = j.toNat by omega]
    rw [List.take_of_length_le]; rw [List.length_drop]; omega
  · rw [show (max 0 (min j (l.length : Int))).toNat = l.length by omega, List.drop_of_length_le (Nat.le_refl _), List.drop_of_length_le (by omega)]; simp
theorem u_slc_tup {l : List V} {lo hi : Option Int} (hz : l.length ≤ 10000) (h : Q (.tup (slc lo hi l)) σ) : Slc g F (.tup l) lo hi ρ σ Q X := slc_tup (Nat.le_trans hz (by decide)) h
theorem opt_both {u v : V} {k l : Option Int} {P : Option Int → Option Int → Prop} (hu : OptInt u k) (hv : OptInt v l) (h : P k l) : ∃ k l, OptInt u k ∧ OptInt v l ∧ P k l := ⟨k, l, hu, hv, h⟩
theorem allAt_append {P : Nat → V → Prop} : ∀ {l k : List V} {i : Nat}, AllAt P i l → AllAt P (i + l.length) k → AllAt P i (l ++ k)
  | [], _, _, _, h => h
  | x :: xs, k, i, h, h' => ⟨h.1, allAt_append h.2 (by rw [show i + 1 + xs.length = i + (x :: xs).length by simp; omega]; exact h')⟩
theorem u_comp_rng0 {elt iter : Expr} {x : Str} {px pos : Pos} {ifs : List Expr} {scope : Scope} (fr : List Str) {ws : List (Option V)} (ok : cOk sc scope x fr = true) (hsel : Sel vs ρ fr ws) (a b : Int) (J : Nat → List V → Prop)
    (h : Rng g ⟨sc, vs, d, true⟩ iter ρ σ (fun a' b' c' σ₁ => a' = a ∧ b' = b ∧ c' = 1 ∧ ok60 a ∧ ok60 b ∧ (b - a).toNat ≤ 10000 ∧ σ = σ₁ ∧ J 0 []) X)
    (hturn : ∀ (i : Nat) acc, a + i < b → J i acc → Cond g ⟨rl scope sc, x :: fr, d, true⟩ ifs (some (.int (a + i)) :: ws) σ (fun t σ₂ => (t = true → Ev g ⟨rl scope sc, x :: fr, d, true⟩ elt (some (.int (a + i)) :: ws) σ₂ (fun y σ₃ => σ = σ₃ ∧ J (i + 1) (acc ++ [y])) noX) ∧ (t = false → σ = σ₂ ∧ J (i + 1) acc)))
    (hQ : ∀ acc c, J (b - a).toNat acc → σ c = none → Q (.ref c) (upd σ c (.lst acc)))
    (hf : ∀ env x, foldedSetIterable iter env x = pure x := by intros; rfl) :
    Ev g ⟨sc, vs, d, true⟩ (.ListComp elt [⟨.Name x px, iter, ifs, 0⟩] scope pos) ρ σ Q X := by
  refine u_comp_rng fr ok hsel a b (fun i acc σ' => σ = σ' ∧ J i acc) ⟨fun A env s I => wpAny_mono (h.run A env s I) (fun x s₁ ⟨r, a', b', c', t, u, v, σ', h1, h2, h3, h4, ha', hb', hc, ha, hb, hz, h5⟩ => ⟨r, a', b', c', t, u, v, σ', h1, h2, h3, h4, ha', hb', hc, ha, hb, Nat.le_trans hz (by decide), h5⟩) fun _ _ p => p⟩ ?_ ?_ hf
  · rintro i acc _ hi ⟨rfl, hj⟩; exact hturn i acc hi hj
  · rintro acc _ c ⟨rfl, hj⟩ hn; exact hQ acc c hj hn
theorem frame_inv' {A env s σ' s'} {a : Addr} {o : AObj} {ρ' : List (Option V)} (I : Inv g F A env ρ (upd σ a o) s) (I' : Inv g F A env ρ' σ' s') (st : Step (ownOf env) σ σ' s s') (ha : σ a = none) : Inv g F A env ρ' (upd σ' a o) s' ∧ σ' a = none := by
  obtain ⟨r, hb⟩ := I.sim.objs a o (upd_same _ _ _)
  have hown : ¬ ownOf env a := fun q => by have := I.loc.free a q; rw [upd_same] at this; cases this
  cases o with
  | dict l => exact r.elim
  | lst l =>
    obtain ⟨us, ⟨n, ho⟩, rl⟩ := r
    have hn : σ' a = none := st.new a _ ho ha
    have hk : s'.heap.get? a = some _ := (st.keep a _ ho ha hown).elim id (fun ⟨⟨_, _, e⟩, _⟩ => by cases e)
    refine ⟨⟨I'.scope, I'.fn, I'.glob, I'.bltn, I'.room, I'.units, I'.quiet, ⟨I'.sim.stays, fun b o' e => ?_⟩, ⟨I'.loc.len, I'.loc.ns, fun b hb' => ?_, I'.loc.live, I'.loc.apart, I'.loc.other⟩, I'.base, I'.nd⟩, hn⟩
    · by_cases hba : b = a
      · subst hba
        rw [upd_same] at e; cases e
        exact ⟨⟨us, ⟨n, hk⟩, rl.mono st.tups⟩, hb⟩
      · rw [upd_ne _ _ hba] at e
        exact I'.sim.objs b o' e
    · rw [upd_ne _ _ (fun (e : b = a) => hown (by rw [← e]; exact hb'))]; exact I'.loc.free b hb'
theorem Exs.frame {ss : List Stmt} {QS : SPost} {XS : XPost} {a : Addr} {o : AObj} (h : Exs g F ss ρ σ QS XS) (ha : σ a = none) : Exs g F ss ρ (upd σ a o) (fun f ρ' σ₂ => ∃ σ', σ₂ = upd σ' a o ∧ σ' a = none ∧ QS f ρ' σ') (fun f ρ' σ₂ => ∃ σ', σ₂ = upd σ' a o ∧ σ' a = none ∧ XS f ρ' σ') := ⟨fun A env s I => by
  have I₀ := I.sub (Sub.upd (o := o) ha)
  refine wpAny_mono (h.run A env s I₀) (fun v s' ⟨V, ρ', σ', r, I', st, q⟩ => ?_) fun v s' ⟨V, ρ', σ', r, I', st, q⟩ => ?_
  · obtain ⟨J, hn⟩ := frame_inv' I I' st ha
    exact ⟨V, ρ', _, r, J, frame_step st, σ', rfl, hn, q⟩
  · obtain ⟨J, hn⟩ := frame_inv' I I' st ha
    exact ⟨V, ρ', _, r, J, frame_step st, σ', rfl, hn, q⟩⟩
theorem Asg.frame {t : Expr} {v : V} {P : List (Option V) → Prop} {a : Addr} {o : AObj} (h : Asg g F t v ρ σ P) (ha : σ a = none) : Asg g F t v ρ (upd σ a o) P := ⟨fun A env s x QU E I hh r k => by
  refine h.run A env s x QU E (I.sub (Sub.upd (o := o) ha)) hh r fun s' ρ' I' st p => ?_
  exact k s' ρ' (frame_inv' I I' st ha).1 (frame_step st) p, h.tgt⟩
theorem Asg.mono {t : Expr} {v : V} {P P' : List (Option V) → Prop} (h : Asg g F t v ρ σ P) (k : ∀ ρ, P ρ → P' ρ) : Asg g F t v ρ σ P' := ⟨fun A env s x QU E I hh r k' => h.run A env s x QU E I hh r fun s' ρ' I' st p => k' s' ρ' I' st (k _ p), h.tgt⟩
theorem Exs.xmono {ss : List Stmt} {QS : SPost} {XS XS' : XPost} (h : Exs g F ss ρ σ QS XS) (k : ∀ f ρ σ, XS f ρ σ → XS' f ρ σ) : Exs g F ss ρ σ QS XS' := ⟨fun A env s I =>
  wpAny_mono (h.run A env s I) (fun _ _ p => p) fun _ _ ⟨V, ρ', σ', r, i, y, q⟩ => ⟨V, ρ', σ', r, i, y, k _ _ _ q⟩⟩
theorem Ex.xdrop {ss : Stmt} {Q : SPost} {X : XPost} (h : Ex g F ss ρ σ (fun v ρ' σ' => ∃ σ'', Sub σ'' σ' ∧ Q v ρ' σ'') (fun v ρ' σ' => ∃ σ'', Sub σ'' σ' ∧ X v ρ' σ'')) : Ex g F ss ρ σ Q X := ⟨fun A env s I =>
  wpAny_mono (h.run A env s I) (fun _ _ ⟨V, ρ', σ', r, i, y, σ'', k, q⟩ => ⟨V, ρ', σ'', r, i.sub k, y.sub k, q⟩) (fun _ _ ⟨V, ρ', σ', r, i, y, σ'', k, q⟩ => ⟨V, ρ', σ'', r, i.sub k, y.sub k, q⟩)⟩
/-- a loop over a list that nobody else has -/
theorem u_for_tmp {QS : SPost} {XS : XPost} {t iter : Expr} {body : List Stmt} {pos : Pos} (J : List V → List (Option V) → Hp → Prop)
    (h : Ev g ⟨sc, vs, d, true⟩ iter ρ σ (fun v σ₀ => ∃ b L σ₁, v = .ref b ∧ σ₀ = upd σ₁ b (.lst L) ∧ σ₁ b = none ∧ J L ρ σ₁ ∧ (∀ v l ρ' σ', J (v :: l) ρ' σ' → Asg g ⟨sc, vs, d, true⟩ t v ρ' σ' (fun ρ'' => Exs g ⟨sc, vs, d, true⟩ body ρ'' σ' (forQ QS J l) XS)) ∧ ∀ ρ' σ', J [] ρ' σ' → QS .next ρ' σ') (fun x σ₁ => XS x ρ σ₁))
    (hf : ∀ env x, foldedSetIterable iter env x = pure x := by intros; rfl) : Ex g ⟨sc, vs, d, true⟩ (.For t iter body [] pos) ρ σ QS XS := by
  refine Ex.xdrop (ex_forx rfl (itr_lst ((h.xmono fun x σ h => ⟨σ, Sub.refl _, h⟩).mono ?_) hf))
  rintro _ _ ⟨b, L, σ₁, rfl, rfl, hb, hJ, ht, he⟩
  refine ⟨b, L, rfl, upd_same _ _ _, fun l ρ' σ₂ => ∃ σ', σ₂ = upd σ' b (.lst L) ∧ σ' b = none ∧ J l ρ' σ', ⟨σ₁, rfl, hb, hJ⟩, ?_, ?_⟩
  · rintro v l ρ' _ ⟨σ', rfl, hn, hj⟩
    refine ⟨upd_same _ _ _, ((ht v l ρ' σ' hj).frame hn).mono fun ρ'' ex => ?_⟩
    refine ((ex.frame hn).mono ?_).xmono ?_
    · rintro f ρ₃ _ ⟨σ₃, rfl, hn₃, hq⟩
      cases f with
      | next => exact ⟨σ₃, rfl, hn₃, hq⟩
      | cont => exact ⟨σ₃, rfl, hn₃, hq⟩
      | brk => exact ⟨σ₃, Sub.upd hn₃, hq⟩
      | ret v => exact ⟨σ₃, Sub.upd hn₃, hq⟩
    · rintro f ρ₃ _ ⟨σ₃, rfl, hn₃, hq⟩
      exact ⟨σ₃, Sub.upd hn₃, hq⟩
  · rintro ρ' _ ⟨σ', rfl, hn, hj⟩
    exact ⟨upd_same _ _ _, σ', Sub.upd hn, he _ _ hj⟩
theorem sp_var {b : Bool} {A B : Prop} (h1 : b = true → A) (h2 : b = false → B) : (b = true → A) ∧ (b = false → B) := ⟨h1, h2⟩
theorem ret_here {v : V} (h : Q v σ) : ∃ σ'', Sub σ'' σ ∧ Q (retOf (.ret v)) σ'' := ⟨σ, Sub.refl _, h⟩
theorem ret_sub {v : V} {σ' : Hp} (k : Sub σ' σ) (h : Q v σ') : ∃ σ'', Sub σ'' σ ∧ Q (retOf (.ret v)) σ'' := ⟨σ', k, h⟩
theorem ex_both {a : Addr} {l : List V} {P : Addr → List V → Prop} (hσ : σ a = some (.lst l)) (h : P a l) : ∃ b k, V.ref a = .ref b ∧ σ b = some (.lst k) ∧ P b k := ⟨a, l, rfl, hσ, h⟩
theorem add_lst {a b : Addr} {l k : List V} (ha : σ a = some (.lst l)) (hb : σ b = some (.lst k)) (hz : l.length + k.length ≤ 10000) (h : ∀ c, σ c = none → Q (.ref c) (upd σ c (.lst (l ++ k)))) : Op2 g F (binaryOp .Add) (.ref a) (.ref b) ρ σ Q X := bin_add_lst ha hb (Nat.le_trans hz (by decide)) h
theorem add_tup {l k : List V} (hz : l.length + k.length ≤ 10000) (h : Q (.tup (l ++ k)) σ) : Op2 g F (binaryOp .Add) (.tup l) (.tup k) ρ σ Q X := bin_add_tup (Nat.le_trans hz (by decide)) h
theorem k_addr {a b : Addr} (h : Op2 g F (binaryOp .Add) (.ref a) (.ref b) ρ σ Q X) : Op2 g F (binaryOp .Add) (.ref a) (.ref b) ρ σ Q X := h
theorem k_addt {a b : List V} (h : Op2 g F (binaryOp .Add) (.tup a) (.tup b) ρ σ Q X) : Op2 g F (binaryOp .Add) (.tup a) (.tup b) ρ σ Q X := h
theorem size_and {l : List V} {A : Prop} (hl : l.length ≤ 10000) (h : A) : l.length ≤ sizeLine ∧ A := ⟨Nat.le_trans hl (by decide), h⟩
theorem set_0 {a : Addr} {l l' : List V} {v : V} {P : Hp → Prop} {k : Int} (hσ : σ a = some (.lst l)) (h0 : 0 ≤ k) (h1 : k < l.length) (hz : l.length ≤ 10000) (he : l.set k.toNat v = l') (h : P (upd σ a (.lst l'))) :
    ∃ b l n, V.ref a = .ref b ∧ V.int k = .int n ∧ σ b = some (.lst l) ∧ 0 ≤ n ∧ n < l.length ∧ (l.length : Int) < 2 ^ 63 ∧ P (upd σ b (.lst (l.set n.toNat v))) := ⟨a, l, k, rfl, rfl, hσ, h0, h1, by omega, by rw [he]; exact h⟩
theorem CallOK.frame {f : Str} {as : List V} {a : Addr} {o : AObj} (h : CallOK g d q f as σ Q X) (ha : σ a = none) : CallOK g d q f as (upd σ a o) (fun v σ₂ => ∃ σ', σ₂ = upd σ' a o ∧ σ' a = none ∧ Q v σ') (fun v σ₂ => ∃ σ', σ₂ = upd σ' a o ∧ σ' a = none ∧ X v σ') := ⟨fun A s vs af h1 h2 h3 h4 h5 h6 => by
  have key : ∀ {σ' : Hp} {s' : Shared}, Sim g σ' s'.heap → Step nobody σ σ' s s' → Sim g (upd σ' a o) s'.heap ∧ σ' a = none := fun {σ' s'} sm st => by
    obtain ⟨r, hb⟩ := h5.objs a o (upd_same _ _ _)
    cases o with
    | dict l => exact r.elim
    | lst l =>
      obtain ⟨us, ⟨n, ho⟩, rl⟩ := r
      have hn : σ' a = none := st.new a _ ho ha
      have hk : s'.heap.get? a = some _ := (st.keep a _ ho ha id).elim id (fun ⟨⟨_, _, e⟩, _⟩ => by cases e)
      refine ⟨⟨sm.stays, fun b o' e => ?_⟩, hn⟩
      by_cases hba : b = a
      · subst hba
        rw [upd_same] at e; cases e
        exact ⟨⟨us, ⟨n, hk⟩, rl.mono st.tups⟩, hb⟩
      · rw [upd_ne _ _ hba] at e
        exact sm.objs b o' e
  refine codeAny_mono (h.run A s vs af h1 h2 h3 h4 (h5.sub (Sub.upd ha)) h6) (fun r s' p => ?_)
  match r, p with
    | .ok (.ret v), ⟨V, σ', x1, x2, x3, e⟩ =>
      obtain ⟨y1, y2⟩ := key x2 x3
      exact ⟨V, _, x1, y1, frame_step x3, σ', rfl, y2, e⟩
    | .error v, ⟨V, σ', x1, x2, x3, e⟩ =>
      obtain ⟨y1, y2⟩ := key x2 x3
      exact ⟨V, _, x1, y1, frame_step x3, σ', rfl, y2, e⟩⟩
theorem CallOK.xmono {f : Str} {as : List V} {X' : Str → Hp → Prop} (h : CallOK g d q f as σ Q X) (k : ∀ v σ, X v σ → X' v σ) : CallOK g d q f as σ Q X' := ⟨fun A s vs a h1 h2 h3 h4 h5 h6 =>
  codeAny_mono (h.run A s vs a h1 h2 h3 h4 h5 h6) (fun r s' p => match r, p with
    | .ok (.ret v), p => p
    | .error e, ⟨V, σ', a, b, c, e'⟩ => ⟨V, σ', a, b, c, k _ _ e'⟩)⟩
/-- a contract that never raises, under one more thing -/
theorem CallOK.under {f : Str} {as : List V} {a : Addr} {o : AObj} (h : CallOK g d q f as σ Q noX) (ha : σ a = none) : CallOK g d q f as (upd σ a o) (fun v σ₂ => ∃ σ', σ₂ = upd σ' a o ∧ σ' a = none ∧ Q v σ') X :=
  (h.frame ha).xmono fun _ _ ⟨_, _, _, h⟩ => h.elim
end
end Mine

set_option linter.all false
set_option maxHeartbeats 1000000
open PySem
namespace Mine
open PySem.W
theorem scr_of {g : G} {a : Addr} {vs : List Value} {ns : List Int} (hl : g.h₀.IsList a vs.toArray) (hi : PyProof.Rows.IntsAre vs ns) : Scr g a ns := by
  refine ⟨vs.toArray, hl, fun h => ?_⟩
  rw [List.toList_toArray]
  clear hl
  induction hi with
  | nil => exact .nil
  | cons n t r ih => exact .cons (.int n t) ih
theorem fin (l : OpenLaw) {w : World} {s₀ s₁ : Shared} (g : G) (hp : g.prog = l.prog) (hw : g.w = w) (hh : g.h₀ = s₁.heap) (hg : s₁.gens = #[]) {fa a : Addr} {d : Nat} (hd : d ≤ 100) {f : Str} (hf : g.mg f = some (.ref fa))
    (c : CallOK g d true f [.ref a] (fun _ => none) (fun v _ => v = .bool true) noX) {args : List WData} :
    wpAny (model l.row.prog w) callerA (call (.ref fa) [.ref a]) (fun v s' => GoodWG l.row.claim (classAt s₀.heap) (ExcName.means s₀.heap) args s₁ (.ok (.ret v)) s') (fun e s' => GoodWG l.row.claim (classAt s₀.heap) (ExcName.means s₀.heap) args s₁ (.error e) s') s₁ := by
  subst hw
  have e : l.row.prog = g.prog := hp.symm
  rw [e]
  refine enter_call (codeAny_mono (c.run callerA s₁ [.ref a] fa hf ?_ ?_ (fun _ => rfl) ⟨by rw [hh]; exact fun _ _ e => e, fun _ _ e => by cases e⟩ (.cons (.ref a) .nil)) fun r s' p => ?_)
  · have : callerA.depth = 301 := rfl
    have : recursionLimit = 1000 := rfl
    omega
  · have : callerA.units = 4 := rfl
    have : cLine = 9900 := rfl
    omega
  match r, p with
  | .ok (.ret v), ⟨V, σ', rv, sm, st, hv⟩ =>
    subst hv
    cases rv
    obtain ⟨h', tk, rfl⟩ := st.same
    refine GoodW.toG ⟨.inl ⟨_, .bool true, [], rfl, fun _ => rfl, .bool true, ?_, fun _ => ⟨.nil, fun _ h => nomatch h⟩⟩, fun b o hb => sm.stays b o (by rw [hh]; exact hb), rfl, hg⟩
    with_unfolding_all rfl
  | .error e, ⟨_, _, f, _⟩ => exact f.elim
end Mine

set_option linter.all false
set_option maxHeartbeats 4000000
set_option maxRecDepth 20000
open PySem
namespace Mine
structure N01 (g : G) : Prop where
  f3 : FnAt g (Str.ofString "is_from") (defAt PySem.Challenge.pw_uf010038_01 3).params (defAt PySem.Challenge.pw_uf010038_01 3).body (defAt PySem.Challenge.pw_uf010038_01 3).scope
  f4 : FnAt g (Str.ofString "is_number") (defAt PySem.Challenge.pw_uf010038_01 4).params (defAt PySem.Challenge.pw_uf010038_01 4).body (defAt PySem.Challenge.pw_uf010038_01 4).scope
  f5 : FnAt g (Str.ofString "is_row") (defAt PySem.Challenge.pw_uf010038_01 5).params (defAt PySem.Challenge.pw_uf010038_01 5).body (defAt PySem.Challenge.pw_uf010038_01 5).scope
  f6 : FnAt g (Str.ofString "is_table") (defAt PySem.Challenge.pw_uf010038_01 6).params (defAt PySem.Challenge.pw_uf010038_01 6).body (defAt PySem.Challenge.pw_uf010038_01 6).scope
  f7 : FnAt g (Str.ofString "at_number") (defAt PySem.Challenge.pw_uf010038_01 7).params (defAt PySem.Challenge.pw_uf010038_01 7).body (defAt PySem.Challenge.pw_uf010038_01 7).scope
  f9 : FnAt g (Str.ofString "_law_cell_at") (defAt PySem.Challenge.pw_uf010038_01 9).params (defAt PySem.Challenge.pw_uf010038_01 9).body (defAt PySem.Challenge.pw_uf010038_01 9).scope
  f10 : FnAt g (Str.ofString "_law_mixed") (defAt PySem.Challenge.pw_uf010038_01 10).params (defAt PySem.Challenge.pw_uf010038_01 10).body (defAt PySem.Challenge.pw_uf010038_01 10).scope
  f11 : FnAt g (Str.ofString "_law_next") (defAt PySem.Challenge.pw_uf010038_01 11).params (defAt PySem.Challenge.pw_uf010038_01 11).body (defAt PySem.Challenge.pw_uf010038_01 11).scope
  f12 : FnAt g (Str.ofString "_law_whole") (defAt PySem.Challenge.pw_uf010038_01 12).params (defAt PySem.Challenge.pw_uf010038_01 12).body (defAt PySem.Challenge.pw_uf010038_01 12).scope
  f13 : FnAt g (Str.ofString "_law_number") (defAt PySem.Challenge.pw_uf010038_01 13).params (defAt PySem.Challenge.pw_uf010038_01 13).body (defAt PySem.Challenge.pw_uf010038_01 13).scope
  f14 : FnAt g (Str.ofString "_law_table") (defAt PySem.Challenge.pw_uf010038_01 14).params (defAt PySem.Challenge.pw_uf010038_01 14).body (defAt PySem.Challenge.pw_uf010038_01 14).scope
  f15 : FnAt g (Str.ofString "_law_at") (defAt PySem.Challenge.pw_uf010038_01 15).params (defAt PySem.Challenge.pw_uf010038_01 15).body (defAt PySem.Challenge.pw_uf010038_01 15).scope
  f16 : FnAt g (Str.ofString "_law_spoilt") (defAt PySem.Challenge.pw_uf010038_01 16).params (defAt PySem.Challenge.pw_uf010038_01 16).body (defAt PySem.Challenge.pw_uf010038_01 16).scope
  f17 : FnAt g (Str.ofString "law") (defAt PySem.Challenge.pw_uf010038_01 17).params (defAt PySem.Challenge.pw_uf010038_01 17).body (defAt PySem.Challenge.pw_uf010038_01 17).scope
  b_isinstance : Bi g (Str.ofString "isinstance") (.builtin "isinstance")
  b_int : Bi g (Str.ofString "int") (.type "int")
  b_bool : Bi g (Str.ofString "bool") (.type "bool")
  i_GREATEST : Gi g (Str.ofString "GREATEST") 1000000000
  b_tuple : Bi g (Str.ofString "tuple") (.type "tuple")
  b_len : Bi g (Str.ofString "len") (.builtin "len")
  i_MOST_ROWS : Gi g (Str.ofString "MOST_ROWS") 20
  b_all : Bi g (Str.ofString "all") (.builtin "all")
  b_range : Bi g (Str.ofString "range") (.type "range")
  b_list : Bi g (Str.ofString "list") (.type "list")
theorem N01.n3 {g : G} (h : N01 g) : Fn g (Str.ofString "is_from") := ⟨_, _, _, h.f3⟩
theorem N01.n4 {g : G} (h : N01 g) : Fn g (Str.ofString "is_number") := ⟨_, _, _, h.f4⟩
theorem N01.n5 {g : G} (h : N01 g) : Fn g (Str.ofString "is_row") := ⟨_, _, _, h.f5⟩
theorem N01.n6 {g : G} (h : N01 g) : Fn g (Str.ofString "is_table") := ⟨_, _, _, h.f6⟩
theorem N01.n7 {g : G} (h : N01 g) : Fn g (Str.ofString "at_number") := ⟨_, _, _, h.f7⟩
theorem N01.n9 {g : G} (h : N01 g) : Fn g (Str.ofString "_law_cell_at") := ⟨_, _, _, h.f9⟩
theorem N01.n10 {g : G} (h : N01 g) : Fn g (Str.ofString "_law_mixed") := ⟨_, _, _, h.f10⟩
theorem N01.n11 {g : G} (h : N01 g) : Fn g (Str.ofString "_law_next") := ⟨_, _, _, h.f11⟩
theorem N01.n12 {g : G} (h : N01 g) : Fn g (Str.ofString "_law_whole") := ⟨_, _, _, h.f12⟩
theorem N01.n13 {g : G} (h : N01 g) : Fn g (Str.ofString "_law_number") := ⟨_, _, _, h.f13⟩
theorem N01.n14 {g : G} (h : N01 g) : Fn g (Str.ofString "_law_table") := ⟨_, _, _, h.f14⟩
theorem N01.n15 {g : G} (h : N01 g) : Fn g (Str.ofString "_law_at") := ⟨_, _, _, h.f15⟩
theorem N01.n16 {g : G} (h : N01 g) : Fn g (Str.ofString "_law_spoilt") := ⟨_, _, _, h.f16⟩
theorem N01.n17 {g : G} (h : N01 g) : Fn g (Str.ofString "law") := ⟨_, _, _, h.f17⟩
local macro_rules | `(tactic| walk_at "fn") => `(tactic| with_reducible first | (apply N01.n3; assumption) | (apply N01.n4; assumption) | (apply N01.n5; assumption) | (apply N01.n6; assumption) | (apply N01.n7; assumption) | (apply N01.n9; assumption) | (apply N01.n10; assumption) | (apply N01.n11; assumption) | (apply N01.n12; assumption) | (apply N01.n13; assumption) | (apply N01.n14; assumption) | (apply N01.n15; assumption) | (apply N01.n16; assumption) | (apply N01.n17; assumption))
local macro_rules | `(tactic| walk_at "bi") => `(tactic| with_reducible first | (apply N01.b_isinstance; assumption) | (apply N01.b_int; assumption) | (apply N01.b_bool; assumption) | (apply N01.b_tuple; assumption) | (apply N01.b_len; assumption) | (apply N01.b_all; assumption) | (apply N01.b_range; assumption) | (apply N01.b_list; assumption))
local macro_rules | `(tactic| walk_at "gi") => `(tactic| with_reducible first | (apply N01.i_GREATEST; assumption) | (apply N01.i_MOST_ROWS; assumption))
local macro_rules | `(tactic| walk_at "dbg") => `(tactic| decide +kernel)
local macro_rules | `(tactic| walk_at "at") => `(tactic| (repeat (first | (with_reducible apply At.head) | (with_reducible apply At.tail))))
local macro_rules | `(tactic| walk_at "put") => `(tactic| (repeat (first | (with_reducible apply Put.head) | (with_reducible apply Put.tail))))
local macro_rules | `(tactic| walk_at "sel") => `(tactic| (repeat (first | (with_reducible apply Sel.nil) | (with_reducible (apply Sel.cons; (walk_at "at"))))))
local macro_rules | `(tactic| walk_at "ini") => `(tactic| (repeat (first | (with_reducible apply Ini.done) | (with_reducible apply Ini.arg) | (with_reducible apply Ini.free))))
local macro_rules | `(tactic| walk_at "heap") => `(tactic| repeat (first | assumption | (with_reducible apply upd_same) | (with_reducible refine upd_old ?_ (by assumption))))
local macro_rules | `(tactic| walk_at "len") => `(tactic| first | (with_unfolding_all decide) | (simp; done) | (simp only [List.length_cons, List.length_nil, List.length_append]; omega) | (simp; omega) | omega)
local macro_rules | `(tactic| walk_at "hyp") => `(tactic| (intro h; first | (exact absurd rfl h) | (try simp only [List.length_cons, List.length_nil] at h; first | (exfalso; omega) | skip)))
local macro_rules | `(tactic| walk_at "seq") => `(tactic| first | apply seqQ_next | apply seqQ_ret | apply seqQ_brk | fail "no seq")
local macro_rules | `(tactic| walk_at "ex") => `(tactic| first
  | apply ex_return | apply ex_if | (apply k_asg; first | refine u_assign ?_ (by with_unfolding_all (intro _; rfl)) | refine ex_setitem ?_ (by with_unfolding_all (intro _; rfl)) | fail) | (apply k_expr; refine ex_expr ?_ (by with_unfolding_all (intro _; rfl))) | apply ex_pass | apply ex_break
  | fail "no stmt")
local macro_rules | `(tactic| walk_at "name") => `(tactic| first | refine u_name (by walk_at "at") ?_ (by walk_at "dbg") | refine u_gi (by walk_at "gi") (by walk_at "dbg") (by walk_at "dbg") ?_ | fail "no name")
local macro_rules | `(tactic| walk_at "meth") => `(tactic| refine ev_meth slot_list_append (by with_unfolding_all rfl) ?_ (by with_unfolding_all rfl) (by with_unfolding_all (intro _; rfl)) (by with_unfolding_all (intro _; rfl)))
local macro_rules | `(tactic| walk_at "callx") => `(tactic| first
  | (apply k_meth; walk_at "meth")
  | refine u_isi (by walk_at "bi") (by walk_at "bi") (by walk_at "dbg") (by walk_at "dbg") ?_ (by walk_at "dbg") (by walk_at "dbg") (by with_unfolding_all (intro _; rfl))
  | refine u_fn (by walk_at "fn") (by walk_at "dbg") (by walk_at "dbg") ?_ | refine u_b (by walk_at "bi") (by walk_at "dbg") ?_ (by walk_at "dbg") | refine u_t (by walk_at "bi") (by walk_at "dbg") ?_ (by walk_at "dbg") | fail "no callx")
local macro_rules | `(tactic| walk_at "ev") => `(tactic| first
  | (apply k_name; walk_at "name") | apply ev_int | apply ev_bin
  | (apply k_sub; first | refine u_pick ?_ (by with_unfolding_all (intros; rfl)) | apply ev_slice | refine ev_item ?_ (by with_unfolding_all (intros; rfl)) | fail)
  | (apply k_callx; walk_at "callx")
  | (apply k_cmp; first | refine ev_cmp ?_ (by with_unfolding_all rfl) | refine ev_chain ?_ (by with_unfolding_all rfl) | fail) | apply ev_un | apply ev_tuple | apply ev_list | apply ev_bops
  | apply ev_str | apply ev_none | apply ev_bool | fail "no ev")
local macro_rules | `(tactic| walk_at "evs") => `(tactic| first | apply evs_nil | (apply k_evs_cons; refine evs_cons ?_ (by with_unfolding_all (intros; rfl)) (by with_unfolding_all (intro _; rfl))) | fail "no evs")
local macro_rules | `(tactic| walk_at "tst") => `(tactic| first
  | (apply k_tcmp; first | refine tst_cmp ?_ (by with_unfolding_all rfl) | refine tst_chain ?_ (by with_unfolding_all rfl)) | apply tst_not | apply tst_bool | refine Ev.tst_of ?_ (by with_unfolding_all (intros; rfl)) | fail "no tst")
local macro_rules | `(tactic| walk_at "op2") => `(tactic| first
  | apply bin_add | apply bin_sub | (apply k_mod; refine u_mod (by omega) ?_) | (apply k_div; refine u_div (by omega) (by omega) ?_)
  | apply cmp_lt | apply cmp_le | apply cmp_gt | apply cmp_ge | apply cmp_eq | apply cmp_ne | apply pow_9 | apply pow_12 | (apply k_addr; refine add_lst (by walk_at "heap") (by walk_at "heap") (by walk_at "len") ?_) | (apply k_addt; refine add_tup (by walk_at "len") ?_) | (apply k_mul; first | refine u_mulL (by omega) (by omega) ?_ | refine u_mulR (by omega) (by omega) ?_) | fail "no op")
local macro_rules | `(tactic| walk_at "itm") => `(tactic| first
  | refine itm_tup (by omega) (by omega) (by with_unfolding_all rfl) (by with_unfolding_all rfl) ?_ | refine itm_lst (by walk_at "heap") (by omega) (by omega) (by with_unfolding_all rfl) ?_ | fail "no itm")
local macro_rules | `(tactic| walk_at "split") => `(tactic| first
  | (apply sp_dec <;> walk_at "hyp") | apply sp_not | (apply sp_beq <;> walk_at "hyp") | (apply sp_bne <;> walk_at "hyp") | apply sp_true | apply sp_false | apply sp_swap | (apply sp_var <;> intro _) | fail "no split")
local macro_rules | `(tactic| walk_at "cl") => `(tactic| first | refine cl_len_tup (by walk_at "len") ?_ | refine u_all (by walk_at "heap") ?_ | refine u_append (by walk_at "len") ?_ | refine u_tuple_lst (by walk_at "heap") (by walk_at "len") ?_ | refine u_list_tup (by walk_at "len") ?_ | refine u_list_lst (by walk_at "heap") (by walk_at "len") ?_ | fail "no cl")
local macro_rules | `(tactic| walk_at "call") => `(tactic| fail "no call")
local macro_rules | `(tactic| walk_at "opt") => `(tactic| first | apply OptInt.none | apply OptInt.int)
local macro_rules | `(tactic| walk_at "ex2") => `(tactic| first
  | refine Exists.intro _ (And.intro (by walk_at "put") ?_) | refine Exists.intro _ (And.intro (by with_unfolding_all rfl : isi _ _ _ = _) ?_)
  | refine Exists.intro _ (And.intro (isi_ref (by assumption) (by decide)) ?_) | refine Exists.intro _ (And.intro (isi_refl (by assumption)) ?_)
  | refine opt_both (by walk_at "opt") (by walk_at "opt") ?_ | refine ex_both (by walk_at "heap") ?_ | (apply pk_cases; (omega); (walk_at "len"); (omega)) | refine set_0 (by walk_at "heap") (by omega) (by walk_at "len") (by walk_at "len") (by with_unfolding_all rfl) ?_ | fail "no ex")
local macro_rules | `(tactic| walk_at "rest") => `(tactic| first
  | apply tru_bool | apply un_not | apply bops_one | apply bops_and | apply bops_or | apply tsts_and_nil | apply tsts_or_nil | apply tsts_and | apply tsts_or | apply un_neg | apply tru_int
  | apply evo_none | apply evo_some | (apply u_slc_tup; (walk_at "len"))  | apply allAt_nil | (apply allAt_cons; (walk_at "hyp"))
  | apply forQ_next | apply forQ_ret | apply forQ_brk | apply forQ_cont | apply rngQ_next | apply rngQ_ret | apply rngQ_brk | apply rngQ_cont | (apply u_asg; (walk_at "put")) | (apply u_asgl; (walk_at "put")) | apply asg_tuple | apply asgl_nil | apply cond_nil | apply cond_one | apply cutQ_next | apply cutQ_ret | apply cutQ_brk | apply cutQ_cont | (apply k_new; intro _ _)
  | fail "no step")
local macro_rules | `(tactic| walk_at "s") => `(tactic| with_reducible first
  | (apply k_ev; walk_at "ev") | (apply k_op2; walk_at "op2") | (apply k_evs; walk_at "evs") | apply exs_cons | apply exs_nil | (apply k_ex; walk_at "ex") | (apply k_seq; walk_at "seq") | (apply k_tst; walk_at "tst") | (apply k_itm; walk_at "itm") | (apply k_and; walk_at "split") | (apply k_call; walk_at "call") | (apply k_cl; walk_at "cl")
  | (apply k_size; refine size_and (by walk_at "len") ?_) | (apply k_exi; walk_at "ex2") | walk_at "rest" | fail "no step")
local macro_rules | `(tactic| walk_at "w") => `(tactic| repeat' (walk_at "s"))

section
variable {g : G} {d : Nat} {σ : Hp} {Q : V → Hp → Prop} {X : Str → Hp → Prop}
def isFrom (lo hi : Int) : V → Bool
  | .int n => decide (lo ≤ n) && decide (n ≤ hi)
  | _ => false
def Ok (σ : Hp) (v : V) : Prop := ∀ a, v = .ref a → ∃ l, σ a = some (.lst l)

theorem c_is_from (N : N01 g) {v : V} {lo hi : Int} (ok : Ok σ v) (h : Q (.bool (isFrom lo hi v)) σ) : CallOK g (d + 1) true (Str.ofString "is_from") [v, .int lo, .int hi] σ Q X := by
  refine u_body N.f3 (vars := [Str.ofString "thing", Str.ofString "low", Str.ofString "high"]) (by decide +kernel) rfl (by walk_at "ini") ?_
  refine exs_cons ?_
  cases v with
  | int n =>
    walk_at "w"
    all_goals exact ret_here (by simpa [isFrom, *] using h)
  | ref a =>
    obtain ⟨l, hl⟩ := ok a rfl
    walk_at "w"
    all_goals exact ret_here h
  | _ =>
    walk_at "w"
    all_goals exact ret_here h
local macro_rules | `(tactic| walk_at "call") => `(tactic| refine c_is_from (by assumption) (by first | assumption | (intro _ e; cases e)) ?_)
theorem c_is_number (N : N01 g) {v : V} (ok : Ok σ v) (h : Q (.bool (isFrom (-1000000000) 1000000000 v)) σ) : CallOK g (d + 2) true (Str.ofString "is_number") [v] σ Q X := by
  refine u_body N.f4 (vars := [Str.ofString "thing"]) (by decide +kernel) rfl (by walk_at "ini") ?_
  refine exs_cons ?_
  walk_at "w"
  all_goals exact ret_here h
local macro_rules | `(tactic| walk_at "call") => `(tactic| refine c_is_number (by assumption) (by first | assumption | (intro _ e; cases e)) ?_)
def isRow : V → Bool
  | .tup [a, b, c] => isFrom (-1000000000) 1000000000 a && isFrom (-1000000000) 1000000000 b && isFrom 0 100 c
  | _ => false
def OkR (σ : Hp) (v : V) : Prop := Ok σ v ∧ ∀ l, v = .tup l → l.length ≤ 100 ∧ ∀ x ∈ l, Ok σ x
theorem c_is_row (N : N01 g) {v : V} (ok : OkR σ v) (h : Q (.bool (isRow v)) σ) : CallOK g (d + 3) true (Str.ofString "is_row") [v] σ Q X := by
  refine u_body N.f5 (vars := [Str.ofString "thing"]) (by decide +kernel) rfl (by walk_at "ini") ?_
  refine exs_cons ?_
  cases v with
  | tup l =>
    obtain ⟨hl, hx⟩ := ok.2 l rfl
    match l, hl, hx with
    | [a, b, c], hl, hx =>
      have ka : Ok σ a := hx a (by simp)
      have kb : Ok σ b := hx b (by simp)
      have kc : Ok σ c := hx c (by simp)
      walk_at "w"
      all_goals exact ret_here (by simpa [isRow, *] using h)
    | [], hl, hx =>
      walk_at "w"
      all_goals exact ret_here h
    | [a], hl, hx =>
      walk_at "w"
      all_goals exact ret_here h
    | [a, b], hl, hx =>
      walk_at "w"
      all_goals exact ret_here h
    | a :: b :: c :: e :: l, hl, hx =>
      walk_at "w"
      all_goals exact ret_here h
  | ref a =>
    obtain ⟨l, hl⟩ := ok.1 a rfl
    walk_at "w"
    all_goals exact ret_here h
  | _ =>
    walk_at "w"
    all_goals exact ret_here h
local macro_rules | `(tactic| walk_at "call") => `(tactic| refine c_is_row (by assumption) (by assumption) ?_)
def fst' : V → Int
  | .tup (.int a :: _) => a
  | _ => 0
def incr (l : List V) : Bool := (List.range (l.length - 1)).all fun k => decide (fst' (l[k]?.getD .none) < fst' (l[k + 1]?.getD .none))
def isTable : V → Bool
  | .tup l => decide (1 ≤ l.length) && decide (l.length ≤ 20) && l.all isRow && incr l
  | _ => false
theorem isRow_fst {v : V} (h : isRow v = true) : ∃ b c, v = .tup [.int (fst' v), b, c] := by
  unfold isRow at h
  split at h
  · rename_i a b c
    simp only [Bool.and_eq_true] at h
    unfold isFrom at h
    cases a <;> simp at h
    exact ⟨b, c, rfl⟩
  · cases h
theorem c_is_table (N : N01 g) {v : V} (ok : Ok σ v) (okl : ∀ l, v = .tup l → l.length ≤ 100 ∧ ∀ x ∈ l, OkR σ x) (h : Q (.bool (isTable v)) σ) : CallOK g (d + 4) true (Str.ofString "is_table") [v] σ Q X := by
  refine u_body N.f6 (vars := [Str.ofString "thing", Str.ofString "row"]) (by decide +kernel) rfl (by walk_at "ini") ?_
  refine exs_cons ?_
  cases v with
  | tup l =>
    obtain ⟨hl, hx⟩ := okl l rfl
    walk_at "w"
    · refine u_for (fun rest ρ' σ' => σ = σ' ∧ l.all isRow = rest.all isRow ∧ (∀ x ∈ rest, OkR σ x) ∧ ∃ w, ρ' = [some (.tup l), w]) ?_
      refine itr_tup ?_
      walk_at "w"
      refine ⟨l, rfl, ⟨rfl, rfl, hx, none, rfl⟩, ?_, ?_⟩
      · rintro v rest _ _ ⟨rfl, h1, h2, w, rfl⟩
        refine ⟨trivial, ?_⟩
        have hv := h2 v (by simp)
        walk_at "w"
        · exact ⟨rfl, by simp [h1, *], fun x hx => h2 x (by simp [hx]), _, rfl⟩
        · refine ret_here ?_
          have e : isTable (.tup l) = false := by simp only [isTable]; rw [h1]; simp [*]
          rw [e] at h; exact h
      · rintro _ _ ⟨rfl, h1, h2, w, rfl⟩
        refine ⟨trivial, ?_⟩
        walk_at "w"
        have hrow : ∀ (i : Nat) x, l[i]? = some x → ∃ b c, x = .tup [.int (fst' x), b, c] := fun i x e => isRow_fst (List.all_eq_true.mp h1 x (List.mem_of_getElem? e))
        refine u_comp_rng [Str.ofString "thing"] (by decide +kernel) (by walk_at "sel") 0 (l.length - 1) (fun i acc σ' => σ = σ' ∧ acc = ((List.range i).map fun k => decide (fst' (l[k]?.getD .none) < fst' (l[k + 1]?.getD .none))).map .bool) ?_ ?_ ?_
        · refine u_rng1 (by walk_at "bi") (by walk_at "dbg") ?_
          walk_at "w"
          refine ⟨_, rfl, rfl, rfl, rfl, by unfold ok60; omega, by unfold ok60; omega, ?_, rfl, rfl⟩
          exact Nat.le_trans (m := 100) (by omega) (by decide)
        · rintro i acc _ hi ⟨rfl, rfl⟩
          walk_at "w"
          refine itm_at (by omega) (by omega) (by omega) fun x ex => ?_
          obtain ⟨b, c, e⟩ := hrow _ _ ex
          rw [e]
          walk_at "w"
          refine itm_at (by omega) (by omega) (by omega) fun y ey => ?_
          obtain ⟨b', c', e'⟩ := hrow _ _ ey
          rw [e']
          walk_at "w"
          refine ⟨rfl, ?_⟩
          rw [show (0 + (i : Int)).toNat = i by omega] at ex
          rw [show (0 + (i : Int) + 1).toNat = i + 1 by omega] at ey
          simp [List.range_succ, ex, ey]
        · rintro acc _ c ⟨rfl, rfl⟩ hn
          walk_at "w"
          refine ret_sub (Sub.upd hn) ?_
          have e : isTable (.tup l) = incr l := by
            unfold isTable
            have q1 : 1 ≤ l.length := by omega
            have q2 : l.length ≤ 20 := by omega
            simp [h1, q1, q2]
          rw [e] at h
          have e2 : (((l.length : Int) - 1) - 0).toNat = l.length - 1 := by omega
          rw [e2, List.all_map]
          exact h
    all_goals
      have e : isTable (.tup l) = false := by
        unfold isTable
        have : ¬ (1 ≤ l.length) ∨ ¬ (l.length ≤ 20) := by omega
        rcases this with q | q <;> simp [q]
      rw [e] at h
      exact ret_here h
  | ref a =>
    obtain ⟨l, hl⟩ := ok a rfl
    walk_at "w"
    all_goals exact ret_here h
  | _ =>
    walk_at "w"
    all_goals exact ret_here h

-- rows as numbers
abbrev R3 := Int × Int × Int
def row (r : R3) : V := .tup [.int r.1, .int r.2.1, .int r.2.2]
def atf (n : Int) : List R3 → Int → Int
  | [], f => f
  | r :: rs, f => atf n rs (if r.1 ≤ n then r.2.1 + (n - r.1) * r.2.2 / 100 else f)
theorem c_at_number (N : N01 g) {rs : List R3} {n : Int} (hr : ∀ r ∈ rs, ok60 r.2.2) (h : Q (.int (atf n rs 0)) σ) : CallOK g (d + 1) true (Str.ofString "at_number") [.tup (rs.map row), .int n] σ Q X := by
  refine u_body N.f7 (vars := [Str.ofString "table", Str.ofString "number", Str.ofString "found", Str.ofString "start", Str.ofString "plus", Str.ofString "percent"]) (by decide +kernel) rfl (by walk_at "ini") ?_
  refine exs_cons ?_
  walk_at "w"
  refine u_for (fun rest ρ' σ' => σ = σ' ∧ ∃ rest' f x y z, rest = rest'.map row ∧ (∀ r ∈ rest', ok60 r.2.2) ∧ atf n rs 0 = atf n rest' f ∧ ρ' = [some (.tup (rs.map row)), some (.int n), some (.int f), x, y, z]) ?_
  refine itr_tup ?_
  walk_at "w"
  refine ⟨_, rfl, ⟨rfl, rs, _, _, _, _, rfl, hr, rfl, rfl⟩, ?_, ?_⟩
  · rintro v rest _ _ ⟨rfl, rest', f, x, y, z, e, hr', h1, rfl⟩
    refine ⟨trivial, ?_⟩
    cases rest' with
    | nil => cases e
    | cons r rest' =>
      cases e
      obtain ⟨hr1, hr2⟩ := hr' r (by simp)
      unfold row
      walk_at "w"
      · exact ⟨rfl, rest', _, _, _, _, rfl, fun r h => hr' r (by simp [h]), by rw [h1]; simp [atf, *], rfl⟩
      · exact ⟨rfl, rest', _, _, _, _, rfl, fun r h => hr' r (by simp [h]), by rw [h1]; simp [atf, *], rfl⟩
  · rintro _ _ ⟨rfl, rest', f, x, y, z, e, hr', h1, rfl⟩
    refine ⟨trivial, ?_⟩
    cases rest' with
    | cons => cases e
    | nil =>
      walk_at "w"
      exact ret_here (by rw [h1] at h; exact h)
theorem c_law_at (N : N01 g) {rs : List R3} {n : Int} (hr : ∀ r ∈ rs, ok60 r.2.2) (h : Q (.int (atf n rs 0)) σ) : CallOK g (d + 1) true (Str.ofString "_law_at") [.tup (rs.map row), .int n] σ Q X := by
  refine u_body N.f15 (vars := [Str.ofString "_law_table_here", Str.ofString "_law_number_here", Str.ofString "_law_found", Str.ofString "_law_row"]) (by decide +kernel) rfl (by walk_at "ini") ?_
  refine exs_cons ?_
  walk_at "w"
  refine u_for (fun rest ρ' σ' => σ = σ' ∧ ∃ rest' f x, rest = rest'.map row ∧ (∀ r ∈ rest', ok60 r.2.2) ∧ atf n rs 0 = atf n rest' f ∧ ρ' = [some (.tup (rs.map row)), some (.int n), some (.int f), x]) ?_
  refine itr_tup ?_
  walk_at "w"
  refine ⟨_, rfl, ⟨rfl, rs, _, _, rfl, hr, rfl, rfl⟩, ?_, ?_⟩
  · rintro v rest _ _ ⟨rfl, rest', f, x, e, hr', h1, rfl⟩
    refine ⟨trivial, ?_⟩
    cases rest' with
    | nil => cases e
    | cons r rest' =>
      cases e
      obtain ⟨hr1, hr2⟩ := hr' r (by simp)
      unfold row
      walk_at "w"
      · exact ⟨rfl, rest', _, _, rfl, fun r h => hr' r (by simp [h]), by rw [h1]; simp [atf, show r.1 ≤ n by omega], rfl⟩
      · exact ⟨rfl, rest', _, _, rfl, fun r h => hr' r (by simp [h]), by rw [h1]; simp [atf, show ¬ r.1 ≤ n by omega], rfl⟩
  · rintro _ _ ⟨rfl, rest', f, x, e, hr', h1, rfl⟩
    refine ⟨trivial, ?_⟩
    cases rest' with
    | cons => cases e
    | nil =>
      walk_at "w"
      exact ret_here (by rw [h1] at h; exact h)
theorem c_cell_at (N : N01 g) {a : Addr} {ns : List Int} {k : Int} (hs : Scr g a ns) (hl : ns.length ≤ 100) (h0 : 0 ≤ k) (h1 : k < 100) (h : ∀ x, Q (.int x) σ) : CallOK g (d + 1) true (Str.ofString "_law_cell_at") [.ref a, .int k] σ Q X := by
  refine u_body N.f9 (vars := [Str.ofString "_law_script", Str.ofString "_law_k"]) (by decide +kernel) rfl (by walk_at "ini") ?_
  refine exs_cons ?_
  walk_at "w"
  refine cl_len_scr hs (by omega) ?_
  walk_at "w"
  · have hk : k.toNat < ns.length := by omega
    exact itm_scr hs h0 (by omega) (List.getElem?_eq_getElem hk) (ret_here (h _))
  · exact ret_here (h _)
theorem c_mixed (N : N01 g) {c k : Int} (hk : ok60 k) (h : ∀ x, 0 ≤ x → x < 2147483647 → Q (.int x) σ) : CallOK g (d + 1) true (Str.ofString "_law_mixed") [.int c, .int k] σ Q X := by
  refine u_body N.f10 (vars := [Str.ofString "_law_cell", Str.ofString "_law_k"]) (by decide +kernel) rfl (by walk_at "ini") ?_
  refine exs_cons ?_
  walk_at "w"
  exact ret_here (h _ (by omega) (by omega))
theorem c_next (N : N01 g) {st : Addr} {n k : Int} (h0 : 0 ≤ n) (h1 : n < 2147483647) (hk : 0 < k) (hk' : k < 2 ^ 60) (h : ∀ r n', 0 ≤ r → r < k → 0 ≤ n' → n' < 2147483647 → Q (.int r) (upd σ st (.lst [.int n']))) :
    CallOK g (d + 1) true (Str.ofString "_law_next") [.ref st, .int k] (upd σ st (.lst [.int n])) Q X := by
  refine u_body N.f11 (vars := [Str.ofString "_law_state", Str.ofString "_law_size"]) (by decide +kernel) rfl (by walk_at "ini") ?_
  refine exs_cons ?_
  walk_at "w"
  rw [upd_upd]
  exact ret_here (h _ _ (Int.emod_nonneg _ (by omega)) (Int.emod_lt_of_pos _ hk) (by omega) (by omega))
theorem c_whole (N : N01 g) {n : Int} (h : Q (.bool true) σ) : CallOK g (d + 1) true (Str.ofString "_law_whole") [.int n] σ Q X := by
  refine u_body N.f12 (vars := [Str.ofString "_law_found"]) (by decide +kernel) rfl (by walk_at "ini") ?_
  refine exs_cons ?_
  walk_at "w"
  exact ret_here h
local macro_rules | `(tactic| walk_at "call") => `(tactic| (refine c_next (by assumption) (by omega) (by omega) (by omega) (by omega) ?_; intro _ _ _ _ _ _))
theorem c_number (N : N01 g) {st : Addr} {n : Int} (h0 : 0 ≤ n) (h1 : n < 2147483647) (h : ∀ r n', -1000000000 ≤ r → r ≤ 1000000000 → 0 ≤ n' → n' < 2147483647 → Q (.int r) (upd σ st (.lst [.int n']))) :
    CallOK g (d + 2) true (Str.ofString "_law_number") [.ref st] (upd σ st (.lst [.int n])) Q X := by
  refine u_body N.f13 (vars := [Str.ofString "_law_state", Str.ofString "_law_kind"]) (by decide +kernel) rfl (by walk_at "ini") ?_
  refine exs_cons ?_
  walk_at "w"
  all_goals exact ret_here (h _ _ (by omega) (by omega) (by omega) (by omega))

theorem c_next_u (N : N01 g) {st b : Addr} {o : AObj} {n k : Int} (hf : σ b = none) (hne : b ≠ st) (h0 : 0 ≤ n) (h1 : n < 2147483647) (hk : 0 < k) (hk' : k < 2 ^ 60) (h : ∀ r n', 0 ≤ r → r < k → 0 ≤ n' → n' < 2147483647 → Q (.int r) (upd (upd σ st (.lst [.int n'])) b o)) :
    CallOK g (d + 1) true (Str.ofString "_law_next") [.ref st, .int k] (upd (upd σ st (.lst [.int n])) b o) Q X :=
  ((c_next (Q := fun v σ' => ∃ r n', v = .int r ∧ 0 ≤ r ∧ r < k ∧ 0 ≤ n' ∧ n' < 2147483647 ∧ σ' = upd σ st (.lst [.int n'])) N h0 h1 hk hk' fun r n' a b c e => ⟨r, n', rfl, a, b, c, e, rfl⟩).under (upd_no hf hne)).mono (by
    rintro _ _ ⟨_, rfl, _, r, n', rfl, a, b, c, e, rfl⟩; exact h r n' a b c e)
theorem c_number_u (N : N01 g) {st b : Addr} {o : AObj} {n : Int} (hf : σ b = none) (hne : b ≠ st) (h0 : 0 ≤ n) (h1 : n < 2147483647) (h : ∀ r n', -1000000000 ≤ r → r ≤ 1000000000 → 0 ≤ n' → n' < 2147483647 → Q (.int r) (upd (upd σ st (.lst [.int n'])) b o)) :
    CallOK g (d + 2) true (Str.ofString "_law_number") [.ref st] (upd (upd σ st (.lst [.int n])) b o) Q X :=
  ((c_number (Q := fun v σ' => ∃ r n', v = .int r ∧ -1000000000 ≤ r ∧ r ≤ 1000000000 ∧ 0 ≤ n' ∧ n' < 2147483647 ∧ σ' = upd σ st (.lst [.int n'])) N h0 h1 fun r n' a b c e => ⟨r, n', rfl, a, b, c, e, rfl⟩).under (upd_no hf hne)).mono (by
    rintro _ _ ⟨_, rfl, _, r, n', rfl, a, b, c, e, rfl⟩; exact h r n' a b c e)
local macro_rules | `(tactic| walk_at "call") => `(tactic| first | (refine c_next_u (by assumption) (by assumption) (by assumption) (by omega) (by omega) (by omega) (by omega) ?_; intro _ _ _ _ _ _) | (refine c_number_u (by assumption) (by assumption) (by assumption) (by omega) (by omega) ?_; intro _ _ _ _ _ _) | (refine c_next (by assumption) (by omega) (by omega) (by omega) (by omega) ?_; intro _ _ _ _ _ _))
structure GoodR (r : R3) : Prop where
  a : -1000000000 ≤ r.1
  a' : r.1 ≤ 1000000000
  b : -1000000000 ≤ r.2.1
  b' : r.2.1 ≤ 1000000000
  c : 0 ≤ r.2.2
  c' : r.2.2 ≤ 100
structure GoodT (rs : List R3) : Prop where
  len : 1 ≤ rs.length
  len' : rs.length ≤ 20
  rows : ∀ r ∈ rs, GoodR r
  incr : rs.Pairwise (fun r r' => r.1 < r'.1)
def Rows (L : List V) (i : Nat) (z : Int) : Prop := ∃ rs : List R3, L = rs.map row ∧ rs.length = i ∧ (∀ r ∈ rs, GoodR r) ∧ (∀ r ∈ rs, r.1 < z) ∧ rs.Pairwise (fun r r' => r.1 < r'.1)
theorem Rows.push {L : List V} {i : Nat} {z z' a p : Int} (h : Rows L i z) (h1 : -1000000000 ≤ z) (h2 : z ≤ 1000000000) (h3 : -1000000000 ≤ a) (h4 : a ≤ 1000000000) (h5 : 0 ≤ p) (h6 : p ≤ 100) (h7 : z < z') : Rows (L ++ [.tup [.int z, .int a, .int p]]) (i + 1) z' := by
  obtain ⟨rs, rfl, hl, hg, hlt, hp⟩ := h
  refine ⟨rs ++ [(z, a, p)], by simp [row], by simp [hl], ?_, ?_, ?_⟩
  · intro r hr
    rcases List.mem_append.mp hr with q | q
    · exact hg r q
    · simp at q; subst q; exact ⟨h1, h2, h3, h4, h5, h6⟩
  · intro r hr
    rcases List.mem_append.mp hr with q | q
    · have := hlt r q; omega
    · simp at q; subst q; exact h7
  · refine List.pairwise_append.mpr ⟨hp, List.pairwise_singleton _ _, ?_⟩
    intro r hr r' hr'
    simp at hr'; subst hr'; exact hlt r hr
theorem c_table (N : N01 g) {st : Addr} {n : Int} (h0 : 0 ≤ n) (h1 : n < 2147483647) (h : ∀ rs n', GoodT rs → Q (.tup (rs.map row)) (upd σ st (.lst [.int n']))) :
    CallOK g (d + 3) true (Str.ofString "_law_table") [.ref st] (upd σ st (.lst [.int n])) Q X := by
  refine u_body N.f14 (vars := [Str.ofString "_law_state", Str.ofString "_law_many", Str.ofString "_law_start", Str.ofString "_law_rows", Str.ofString "_law_k", Str.ofString "_law_percent"]) (by decide +kernel) rfl (by walk_at "ini") ?_
  refine exs_cut (fun ρ' σ' => ∃ m n, 1 ≤ m ∧ m ≤ 20 ∧ 0 ≤ n ∧ n < 2147483647 ∧ σ' = upd σ st (.lst [.int n]) ∧ ρ' = [some (.ref st), some (.int m), none, none, none, none]) ?_ ?_
  · walk_at "w"
    exact ⟨_, _, by omega, by omega, by omega, by omega, rfl, rfl⟩
  rintro _ _ ⟨m, n, hm, hm', hn, hn', rfl, rfl⟩
  refine exs_cut (fun ρ' σ' => ∃ m n, 1 ≤ m ∧ m ≤ 20 ∧ 0 ≤ n ∧ n < 2147483647 ∧ σ' = upd σ st (.lst [.int n]) ∧ ρ' = [some (.ref st), some (.int m), none, none, none, none]) ?_ ?_
  · walk_at "w"
    all_goals exact ⟨_, _, by omega, by omega, by omega, by omega, rfl, rfl⟩
  clear hm hm' hn hn' m n
  rintro _ _ ⟨m, n, hm, hm', hn, hn', rfl, rfl⟩
  refine exs_cut (fun ρ' σ' => ∃ z n, -1000000000 ≤ z ∧ z + 20000 * m ≤ 1000000000 ∧ 0 ≤ n ∧ n < 2147483647 ∧ σ' = upd σ st (.lst [.int n]) ∧ ρ' = [some (.ref st), some (.int m), some (.int z), none, none, none]) ?_ ?_
  · walk_at "w"
    all_goals exact ⟨_, _, by omega, by omega, by omega, by omega, rfl, rfl⟩
  clear hn hn' n
  rintro _ _ ⟨z, n, hz, hz', hn, hn', rfl, rfl⟩
  walk_at "w"
  rename_i rw hrw
  obtain ⟨hne, hf⟩ := upd_none hrw
  refine u_for_rng (fun i ρ' σ' => ∃ (L : List V) (z n : Int) (x y : Option V), -1000000000 ≤ z ∧ z + 20000 * (m - i) ≤ 1000000000 ∧ (i : Int) ≤ m ∧ 0 ≤ n ∧ n < 2147483647 ∧ L.length = i ∧ Rows L i z ∧
    σ' = upd (upd σ st (.lst [.int n])) rw (.lst L) ∧ ρ' = [some (.ref st), some (.int m), some (.int z), some (.ref rw), x, y]) ?_
  refine u_rng1 (by walk_at "bi") (by walk_at "dbg") ?_
  walk_at "w"
  refine ⟨_, rfl, rfl, by unfold ok60; omega, by unfold ok60; omega, ⟨[], z, n, _, _, hz, by omega, by omega, hn, hn', rfl, ⟨[], rfl, rfl, by simp, by simp, .nil⟩, rfl, rfl⟩, ?_, ?_⟩
  · rintro i _ _ hi ⟨L, z, n, x, y, hz, hz', him, hn, hn', hl, hr, rfl, rfl⟩
    walk_at "w"
    all_goals exact ⟨_, _, _, _, _, by omega, by omega, by omega, by omega, by omega, by simp [hl], hr.push (by omega) (by omega) (by omega) (by omega) (by omega) (by omega) (by omega), rfl, rfl⟩
  · rintro _ _ ⟨L, z, n, x, y, hz, hz', him, hn, hn', hl, ⟨rs, rfl, hl', hg, hlt, hp⟩, rfl, rfl⟩
    walk_at "w"
    exact ret_sub (Sub.upd (upd_no hf hne)) (h rs _ ⟨by omega, by omega, hg, hp⟩)

-- the plain law
theorem isRow_row {r : R3} (h : GoodR r) : isRow (row r) = true := by
  obtain ⟨h1, h2, h3, h4, h5, h6⟩ := h
  simp [row, isRow, isFrom, *]
theorem incr_false {l : List V} {k : Nat} {x y : V} (hx : l[k]? = some x) (hy : l[k + 1]? = some y) (h : ¬ fst' x < fst' y) : incr l = false := by
  have hk : k + 1 < l.length := (List.getElem?_eq_some_iff.mp hy).1
  unfold incr
  rw [List.all_eq_false]
  exact ⟨k, by simp; omega, by simp only [hx, hy]; simpa using h⟩
theorem good_table {rs : List R3} (h : GoodT rs) : isTable (.tup (rs.map row)) = true := by
  have h1 := h.len
  have h2 := h.len'
  have h3 : (rs.map row).all isRow = true := by
    rw [List.all_eq_true]; intro x hx
    obtain ⟨r, hr, rfl⟩ := List.mem_map.mp hx
    exact isRow_row (h.rows r hr)
  have h4 : incr (rs.map row) = true := by
    unfold incr
    rw [List.all_eq_true]; intro k hk
    have hk : k + 1 < rs.length := by simp at hk; omega
    have := List.pairwise_iff_getElem.mp h.incr k (k + 1) (by omega) hk (by omega)
    simp [List.getElem?_eq_getElem hk, List.getElem?_eq_getElem (show k < rs.length by omega), row, fst']
    exact this
  simp [isTable, h3, h4, h1, h2]
theorem bad_row {l : List V} {x : V} (hx : x ∈ l) (h : isRow x = false) : isTable (.tup l) = false := by
  have : l.all isRow = false := by rw [List.all_eq_false]; exact ⟨x, hx, by simp [h]⟩
  simp [isTable, this]
def Plain (v : V) : Prop := (∀ a, v ≠ .ref a) ∧ ∀ l, v = .tup l → l.length ≤ 100 ∧ ∀ x ∈ l, ∀ a, x ≠ .ref a
theorem Plain.okr {v : V} (h : Plain v) : OkR σ v := ⟨fun a e => absurd e (h.1 a), fun l e => ⟨(h.2 l e).1, fun x hx a e' => absurd e' ((h.2 l e).2 x hx a)⟩⟩
theorem plain_row (r : R3) : Plain (row r) := by
  unfold row
  refine ⟨fun a e => (by cases e), fun l e => ?_⟩
  cases e
  exact ⟨by simp, fun x hx a e => by subst e; simp at hx⟩
theorem slc_mem {α : Type} {lo hi : Option Int} {l : List α} {x : α} (h : x ∈ slc lo hi l) : x ∈ l := List.mem_of_mem_drop (List.mem_of_mem_take h)
theorem slc_len {α : Type} (lo hi : Option Int) (l : List α) : (slc lo hi l).length ≤ l.length := by unfold slc; rw [List.length_take, List.length_drop]; omega
theorem put_get {α : Type} {l m : List α} {j : Int} (h0 : 0 ≤ j) (h1 : j < l.length) {k : Nat} (hk : k < m.length) : (slc none (some j) l ++ m ++ slc (some (j + 1)) none l)[j.toNat + k]? = some m[k] := by
  rw [slc_take h0]
  have hl : (l.take j.toNat).length = j.toNat := by rw [List.length_take]; omega
  rw [List.append_assoc, List.getElem?_append_right (by omega), hl, show j.toNat + k - j.toNat = k by omega, List.getElem?_append_left hk, List.getElem?_eq_getElem hk]
theorem put_ok {l m : List V} {lo hi lo' hi' : Option Int} (h1 : l.length ≤ 20) (hm : m.length ≤ 5) (hl : ∀ x ∈ l, OkR σ x) (hm' : ∀ x ∈ m, OkR σ x) : ∀ k, V.tup (slc lo hi l ++ m ++ slc lo' hi' l) = .tup k → k.length ≤ 100 ∧ ∀ x ∈ k, OkR σ x := by
  intro k e; cases e
  have a := slc_len lo hi l
  have b := slc_len lo' hi' l
  refine ⟨by simp only [List.length_append]; omega, fun x hx => ?_⟩
  simp only [List.mem_append] at hx
  rcases hx with (hx | hx) | hx
  · exact hl x (slc_mem hx)
  · exact hm' x hx
  · exact hl x (slc_mem hx)
theorem bad_pair {l : List V} {j : Int} {x y : V} (h0 : 0 ≤ j) (h1 : j < l.length) (h : ¬ fst' x < fst' y) : isTable (.tup (slc none (some j) l ++ [x, y] ++ slc (some (j + 1)) none l)) = false := by
  have := incr_false (l := slc none (some j) l ++ [x, y] ++ slc (some (j + 1)) none l) (k := j.toNat) (put_get (m := [x, y]) h0 h1 (k := 0) (by simp)) (put_get (m := [x, y]) h0 h1 (k := 1) (by simp)) h
  simp only [isTable, this, Bool.and_false]
def Wrong (lr : Addr) (x : V) : Prop := isRow x = false ∧ (∀ a, x = .ref a → a = lr) ∧ ∀ l, x = .tup l → l.length ≤ 100 ∧ ∀ y ∈ l, ∀ a, y ≠ .ref a
theorem Wrong.okr {lr : Addr} {x : V} {l : List V} (h : Wrong lr x) (hl : σ lr = some (.lst l)) : OkR σ x :=
  ⟨fun a e => ⟨l, by rw [h.2.1 a e]; exact hl⟩, fun l e => ⟨(h.2.2 l e).1, fun y hy a e' => absurd e' ((h.2.2 l e).2 y hy a)⟩⟩
theorem c_spoilt (N : N01 g) {rs : List R3} {c : Int} (hT : GoodT rs) (h0 : 0 ≤ c) (h : ∀ v σ', Ok σ' v → (∀ l, v = .tup l → l.length ≤ 100 ∧ ∀ x ∈ l, OkR σ' x) → isTable v = false → Q v σ') :
    CallOK g (d + 1) true (Str.ofString "_law_spoilt") [.tup (rs.map row), .int c] σ Q X := by
  refine u_body N.f16 (vars := [Str.ofString "_law_table_here", Str.ofString "_law_cell", Str.ofString "_law_at_here", Str.ofString "_law_row", Str.ofString "_law_wrong", Str.ofString "_law_longer"]) (by decide +kernel) rfl (by walk_at "ini") ?_
  have hl : (rs.map row).length = rs.length := by simp
  have hlen := hT.len
  have hlen' := hT.len'
  refine exs_cons ?_
  walk_at "w"
  have hj : 0 ≤ c / 15 % ((rs.map row).length : Int) := Int.emod_nonneg _ (by omega)
  have hj' : c / 15 % ((rs.map row).length : Int) < (rs.map row).length := Int.emod_lt_of_pos _ (by omega)
  generalize c / 15 % ((rs.map row).length : Int) = j at hj hj'
  refine itm_at hj hj' (by omega) fun x hx => ?_
  obtain ⟨r, hr, e⟩ : ∃ r ∈ rs, row r = x := List.mem_map.mp (List.mem_of_getElem? hx)
  have gr := hT.rows r hr
  unfold row at e; subst e
  have q1 := slc_len none (some j) (rs.map row)
  have q2 := slc_len (some (j + 1)) none (rs.map row)
  obtain ⟨g1, g2, g3, g4, g5, g6⟩ := gr
  walk_at "w"
  · rename_i a1 e1 lr e2 a3 e3 a4 e4 a5 e5 a6 e6 hc
    refine itm_lat (by walk_at "heap") (by omega) (by simp; omega) (by omega) fun x hx' => ?_
    have hx' := List.mem_of_getElem? hx'
    have hb : Wrong lr x := by
      simp only [List.mem_append, List.mem_cons, List.not_mem_nil, or_false] at hx'
      rcases hx' with ((rfl | rfl | rfl) | rfl | rfl | rfl | rfl | rfl) | rfl | rfl | rfl | rfl
      all_goals
        refine ⟨?_, ?_, ?_⟩
        · simp [isRow, isFrom] <;> omega
        · intro a e; first | (cases e; done) | (cases e; rfl)
        · intro l e; first | (cases e; done) | (cases e; exact ⟨by simp, fun y hy a e => by subst e; simp at hy⟩)
    walk_at "w"
    refine ret_here (h _ _ (fun a e => by cases e) (put_ok (by omega) (by simp) (fun x hx => ?_) (fun y hy => ?_)) (bad_row (x := x) (by simp) hb.1))
    · obtain ⟨r, _, rfl⟩ := List.mem_map.mp hx; exact (plain_row r).okr
    · simp at hy; subst hy; exact hb.okr (by walk_at "heap")
  · refine ret_here (h _ _ (fun a e => by cases e) (put_ok (by omega) (by simp) (fun x hx => ?_) (fun y hy => ?_)) (bad_pair hj hj' (by simp only [fst']; omega)))
    · obtain ⟨r, _, rfl⟩ := List.mem_map.mp hx; exact (plain_row r).okr
    · simp at hy; subst hy; exact (plain_row r).okr
  · refine u_comp_rng0 [] (by decide +kernel) (by walk_at "sel") 0 (21 + c / 4200 % 9) (fun i acc => acc.length = i ∧ ∀ x ∈ acc, Plain x) ?_ ?_ ?_
    · refine u_rng1 (by walk_at "bi") (by walk_at "dbg") ?_
      walk_at "w"
      exact ⟨_, rfl, rfl, rfl, rfl, by unfold ok60; omega, by unfold ok60; omega, by omega, rfl, rfl, by simp⟩
    · rintro i acc hi ⟨hl, hp⟩
      walk_at "w"
      refine ⟨rfl, by simp [hl], fun x hx => ?_⟩
      rcases List.mem_append.mp hx with q | q
      · exact hp x q
      · simp at q; subst q; exact plain_row ((i : Int), 0, 5)
    · rintro acc c' ⟨hl', hp⟩ hn
      walk_at "w"
      · exact ret_here (h _ _ (fun a e => by cases e) (fun l e => by cases e; simp) rfl)
      · exact ret_here (h _ _ (fun a e => by cases e; exact ⟨_, by walk_at "heap"⟩) (fun l e => by cases e) rfl)
      · exact ret_here (h _ _ (fun a e => by cases e) (fun l e => by cases e) rfl)
      · refine ret_here (h _ _ (fun a e => by cases e) (fun l e => by cases e; exact ⟨by omega, fun x hx => (hp x hx).okr⟩) ?_)
        have : ¬ acc.length ≤ 20 := by omega
        simp [isTable, this]
      · exact ret_here (h _ _ (fun a e => by cases e) (fun l e => by cases e) rfl)
      · exact ret_here (h _ _ (fun a e => by cases e) (fun l e => by cases e) rfl)
  · refine ret_here (h _ _ (fun a e => by cases e) (put_ok (by omega) (by simp) (fun x hx => ?_) (fun y hy => ?_)) (bad_pair hj hj' (by simp only [fst']; omega)))
    · obtain ⟨r, _, rfl⟩ := List.mem_map.mp hx; exact (plain_row r).okr
    · simp at hy
      rcases hy with rfl | rfl
      · exact (plain_row (r.1 + 40000, r.2.1, 5)).okr
      · exact (plain_row r).okr

theorem ok_good {rs : List R3} (h : rs.length ≤ 20) : ∀ l, V.tup (rs.map row) = .tup l → l.length ≤ 100 ∧ ∀ x ∈ l, OkR σ x := fun l e => by
  cases e
  refine ⟨by simp; omega, fun x hx => ?_⟩
  obtain ⟨r, _, rfl⟩ := List.mem_map.mp hx; exact (plain_row r).okr
theorem ok_tup {l : List V} : Ok σ (.tup l) := fun a e => by cases e
theorem c_good (N : N01 g) {rs : List R3} (hT : GoodT rs) (h : Q (.bool true) σ) : CallOK g (d + 4) true (Str.ofString "is_table") [.tup (rs.map row)] σ Q X := c_is_table N ok_tup (ok_good hT.len') (by rw [good_table hT]; exact h)
theorem c_bad (N : N01 g) {v : V} (ok : Ok σ v) (okl : ∀ l, v = .tup l → l.length ≤ 100 ∧ ∀ x ∈ l, OkR σ x) (hv : isTable v = false) (h : Q (.bool false) σ) : CallOK g (d + 4) true (Str.ofString "is_table") [v] σ Q X := c_is_table N ok okl (by rw [hv]; exact h)
local macro_rules | `(tactic| walk_at "call") => `(tactic| first
  | (refine c_cell_at (by assumption) (by assumption) (by assumption) (by omega) (by omega) ?_; intro _)
  | (refine c_mixed (by assumption) (by unfold ok60; omega) ?_; intro _ _ _)
  | (refine c_table (by assumption) (by omega) (by omega) ?_; intro _ _ _)
  | (refine c_spoilt (by assumption) (by assumption) (by omega) ?_; intro _ _ _ _ _)
  | refine c_good (by assumption) (by assumption) ?_ | refine c_bad (by assumption) (by assumption) (by assumption) (by assumption) ?_
  | (refine c_at_number (by assumption) (by assumption) ?_)
  | (refine c_law_at (by assumption) (by assumption) ?_)
  | (refine c_whole (by assumption) ?_))
theorem c_law (N : N01 g) {a : Addr} {ns : List Int} (hs : Scr g a ns) (hln : ns.length ≤ 100) (h : ∀ σ', Q (.bool true) σ') : CallOK g (d + 5) true (Str.ofString "law") [.ref a] σ Q X := by
  refine u_body N.f17 (vars := [Str.ofString "_law_script", Str.ofString "_law_state", Str.ofString "_law_table_here", Str.ofString "_law_cell", Str.ofString "_law_wrong", Str.ofString "_law_told", Str.ofString "_law_good", Str.ofString "_law_row", Str.ofString "_law_far", Str.ofString "_law_number_here", Str.ofString "_law_found"]) (by decide +kernel) rfl (by walk_at "ini") ?_
  refine exs_cons ?_
  walk_at "w"
  · exact ret_here (h _)
  rename_i x1 x2 hx2 hx2' st hst rs n hT x3 c hc hc' hodd
  have hl : (rs.map row).length = rs.length := by simp
  have hlen := hT.len
  have hlen' := hT.len'
  have hr60 : ∀ r ∈ rs, ok60 r.2.2 := fun r hr => by
    obtain ⟨_, _, _, _, h5, h6⟩ := hT.rows r hr
    unfold ok60; omega
  walk_at "w"
  have hj : 0 ≤ c / 2 % ((rs.map row).length : Int) := Int.emod_nonneg _ (by omega)
  have hj' : c / 2 % ((rs.map row).length : Int) < (rs.map row).length := Int.emod_lt_of_pos _ (by omega)
  generalize c / 2 % ((rs.map row).length : Int) = j at hj hj'
  refine itm_at hj hj' (by omega) fun x hx => ?_
  obtain ⟨r, hr, e⟩ : ∃ r ∈ rs, row r = x := List.mem_map.mp (List.mem_of_getElem? hx)
  unfold row at e; subst e
  walk_at "w"
  rename_i far
  refine u_for_tmp (fun rest ρ' σ' => upd σ st (.lst [.int n]) = σ' ∧ (∀ x ∈ rest, ∃ n, x = .int n) ∧ ∃ w f y z, ρ' = [some (.ref a), some (.ref st), some (.tup (rs.map row)), some (.int c), none, none, some (.bool true), some w, f, y, z]) ?_
  walk_at "w"
  refine ⟨_, _, _, rfl, rfl, by assumption, ⟨rfl, ?_, _, _, _, _, rfl⟩, ?_, ?_⟩
  · intro x hx
    simp at hx
    rcases hx with rfl | rfl | rfl | rfl | rfl | rfl <;> exact ⟨_, rfl⟩
  · rintro v l _ _ ⟨rfl, hi, w, f, y, z, rfl⟩
    obtain ⟨m, rfl⟩ := hi v (by simp)
    walk_at "w"
    exact ⟨rfl, fun x hx => hi x (by simp [hx]), _, _, _, _, rfl⟩
  · rintro _ _ ⟨rfl, hi, w, f, y, z, rfl⟩
    walk_at "w"
    exact ret_here (h _)
end
end Mine

open PySem PySem.W PyProof.Rows
set_option Elab.async false
set_option maxRecDepth 100000
set_option maxHeartbeats 8000000
namespace Mine
open_top hd for PySem.Challenge.rw_uf010038_01
end Mine

set_option linter.all false
set_option Elab.async false
set_option maxRecDepth 100000
set_option maxHeartbeats 8000000
open PySem PySem.W PyProof.Rows
namespace Mine
theorem n01 {w : World} {mean : ExcName → Option Value} {mg mb : Str → Option Value} {h : Heap} (T : Top hd.view_39 (looseW hd.view_39 []) mean mg mb h) : N01 ⟨PySem.Challenge.pw_uf010038_01, w, h, mg, mb, T.g, T.b, T.nolimit⟩ := by
  have fn : ∀ k j, (recsOf hd.view_39)[j]? = some (defAt PySem.Challenge.pw_uf010038_01 k) → FnAt ⟨PySem.Challenge.pw_uf010038_01, w, h, mg, mb, T.g, T.b, T.nolimit⟩ (defAt PySem.Challenge.pw_uf010038_01 k).name (defAt PySem.Challenge.pw_uf010038_01 k).params (defAt PySem.Challenge.pw_uf010038_01 k).body (defAt PySem.Challenge.pw_uf010038_01 k).scope := fun k j hk => by
    obtain ⟨a, o, pm, code, doc, h1, h2, h3, h4⟩ := T.fn _ (List.mem_of_getElem? hk)
    exact ⟨a, o, pm, code, doc, h1, h2, h3, h4⟩
  have bi : ∀ x v, (x ∉ startupNames ∧ x ∉ looseW hd.view_39 [] ∧ x ∉ (recsOf hd.view_39).map (·.name) ∧ x ∉ (litsOf hd.view_39).map (·.1) ∧ x ∉ (clssOf hd.view_39 (looseW hd.view_39 [])).map (·.name)) → bootBuiltins x = some v → x ≠ "__name__" → Bi ⟨PySem.Challenge.pw_uf010038_01, w, h, mg, mb, T.g, T.b, T.nolimit⟩ x v := fun x v hx hb hn =>
    ⟨T.free x hx.1 hx.2.1 hx.2.2.1 hx.2.2.2.1 hx.2.2.2.2, (T.builtins x hn).trans hb⟩
  have gi : ∀ x i, valOf hd.view_39 x = some (.int i) → Gi ⟨PySem.Challenge.pw_uf010038_01, w, h, mg, mb, T.g, T.b, T.nolimit⟩ x i := fun x i hx => by
    obtain ⟨v, h1, h2⟩ := T.const x _ hx
    cases h2 h
    exact ⟨_, h1⟩
  exact { 
    f3 := fn 3 0 (by kernel_rfl), f4 := fn 4 1 (by kernel_rfl), f5 := fn 5 2 (by kernel_rfl), f6 := fn 6 3 (by kernel_rfl), f7 := fn 7 4 (by kernel_rfl), f9 := fn 9 5 (by kernel_rfl), f10 := fn 10 6 (by kernel_rfl), f11 := fn 11 7 (by kernel_rfl), f12 := fn 12 8 (by kernel_rfl), f13 := fn 13 9 (by kernel_rfl), f14 := fn 14 10 (by kernel_rfl), f15 := fn 15 11 (by kernel_rfl), f16 := fn 16 12 (by kernel_rfl), f17 := fn 17 13 (by kernel_rfl),
    b_isinstance := bi _ _ (by decide +kernel) (by kernel_rfl) (by decide +kernel)
    b_int := bi _ _ (by decide +kernel) (by kernel_rfl) (by decide +kernel)
    b_bool := bi _ _ (by decide +kernel) (by kernel_rfl) (by decide +kernel)
    b_tuple := bi _ _ (by decide +kernel) (by kernel_rfl) (by decide +kernel)
    b_len := bi _ _ (by decide +kernel) (by kernel_rfl) (by decide +kernel)
    b_all := bi _ _ (by decide +kernel) (by kernel_rfl) (by decide +kernel)
    b_range := bi _ _ (by decide +kernel) (by kernel_rfl) (by decide +kernel)
    b_list := bi _ _ (by decide +kernel) (by kernel_rfl) (by decide +kernel)
    i_GREATEST := gi _ _ (by kernel_rfl)
    i_MOST_ROWS := gi _ _ (by kernel_rfl) }
end Mine
theorem PySem.Challenge.cw_uf010038_01_holds : PySem.Challenge.rw_uf010038_01.Holds :=
  Mine.hd (by
  k_fill
  intro w s₀ s₁ mg mb G Y fa o pm cd doc dV kV ho hd hcd hD hmg hg args vals as hpre hlay hrd hwl hlo
  refine Ground.open G ?_
  intro T B D TE TW
  clear hd hcd hD ho B D TE TW G Y
  wrow_args hpre hlay hrd hwl hlo
  rename_i ns _ _ _ _ _ _ _ a vs _ hL _ _ _ hI _ hlen _
  exact Mine.fin PySem.Challenge.rw_uf010038_01 ⟨PySem.Challenge.pw_uf010038_01, w, s₁.heap, mg, mb, T.g, T.b, T.nolimit⟩ rfl rfl rfl hg (d := 5) (by decide) hmg (Mine.c_law (Mine.n01 T) (Mine.scr_of hL hI) (by omega) fun _ => rfl))

