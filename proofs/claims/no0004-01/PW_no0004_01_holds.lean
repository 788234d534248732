import PyProof.Rows.All
import Wide.All
import OpenK.AllK
import Wide.FinOn
import Lean
import PySem.Challenge.RW_no0004_01
set_option Elab.async false
set_option maxRecDepth 100000
set_option maxHeartbeats 10000000
set_option linter.unusedVariables false
section
open PySem PySem.W PySem.Calls PyProof.Rows
namespace Mine

inductive D where
  | none
  | bool (b : Bool)
  | int (i : Int)
  | str (s : Str)
  | tup (l : List D)
  | lst (l : List D)

mutual
def Rep (h : Heap) : D → Value → Prop
  | .none, v => v = .none
  | .bool b, v => v = .bool b
  | .int i, v => ∃ t, v = .int i t
  | .str x, v => ∃ t, v = .str x t
  | .tup l, v => ∃ a vs, v = .ref a ∧ IsTup h a vs.toArray ∧ RepL h l vs
  | .lst l, v => ∃ a vs, v = .ref a ∧ h.IsList a vs.toArray ∧ RepL h l vs
def RepL (h : Heap) : List D → List Value → Prop
  | [], vs => vs = []
  | d :: l, vs => ∃ v r, vs = v :: r ∧ Rep h d v ∧ RepL h l r
end

theorem stays_trans {a b c : Heap} (h : a.StaysIn b) (k : b.StaysIn c) : a.StaysIn c := fun x o e => k x o (h x o e)
theorem stays_refl {a : Heap} : a.StaysIn a := fun _ _ e => e

/-- no name table -/
def ND (o : Obj) : Prop := ∀ es n, o.data ≠ .dict es n
theorem ND.seq {o : Obj} {vs n} (h : o.data = .seq vs n) : ND o := fun _ _ e => by rw [h] at e; cases e
theorem ND.fields {o : Obj} {vs} (h : o.data = .fields vs) : ND o := fun _ _ e => by rw [h] at e; cases e
theorem ND.cell {o : Obj} {v} (h : o.data = .cell v) : ND o := fun _ _ e => by rw [h] at e; cases e
theorem ND.func {o : Obj} {v} (h : o.data = .func v) : ND o := fun _ _ e => by rw [h] at e; cases e
/-- all but name tables stands -/
structure Nd (h h' : Heap) : Prop where
  nd : ∀ b o, h.get? b = some o → ND o → h'.get? b = some o
theorem Nd.of {h h' : Heap} (k : h.StaysIn h') : Nd h h' := ⟨fun b o e _ => k b o e⟩
theorem Nd.refl {h : Heap} : Nd h h := ⟨fun _ _ e _ => e⟩
theorem Nd.trans {a b c : Heap} (h : Nd a b) (k : Nd b c) : Nd a c := ⟨fun x o e n => k.nd x o (h.nd x o e n) n⟩

mutual
theorem Rep.keeps {h h' : Heap} (k : Nd h h') : ∀ {d : D} {v : Value}, Rep h d v → Rep h' d v
  | .none, _, x => by unfold Rep at *; exact x
  | .bool _, _, x => by unfold Rep at *; exact x
  | .int _, _, x => by unfold Rep at *; exact x
  | .str _, _, x => by unfold Rep at *; exact x
  | .tup l, _, x => by
    unfold Rep at *
    obtain ⟨a, vs, e, ⟨o, ho, hc, n, hd⟩, r⟩ := x
    exact ⟨a, vs, e, ⟨o, k.nd _ _ ho (.seq hd), hc, n, hd⟩, RepL.keeps k r⟩
  | .lst l, _, x => by
    unfold Rep at *
    obtain ⟨a, vs, e, ⟨o, ho, hc, n, hd⟩, r⟩ := x
    exact ⟨a, vs, e, ⟨o, k.nd _ _ ho (.seq hd), hc, n, hd⟩, RepL.keeps k r⟩
theorem RepL.keeps {h h' : Heap} (k : Nd h h') : ∀ {l : List D} {vs : List Value}, RepL h l vs → RepL h' l vs
  | [], _, x => by unfold RepL at *; exact x
  | d :: l, _, x => by
    unfold RepL at *
    obtain ⟨v, r, e, a, b⟩ := x
    exact ⟨v, r, e, Rep.keeps k a, RepL.keeps k b⟩
end

theorem RepL.length {h : Heap} : ∀ {l : List D} {vs : List Value}, RepL h l vs → vs.length = l.length
  | [], _, x => by unfold RepL at x; rw [x]; rfl
  | d :: l, _, x => by
    unfold RepL at x
    obtain ⟨v, r, rfl, _, b⟩ := x
    simp [RepL.length b]
theorem RepL.get {h : Heap} : ∀ {l : List D} {vs : List Value} {i : Nat} {d : D}, RepL h l vs → l[i]? = some d → ∃ v, vs[i]? = some v ∧ Rep h d v
  | [], _, _, _, _, e => by simp at e
  | d :: l, _, 0, _, x, e => by
    unfold RepL at x
    obtain ⟨v, r, rfl, a, _⟩ := x
    simp at e; subst e
    exact ⟨v, by simp, a⟩
  | d :: l, _, i + 1, _, x, e => by
    unfold RepL at x
    obtain ⟨v, r, rfl, _, b⟩ := x
    simp at e
    obtain ⟨y, hy, ry⟩ := RepL.get b e
    exact ⟨y, by simpa using hy, ry⟩
theorem RepL.append {h : Heap} : ∀ {l l' : List D} {vs vs' : List Value}, RepL h l vs → RepL h l' vs' → RepL h (l ++ l') (vs ++ vs')
  | [], _, _, _, x, y => by unfold RepL at x; subst x; simpa using y
  | d :: l, _, _, _, x, y => by
    unfold RepL at x
    obtain ⟨v, r, rfl, a, b⟩ := x
    rw [List.cons_append, List.cons_append]
    unfold RepL
    exact ⟨v, _, rfl, a, RepL.append b y⟩
theorem RepL.nil {h : Heap} : RepL h [] [] := by unfold RepL; rfl
theorem RepL.cons {h : Heap} {d : D} {l : List D} {v : Value} {vs : List Value} (a : Rep h d v) (b : RepL h l vs) : RepL h (d :: l) (v :: vs) := by
  unfold RepL; exact ⟨v, vs, rfl, a, b⟩
theorem RepL.one {h : Heap} {d : D} {v : Value} (a : Rep h d v) : RepL h [d] [v] := RepL.cons a RepL.nil

theorem Rep.int {h : Heap} {i : Int} {t : Tok} : Rep h (.int i) (.int i t) := by unfold Rep; exact ⟨t, rfl⟩
theorem Rep.str {h : Heap} {x : Str} {t : Tok} : Rep h (.str x) (.str x t) := by unfold Rep; exact ⟨t, rfl⟩
theorem Rep.bool {h : Heap} {b : Bool} : Rep h (.bool b) (.bool b) := by unfold Rep; rfl
theorem Rep.none {h : Heap} : Rep h .none .none := by unfold Rep; rfl
theorem Rep.tup {h : Heap} {l : List D} {a : Addr} {vs : List Value} (t : IsTup h a vs.toArray) (r : RepL h l vs) : Rep h (.tup l) (.ref a) := by
  unfold Rep; exact ⟨a, vs, rfl, t, r⟩
theorem Rep.lst {h : Heap} {l : List D} {a : Addr} {vs : List Value} (t : h.IsList a vs.toArray) (r : RepL h l vs) : Rep h (.lst l) (.ref a) := by
  unfold Rep; exact ⟨a, vs, rfl, t, r⟩
theorem Rep.int_inv {h : Heap} {i : Int} {v : Value} (x : Rep h (.int i) v) : ∃ t, v = .int i t := by unfold Rep at x; exact x
theorem Rep.str_inv {h : Heap} {i : Str} {v : Value} (x : Rep h (.str i) v) : ∃ t, v = .str i t := by unfold Rep at x; exact x
theorem Rep.bool_inv {h : Heap} {i : Bool} {v : Value} (x : Rep h (.bool i) v) : v = .bool i := by unfold Rep at x; exact x
theorem Rep.none_inv {h : Heap} {v : Value} (x : Rep h .none v) : v = .none := by unfold Rep at x; exact x
theorem Rep.tup_inv {h : Heap} {l : List D} {v : Value} (x : Rep h (.tup l) v) : ∃ a vs, v = .ref a ∧ IsTup h a vs.toArray ∧ RepL h l vs := by unfold Rep at x; exact x
theorem Rep.lst_inv {h : Heap} {l : List D} {v : Value} (x : Rep h (.lst l) v) : ∃ a vs, v = .ref a ∧ h.IsList a vs.toArray ∧ RepL h l vs := by unfold Rep at x; exact x
theorem RepL.cons_inv {h : Heap} {d : D} {l : List D} {vs : List Value} (x : RepL h (d :: l) vs) : ∃ v r, vs = v :: r ∧ Rep h d v ∧ RepL h l r := by unfold RepL at x; exact x
theorem RepL.nil_inv {h : Heap} {vs : List Value} (x : RepL h [] vs) : vs = [] := by unfold RepL at x; exact x

/-- what is the same for the whole run -/
structure Cx where
  prog : Program
  w : World
  K : Frag
  p : Program
  loose : List Str
  mean : ExcName → Option Value
  mg : Str → Option Value
  mb : Str → Option Value
  base : Heap

/-- the heap has grown; a name table may have other slots (but for those of the base) -/
structure Le (c : Cx) (h h' : Heap) : Prop where
  nd : ∀ b o, h.get? b = some o → ND o → h'.get? b = some o
  dt : ∀ b o es n, h.get? b = some o → o.data = .dict es n → ∃ sl, h'.get? b = some { o with slots := sl }
  bs : c.base.StaysIn h → c.base.StaysIn h'
theorem Le.of {c : Cx} {h h' : Heap} (k : h.StaysIn h') : Le c h h' := ⟨fun b o e _ => k b o e, fun b o _ _ e _ => ⟨o.slots, k b o e⟩, fun q => stays_trans q k⟩
theorem Le.refl {c : Cx} {h : Heap} : Le c h h := .of stays_refl
theorem Le.trans {c : Cx} {a b d : Heap} (h : Le c a b) (k : Le c b d) : Le c a d :=
  ⟨fun x o e n => k.nd x o (h.nd x o e n) n, fun x o es n e f => let ⟨_, e'⟩ := h.dt x o es n e f; let ⟨sl, e''⟩ := k.dt x _ es n e' f; ⟨sl, e''⟩, fun q => k.bs (h.bs q)⟩
theorem Le.to {c : Cx} {h h' : Heap} (k : Le c h h') : Nd h h' := ⟨k.nd⟩
theorem Le.someOf {c : Cx} {h h' : Heap} (k : Le c h h') {b : Addr} {o : Obj} (e : h.get? b = some o) : ∃ o', h'.get? b = some o' ∧ o'.data = o.data ∧ o'.cls = o.cls := by
  by_cases q : ND o
  · exact ⟨o, k.nd b o e q, rfl, rfl⟩
  · unfold ND at q
    simp only [ne_eq, Classical.not_forall, Classical.not_not] at q
    obtain ⟨es, n, q⟩ := q
    obtain ⟨sl, e'⟩ := k.dt b o es n e q
    exact ⟨_, e', rfl, rfl⟩
theorem Le.noneOf {c : Cx} {h h' : Heap} (k : Le c h h') {b : Addr} (e : h'.get? b = none) : h.get? b = none := by
  cases q : h.get? b with
  | none => rfl
  | some o => obtain ⟨o', e', _⟩ := k.someOf q; rw [e] at e'; cases e'
theorem Le.ns {c : Cx} {h h' : Heap} (k : Le c h h') {a : Addr} {m : Str → Option Value} (hn : h.Ns a m) : h'.Ns a m := by
  obtain ⟨o, es, ep, ho, hd, r⟩ := hn
  obtain ⟨sl, hs⟩ := k.dt a o es ep ho hd
  exact ⟨_, es, ep, hs, hd, r⟩
theorem Nd.cell {h h' : Heap} (k : Nd h h') {a : Addr} {v : Option Value} (hc : h.IsCell a v) : h'.IsCell a v := by
  obtain ⟨o, ho, hd⟩ := hc
  exact ⟨o, k.nd _ _ ho (.cell hd), hd⟩

/-- same but for the heap, which has grown, and the marks -/
structure Up (c : Cx) (s s' : Shared) : Prop where
  keep : Le c s.heap s'.heap
  same : s' = { s with heap := s'.heap, toks := s'.toks }
section
variable {c : Cx}
theorem Up.refl {s : Shared} : Up c s s := ⟨Le.refl, rfl⟩
theorem Up.trans {a b d : Shared} (h : Up c a b) (k : Up c b d) : Up c a d := ⟨h.keep.trans k.keep, by rw [k.same, h.same]⟩
theorem Up.tok {s : Shared} {n : Nat} : Up c s { s with toks := n } := ⟨Le.refl, rfl⟩
theorem Up.push {s : Shared} {o : Obj} {n : Nat} : Up c s { s with heap := s.heap.push o, toks := n } := ⟨.of fun _ _ e => Heap.get?_push_of_some _ e, rfl⟩
theorem Up.heap {s : Shared} {h : Heap} {n : Nat} (k : s.heap.StaysIn h) : Up c s { s with heap := h, toks := n } := ⟨.of k, rfl⟩
end

/-- the frames on the stack -/
def DFr (base : Heap) (h : Heap) (l : List Env) : Prop := ∀ env ∈ l, env.scope.kind ≠ .module ∧ ∃ L o es n, env.frame = some L ∧ base.get? L = none ∧ h.get? L = some o ∧ o.data = .dict es n
theorem DFr.keeps {c : Cx} {h h' : Heap} {l : List Env} (f : DFr c.base h l) (k : Le c h h') : DFr c.base h' l := fun env he =>
  let ⟨a, L, o, es, n, b, b', e, d⟩ := f env he
  let ⟨_, e'⟩ := k.dt L o es n e d
  ⟨a, L, _, es, n, b, b', e', d⟩

structure Cx.B (c : Cx) (h : Heap) : Prop where
  kb : c.K.In c.base
  tb : Top c.p c.loose c.mean c.mg c.mb c.base
  st : c.base.StaysIn h
theorem Cx.B.k {c : Cx} {h : Heap} (g : c.B h) : c.K.In h := g.kb.keeps g.st
theorem Cx.B.top {c : Cx} {h : Heap} (g : c.B h) : Top c.p c.loose c.mean c.mg c.mb h := g.tb.keeps g.st
theorem Cx.B.keeps {c : Cx} {h h' : Heap} (g : c.B h) (k : Le c h h') : c.B h' := ⟨g.kb, g.tb, k.bs g.st⟩
structure Cx.G (c : Cx) (A : Around) (h : Heap) : Prop extends c.B h where
  fr : ∃ l, A.frames = some l ∧ DFr c.base h l
theorem Cx.G.k {c : Cx} {A : Around} {h : Heap} (g : c.G A h) : c.K.In h := g.toB.k
theorem Cx.G.top {c : Cx} {A : Around} {h : Heap} (g : c.G A h) : Top c.p c.loose c.mean c.mg c.mb h := g.toB.top
theorem Cx.G.keeps {c : Cx} {A : Around} {h h' : Heap} (g : c.G A h) (k : Le c h h') : c.G A h' := ⟨g.toB.keeps k, let ⟨l, a, f⟩ := g.fr; ⟨l, a, f.keeps k⟩⟩

/-- room for n more frames -/
structure Room (n : Nat) (A : Around) : Prop where
  depth : A.depth + 2 * n + 20 < 600
  units : A.units + 8 * n + 200 < cLine
  handled : A.handled = .none

/-- where a name's value came from: new: no more said; old: it stood ahead of the call; own: a list that the call made -/
inductive Tg where
  | new | old | own
abbrev Loc := List (Str × (Tg × D))

/-- the frame holds v under the name x -/
def Holds (env : Env) (m : Str → Option Value) (h : Heap) (x : Str) (v : Value) : Prop :=
  (env.kindOf x = some .local ∧ m x = some v) ∨
  ((env.kindOf x = some .cell ∨ env.kindOf x = some .free) ∧ ∃ k, env.cells.lookup x = some k ∧ h.IsCell k (some v))
theorem Holds.keeps {env : Env} {m : Str → Option Value} {h h' : Heap} {x : Str} {v : Value} (H : Holds env m h x v) (k : Nd h h') : Holds env m h' x v := by
  rcases H with H | ⟨a, q, b, r⟩
  · exact .inl H
  · exact .inr ⟨a, q, b, k.cell r⟩

structure Held (env : Env) (m : Str → Option Value) (h₀ h : Heap) (x : Str) (g : Tg) (d : D) (v : Value) : Prop where
  holds : Holds env m h x v
  rep : Rep h d v
  old : g = .old → Rep h₀ d v
  own : g = .own → ∃ a its k, v = .ref a ∧ h₀.get? a = none ∧ h.get? a = some (listOf its k)

/-- the frames on the stack, seen from a call's entry -/
def FrS (c : Cx) (A : Around) (L₀ : Addr) (h₀ : Heap) : Prop :=
  ∃ l, A.frames = some l ∧ ∀ env ∈ l, env.scope.kind ≠ .module ∧ ∃ L, env.frame = some L ∧ c.base.get? L = none ∧ (L = L₀ ∨ ∃ o es n, h₀.get? L = some o ∧ o.data = .dict es n)

structure St (c : Cx) (A : Around) (env : Env) (h₀ : Heap) (ρ : Loc) (h : Heap) : Prop where
  base : c.B h₀
  frs : FrS c A env.locals h₀
  keep : Le c h₀ h
  above : h₀.get? env.locals = none
  cel : ∀ n k, env.cells.lookup n = some k → k ≠ env.locals ∧ ∃ v, h.IsCell k v
  val : ∃ m, h.Ns env.locals m ∧ ∀ x g d, ρ.lookup x = some (g, d) → ∃ v, Held env m h₀ h x g d v

theorem St.g {c : Cx} {A : Around} {env : Env} {h₀ h : Heap} {ρ : Loc} (S : St c A env h₀ ρ h) : c.G A h := by
  refine ⟨S.base.keeps S.keep, ?_⟩
  obtain ⟨l, hl, hf⟩ := S.frs
  refine ⟨l, hl, fun e he => ?_⟩
  obtain ⟨a, L, b, b', q⟩ := hf e he
  rcases q with rfl | ⟨o, es, n, ho, hd⟩
  · obtain ⟨m, ⟨o, es, ep, ho, hd, _⟩, _⟩ := S.val
    exact ⟨a, _, o, es, ep, b, b', ho, hd⟩
  · obtain ⟨sl, ho'⟩ := S.keep.dt L o es n ho hd
    exact ⟨a, L, _, es, n, b, b', ho', hd⟩
theorem St.keeps {c : Cx} {A : Around} {env : Env} {h₀ h h' : Heap} {ρ : Loc} (S : St c A env h₀ ρ h) (k : Le c h h') : St c A env h₀ ρ h' where
  base := S.base
  frs := S.frs
  keep := S.keep.trans k
  above := S.above
  cel := fun n q e => ⟨(S.cel n q e).1, let ⟨v, x⟩ := (S.cel n q e).2; ⟨v, k.to.cell x⟩⟩
  val := by
    obtain ⟨m, hm, hx⟩ := S.val
    refine ⟨m, k.ns hm, fun x g d e => ?_⟩
    obtain ⟨v, a, b, p, q⟩ := hx x g d e
    exact ⟨v, a.keeps k.to, b.keeps k.to, p, fun e => let ⟨a, i, j, e1, e2, e3⟩ := q e; ⟨a, i, j, e1, e2, k.nd _ _ e3 (.seq rfl)⟩⟩
theorem St.forget {c : Cx} {A : Around} {env : Env} {h₀ h : Heap} {ρ ρ' : Loc} (S : St c A env h₀ ρ h) (e : ∀ x g d, ρ'.lookup x = some (g, d) → ρ.lookup x = some (g, d)) : St c A env h₀ ρ' h :=
  ⟨S.base, S.frs, S.keep, S.above, S.cel, let ⟨m, hm, hx⟩ := S.val; ⟨m, hm, fun x g d h => hx x g d (e x g d h)⟩⟩

/-- a tree that gives a value -/
def TV (c : Cx) (n : Nat) (env : Env) (ρ : Loc) (t : Sem Value) (P : D → Prop) : Prop :=
  ∀ (h₀ : Heap) (A : Around) (s : Shared) (Q : Value → Shared → Prop), Room n A → St c A env h₀ ρ s.heap →
    (∀ v d s', Up c s s' → Rep s'.heap d v → P d → Q v s') → wpAny (model c.prog c.w) A t Q (fun _ _ => False) s
def TB (c : Cx) (n : Nat) (env : Env) (ρ : Loc) (t : Sem Bool) (P : Bool → Prop) : Prop :=
  ∀ (h₀ : Heap) (A : Around) (s : Shared) (Q : Bool → Shared → Prop), Room n A → St c A env h₀ ρ s.heap →
    (∀ b s', Up c s s' → P b → Q b s') → wpAny (model c.prog c.w) A t Q (fun _ _ => False) s
def TVs (c : Cx) (n : Nat) (env : Env) (ρ : Loc) (t : Sem (List Value)) (P : List D → Prop) : Prop :=
  ∀ (h₀ : Heap) (A : Around) (s : Shared) (Q : List Value → Shared → Prop), Room n A → St c A env h₀ ρ s.heap →
    (∀ vs ds s', Up c s s' → RepL s'.heap ds vs → P ds → Q vs s') → wpAny (model c.prog c.w) A t Q (fun _ _ => False) s
abbrev EV (c : Cx) (n : Nat) (env : Env) (ρ : Loc) (e : Expr) (P : D → Prop) : Prop := TV c n env ρ (eval e env) P
abbrev EB (c : Cx) (n : Nat) (env : Env) (ρ : Loc) (e : Expr) (P : Bool → Prop) : Prop := TB c n env ρ (isTrue e env (eval e env)) P

/-- an operation upon values -/
def O1 (c : Cx) (n : Nat) (f : Value → Sem Value) (d : D) (P : D → Prop) : Prop :=
  ∀ (A : Around) (s : Shared) (Q : Value → Shared → Prop) (x : Value), Room n A → c.G A s.heap → Rep s.heap d x →
    (∀ v d s', Up c s s' → Rep s'.heap d v → P d → Q v s') → wpAny (model c.prog c.w) A (f x) Q (fun _ _ => False) s
def O2 (c : Cx) (n : Nat) (f : Value → Value → Sem Value) (d e : D) (P : D → Prop) : Prop :=
  ∀ (A : Around) (s : Shared) (Q : Value → Shared → Prop) (x y : Value), Room n A → c.G A s.heap → Rep s.heap d x → Rep s.heap e y →
    (∀ v d s', Up c s s' → Rep s'.heap d v → P d → Q v s') → wpAny (model c.prog c.w) A (f x y) Q (fun _ _ => False) s
def OB (c : Cx) (n : Nat) (f : Value → Sem Bool) (d : D) (P : Bool → Prop) : Prop :=
  ∀ (A : Around) (s : Shared) (Q : Bool → Shared → Prop) (x : Value), Room n A → c.G A s.heap → Rep s.heap d x →
    (∀ v s', Up c s s' → P v → Q v s') → wpAny (model c.prog c.w) A (f x) Q (fun _ _ => False) s
/-- a call -/
def FN (c : Cx) (n : Nat) (f : Value) (ds : List D) (P : D → Prop) : Prop :=
  ∀ (A : Around) (s : Shared) (Q : Value → Shared → Prop) (vs : List Value), Room n A → c.G A s.heap → RepL s.heap ds vs →
    (∀ v d s', Up c s s' → Rep s'.heap d v → P d → Q v s') → wpAny (model c.prog c.w) A (call f vs) Q (fun _ _ => False) s

section
variable {c : Cx} {n : Nat} {env : Env} {ρ : Loc} {P P' : D → Prop}
theorem TV.mono {t : Sem Value} (h : TV c n env ρ t P) (k : ∀ d, P d → P' d) : TV c n env ρ t P' :=
  fun h₀ A s Q R S hQ => h h₀ A s Q R S fun v d s' u r p => hQ v d s' u r (k d p)
theorem FN.mono {f : Value} {ds : List D} (h : FN c n f ds P) (k : ∀ d, P d → P' d) : FN c n f ds P' :=
  fun A s Q vs R S r hQ => h A s Q vs R S r fun v d s' u r p => hQ v d s' u r (k d p)

theorem EV_int {i k pos} (h : P (.int i)) : EV c n env ρ (.Constant (.int i) k pos) P :=
  fun _ _ _ _ _ _ hQ => wpAny_Constant_int (hQ _ _ _ Up.tok Rep.int h)
theorem EV_str {x k pos} (h : P (.str x)) : EV c n env ρ (.Constant (.str x) k pos) P :=
  fun _ _ _ _ _ _ hQ => wpAny_Constant_str (hQ _ _ _ Up.tok Rep.str h)
theorem EV_bool {x k pos} (h : P (.bool x)) : EV c n env ρ (.Constant (.bool x) k pos) P :=
  fun _ _ _ _ _ _ hQ => Constant_bool (hQ _ _ _ Up.refl Rep.bool h)
theorem EV_none {k pos} (h : P .none) : EV c n env ρ (.Constant .none k pos) P :=
  fun _ _ _ _ _ _ hQ => Constant_none (hQ _ _ _ Up.refl Rep.none h)

theorem EV_name {x : Str} {pos : Pos} {g : Tg} {d : D} (hx : ρ.lookup x = some (g, d)) (h : P d) (hk : env.scope.kind = .function := by rfl)
    (hd : (x == ("__debug__" : Str)) = false := by decide) (hd' : (x == ("__classdict__" : Str)) = false := by decide) : EV c n env ρ (.Name x pos) P := by
  intro h₀ A s Q R S hQ
  refine wpAny_Name ?_ hd
  obtain ⟨m, hm, hv⟩ := S.val
  obtain ⟨v, H, r, _, _⟩ := hv x g d hx
  rcases H with ⟨a, b⟩ | ⟨a, q, b, t⟩
  · exact wpAny_loadName_local hk a hm b (hQ _ _ _ Up.refl r h)
  · rcases a with a | a
    · exact wpAny_loadName_cell hk a b t (hQ _ _ _ Up.refl r h)
    · exact wpAny_loadName_free hk a b t (hQ _ _ _ Up.refl r h) hd'

theorem EV_bin {l r : Expr} {op : Operator} {pos : Pos} (h : EV c n env ρ l fun a => EV c n env ρ r fun b => O2 c n (binaryOp op) a b P) : EV c n env ρ (.BinOp l op r pos) P := by
  intro h₀ A s Q R S hQ
  refine wpAny_BinOp (h h₀ A s _ R S fun v d s' u r p => ?_)
  refine p h₀ A s' _ R (S.keeps u.keep) fun v2 d2 s2 u2 r2 p2 => ?_
  refine p2 A s2 _ v v2 R (S.keeps (u.trans u2).keep).g (r.keeps u2.keep.to) r2 fun v3 d3 s3 u3 r3 p3 => ?_
  exact hQ _ _ _ ((u.trans u2).trans u3) r3 p3
end
end Mine
end
section
open PySem PySem.W PySem.Calls PyProof.Rows
namespace Mine

def D.isNone : D → Bool
  | .none => true
  | _ => false
theorem rep_isNone {h : Heap} {d : D} {x : Value} (hx : Rep h d x) : (x == Value.none) = d.isNone := by
  cases d with
  | none => obtain rfl := hx.none_inv; rfl
  | bool b => obtain rfl := hx.bool_inv; rfl
  | int b => obtain ⟨t, rfl⟩ := hx.int_inv; rfl
  | str b => obtain ⟨t, rfl⟩ := hx.str_inv; rfl
  | tup l => obtain ⟨a, vs, rfl, _⟩ := hx.tup_inv; rfl
  | lst l => obtain ⟨a, vs, rfl, _⟩ := hx.lst_inv; rfl

section
variable {c : Cx} {n : Nat} {env : Env} {ρ : Loc} {P : D → Prop}

theorem log2_small {y : Int} (h : y.natAbs < 2 ^ 4000) : y.natAbs.log2 < 9000 := by
  by_cases h0 : y.natAbs = 0
  · rw [h0]; decide
  · have : y.natAbs.log2 < 4000 := (Nat.log2_lt h0).mpr h
    omega
theorem bits_small {y : Int} (h : y.natAbs < 2 ^ 4000) : Builtin.Int.intBits y ≤ 4000 := by
  unfold Builtin.Int.intBits
  split
  · omega
  · rename_i h0
    have h0' : y.natAbs ≠ 0 := by simpa using h0
    have : y.natAbs.log2 < 4000 := (Nat.log2_lt h0').mpr h
    omega
theorem mulOk {a b : Int} (ha : a.natAbs < 2 ^ 4000) (hb : b.natAbs < 2 ^ 4000) : IntMulOk a b := by
  unfold IntMulOk
  have h1 := bits_small ha
  have h2 := bits_small hb
  have : Builtin.Int.intTooBig (Builtin.Int.intBits a + Builtin.Int.intBits b) = false := by
    unfold Builtin.Int.intTooBig
    simp only [bitsLine_eq, decide_eq_false_iff_not]
    omega
  simp [this]

/-- small enough for the model's lines -/
def Sm (x : Int) : Prop := x.natAbs < 2 ^ 4000

theorem O2_add {a b : Int} (h : P (.int (a + b))) : O2 c n (binaryOp .Add) (.int a) (.int b) P := by
  intro A s Q x y R G hx hy hQ
  obtain ⟨t, rfl⟩ := hx.int_inv
  obtain ⟨u, rfl⟩ := hy.int_inv
  exact PyProof.Rows.add_int (hQ _ _ _ Up.tok Rep.int h)
theorem O2_sub {a b : Int} (h : P (.int (a - b))) : O2 c n (binaryOp .Sub) (.int a) (.int b) P := by
  intro A s Q x y R G hx hy hQ
  obtain ⟨t, rfl⟩ := hx.int_inv
  obtain ⟨u, rfl⟩ := hy.int_inv
  exact PyProof.Rows.sub_int (hQ _ _ _ Up.tok Rep.int h)
theorem O2_mul {a b : Int} (hs : Sm a ∧ Sm b) (h : P (.int (a * b))) : O2 c n (binaryOp .Mult) (.int a) (.int b) P := by
  intro A s Q x y R G hx hy hQ
  obtain ⟨t, rfl⟩ := hx.int_inv
  obtain ⟨u, rfl⟩ := hy.int_inv
  exact PyProof.Rows.mul_int (hQ _ _ _ Up.tok Rep.int h) (mulOk hs.1 hs.2)
theorem O2_div {a b : Int} (hs : Sm b) (h0 : b ≠ 0) (h : P (.int (a.fdiv b))) : O2 c n (binaryOp .FloorDiv) (.int a) (.int b) P := by
  intro A s Q x y R G hx hy hQ
  obtain ⟨t, rfl⟩ := hx.int_inv
  obtain ⟨u, rfl⟩ := hy.int_inv
  exact PyProof.Rows.floordiv_int h0 (hQ _ _ _ Up.tok Rep.int h) (.inl (PyProof.noPylong_of_log2 (log2_small hs)))
theorem O2_mod {a b : Int} (h0 : b ≠ 0) (h : P (.int (a.fmod b))) : O2 c n (binaryOp .Mod) (.int a) (.int b) P := by
  intro A s Q x y R G hx hy hQ
  obtain ⟨t, rfl⟩ := hx.int_inv
  obtain ⟨u, rfl⟩ := hy.int_inv
  exact mod_int' h0 (hQ _ _ _ Up.tok Rep.int h)
theorem O2_pow {a b : Int} (h0 : 0 ≤ b ∧ b ≤ 1000 ∧ a.natAbs < 2 ^ 64) (h : P (.int (a ^ b.toNat))) : O2 c n (binaryOp .Pow) (.int a) (.int b) P := by
  intro A s Q x y R G hx hy hQ
  obtain ⟨t, rfl⟩ := hx.int_inv
  obtain ⟨u, rfl⟩ := hy.int_inv
  exact pow_int_small h0.1 (by omega) h0.2.2 (hQ _ _ _ Up.tok Rep.int h)
theorem O2_subB {a b : Bool} (h : P (.int (b2i a - b2i b))) : O2 c n (binaryOp .Sub) (.bool a) (.bool b) P := by
  intro A s Q x y R G hx hy hQ
  obtain rfl := hx.bool_inv
  obtain rfl := hy.bool_inv
  exact sub_bool (hQ _ _ _ Up.tok Rep.int h)
theorem O2_addS {a b : Str} (hs : a.length + b.length ≤ 100000) (h : P (.str (a ++ b))) : O2 c n (binaryOp .Add) (.str a) (.str b) P := by
  intro A s Q x y R G hx hy hQ
  obtain ⟨t, rfl⟩ := hx.str_inv
  obtain ⟨u, rfl⟩ := hy.str_inv
  exact PyProof.Rows.add_str (fun t' tk => hQ _ _ _ Up.tok Rep.str h) (by rw [sizeLine_eq]; omega)
theorem O1_neg {a : Int} (h : P (.int (-a))) : O1 c n (unaryOp .USub) (.int a) P := by
  intro A s Q x R G hx hQ
  obtain ⟨t, rfl⟩ := hx.int_inv
  exact PyProof.Rows.neg_int (hQ _ _ _ Up.tok Rep.int h)

theorem OB_int {a : Int} {P : Bool → Prop} (h : P (a != 0)) : OB c n truthy (.int a) P := by
  intro A s Q x R G hx hQ
  obtain ⟨t, rfl⟩ := hx.int_inv
  exact PyProof.Rows.truthy_int (hQ _ _ Up.refl h)
theorem OB_bool {a : Bool} {P : Bool → Prop} (h : P a) : OB c n truthy (.bool a) P := by
  intro A s Q x R G hx hQ
  obtain rfl := hx.bool_inv
  exact wpAny_truthy_bool (hQ _ _ Up.refl h)
theorem OB_none {P : Bool → Prop} (h : P false) : OB c n truthy .none P := by
  intro A s Q x R G hx hQ
  obtain rfl := hx.none_inv
  exact PyProof.Rows.truthy_none (hQ _ _ Up.refl h)

theorem O1_not {d : D} (h : OB c n truthy d fun q => P (.bool (!q))) : O1 c n (unaryOp .Not) d P := by
  intro A s Q x R G hx hQ
  exact PyProof.Rows.not_of (h A s _ x R G hx fun v s' u p => hQ _ _ _ u Rep.bool p)

theorem EV_un {op : UnaryOp} {e : Expr} {pos : Pos} (h : EV c n env ρ e fun a => O1 c n (unaryOp op) a P) : EV c n env ρ (.UnaryOp op e pos) P := by
  intro h₀ A s Q R S hQ
  refine UnaryOp_ (h h₀ A s _ R S fun v d s' u r p => ?_)
  exact p A s' _ v R (S.keeps u.keep).g r fun v3 d3 s3 u3 r3 p3 => hQ _ _ _ (u.trans u3) r3 p3

/-- a comparison -/
def CMP (c : Cx) (n : Nat) (op : CmpOp) (d e : D) (P : Bool → Prop) : Prop := O2 c n (compareOp op) d e fun r => ∃ q, r = .bool q ∧ P q

theorem cmp_of {op : CmpOp} {d e : D} {P : Bool → Prop} {q : Bool}
    (k : ∀ (A : Around) (s : Shared) (Q : Value → Shared → Prop) (x y : Value), Room n A → c.G A s.heap → Rep s.heap d x → Rep s.heap e y → (∀ n, Q (.bool q) { s with toks := n }) → wpAny (model c.prog c.w) A (compareOp op x y) Q (fun _ _ => False) s)
    (h : P q) : CMP c n op d e P := by
  intro A s Q x y R G hx hy hQ
  exact k A s Q x y R G hx hy fun n => hQ _ _ _ Up.tok Rep.bool ⟨q, rfl, h⟩

theorem CMP_eq {a b : Int} {P : Bool → Prop} (h : P (decide (a = b))) : CMP c n .Eq (.int a) (.int b) P := by
  refine cmp_of (fun A s Q x y R G hx hy hQ => ?_) h
  obtain ⟨t, rfl⟩ := hx.int_inv
  obtain ⟨u, rfl⟩ := hy.int_inv
  exact PyProof.Rows.eq_int (by have := hQ s.toks; rwa [show (decide (a = b)) = (a == b) from by cases h : (a == b) <;> simp_all] at this)
theorem CMP_ne {a b : Int} {P : Bool → Prop} (h : P (decide (a ≠ b))) : CMP c n .NotEq (.int a) (.int b) P := by
  refine cmp_of (fun A s Q x y R G hx hy hQ => ?_) h
  obtain ⟨t, rfl⟩ := hx.int_inv
  obtain ⟨u, rfl⟩ := hy.int_inv
  refine PyProof.Rows.ne_int ?_
  have := hQ s.toks
  have e : (decide (a ≠ b)) = (a != b) := by cases h : (a != b) <;> simp_all
  rwa [e] at this
theorem CMP_lt {a b : Int} {P : Bool → Prop} (h : P (decide (a < b))) : CMP c n .Lt (.int a) (.int b) P := by
  refine cmp_of (fun A s Q x y R G hx hy hQ => ?_) h
  obtain ⟨t, rfl⟩ := hx.int_inv
  obtain ⟨u, rfl⟩ := hy.int_inv
  exact PyProof.Rows.lt_int (hQ s.toks)
theorem CMP_le {a b : Int} {P : Bool → Prop} (h : P (decide (a ≤ b))) : CMP c n .LtE (.int a) (.int b) P := by
  refine cmp_of (fun A s Q x y R G hx hy hQ => ?_) h
  obtain ⟨t, rfl⟩ := hx.int_inv
  obtain ⟨u, rfl⟩ := hy.int_inv
  exact PyProof.Rows.le_int (hQ s.toks)
theorem CMP_gt {a b : Int} {P : Bool → Prop} (h : P (decide (b < a))) : CMP c n .Gt (.int a) (.int b) P := by
  refine cmp_of (fun A s Q x y R G hx hy hQ => ?_) h
  obtain ⟨t, rfl⟩ := hx.int_inv
  obtain ⟨u, rfl⟩ := hy.int_inv
  exact PyProof.Rows.gt_int (hQ s.toks)
theorem CMP_ge {a b : Int} {P : Bool → Prop} (h : P (decide (b ≤ a))) : CMP c n .GtE (.int a) (.int b) P := by
  refine cmp_of (fun A s Q x y R G hx hy hQ => ?_) h
  obtain ⟨t, rfl⟩ := hx.int_inv
  obtain ⟨u, rfl⟩ := hy.int_inv
  exact PyProof.Rows.ge_int (hQ s.toks)
theorem CMP_eqS {a b : Str} {P : Bool → Prop} (h : P (a == b)) : CMP c n .Eq (.str a) (.str b) P := by
  refine cmp_of (fun A s Q x y R G hx hy hQ => ?_) h
  obtain ⟨t, rfl⟩ := hx.str_inv
  obtain ⟨u, rfl⟩ := hy.str_inv
  exact PyProof.Rows.eq_str (hQ s.toks)
theorem CMP_neB {a b : Bool} {P : Bool → Prop} (h : P (a != b)) : CMP c n .NotEq (.bool a) (.bool b) P := by
  refine cmp_of (fun A s Q x y R G hx hy hQ => ?_) h
  obtain rfl := hx.bool_inv
  obtain rfl := hy.bool_inv
  exact PyProof.Rows.ne_bool (hQ s.toks)
theorem CMP_isNone {d : D} {P : Bool → Prop} (h : P d.isNone) : CMP c n .Is d .none P := by
  refine cmp_of (fun A s Q x y R G hx hy hQ => ?_) h
  obtain rfl := hy.none_inv
  refine is_none_gen ?_
  rw [rep_isNone hx]; exact hQ s.toks
theorem CMP_isNotNone {d : D} {P : Bool → Prop} (h : P (!d.isNone)) : CMP c n .IsNot d .none P := by
  refine cmp_of (fun A s Q x y R G hx hy hQ => ?_) h
  obtain rfl := hy.none_inv
  refine isnot_none_gen ?_
  rw [rep_isNone hx]; exact hQ s.toks
theorem CMP_inS {a b : Str} {P : Bool → Prop} (h : P (!(Builtin.Str.occurrences b a 0 b.length 1).isEmpty)) : CMP c n .In (.str a) (.str b) P := by
  refine cmp_of (fun A s Q x y R G hx hy hQ => ?_) h
  obtain ⟨t, rfl⟩ := hx.str_inv
  obtain ⟨u, rfl⟩ := hy.str_inv
  exact PyProof.Rows.in_str (hQ s.toks)

theorem EV_cmp {l r : Expr} {op : CmpOp} {pos : Pos} (h : EV c n env ρ l fun a => EV c n env ρ r fun b => CMP c n op a b fun q => P (.bool q))
    (hm : behindInMarks op r = false := by with_unfolding_all rfl) : EV c n env ρ (.Compare l [op] [r] pos) P := by
  intro h₀ A s Q R S hQ
  refine wpAny_Compare1 (h h₀ A s _ R S fun v d s' u r p => ?_) hm
  refine p h₀ A s' _ R (S.keeps u.keep) fun v2 d2 s2 u2 r2 p2 => ?_
  refine p2 A s2 _ v v2 R (S.keeps (u.trans u2).keep).g (r.keeps u2.keep.to) r2 fun v3 d3 s3 u3 r3 p3 => ?_
  obtain ⟨q, rfl, p3⟩ := p3
  exact hQ _ _ _ ((u.trans u2).trans u3) r3 p3
theorem EB_cmp {l r : Expr} {op : CmpOp} {pos : Pos} {P : Bool → Prop} (h : EV c n env ρ l fun a => EV c n env ρ r fun b => CMP c n op a b P)
    (hm : behindInMarks op r = false := by with_unfolding_all rfl) : EB c n env ρ (.Compare l [op] [r] pos) P := by
  intro h₀ A s Q R S hQ
  refine wpAny_isTrue_Compare1 (h h₀ A s _ R S fun v d s' u r p => ?_) hm
  refine p h₀ A s' _ R (S.keeps u.keep) fun v2 d2 s2 u2 r2 p2 => ?_
  refine p2 A s2 _ v v2 R (S.keeps (u.trans u2).keep).g (r.keeps u2.keep.to) r2 fun v3 d3 s3 u3 r3 p3 => ?_
  obtain ⟨q, rfl, p3⟩ := p3
  obtain rfl := r3.bool_inv
  exact wpAny_truthy_bool (hQ _ _ ((u.trans u2).trans u3) p3)

theorem EV_cmp2 {l r₁ r₂ : Expr} {op₁ op₂ : CmpOp} {pos : Pos}
    (h : EV c n env ρ l fun a => EV c n env ρ r₁ fun b => CMP c n op₁ a b fun q => (q = true → EV c n env ρ r₂ fun d => CMP c n op₂ b d fun q => P (.bool q)) ∧ (q = false → P (.bool false)))
    (hm : lastMarks [op₁, op₂] [r₁, r₂] = false := by with_unfolding_all rfl) : EV c n env ρ (.Compare l [op₁, op₂] [r₁, r₂] pos) P := by
  intro h₀ A s Q R S hQ
  refine Compare_chain (h h₀ A s _ R S fun v d s' u r p => ?_) hm
  refine chain_link (p h₀ A s' _ R (S.keeps u.keep) fun v2 d2 s2 u2 r2 p2 => ?_)
  refine p2 A s2 _ v v2 R (S.keeps (u.trans u2).keep).g (r.keeps u2.keep.to) r2 fun v3 d3 s3 u3 r3 p3 => ?_
  obtain ⟨q, rfl, p3⟩ := p3
  obtain rfl := r3.bool_inv
  have u13 := (u.trans u2).trans u3
  refine wpAny_truthy_bool ?_
  cases q with
  | false => exact hQ _ _ _ u13 Rep.bool (p3.2 rfl)
  | true =>
    refine chain_last (p3.1 rfl h₀ A s3 _ R (S.keeps u13.keep) fun v4 d4 s4 u4 r4 p4 => ?_)
    refine p4 A s4 _ v2 v4 R (S.keeps (u13.trans u4).keep).g (r2.keeps ((u3.trans u4).keep).to) r4 fun v5 d5 s5 u5 r5 p5 => ?_
    obtain ⟨q, rfl, p5⟩ := p5
    exact hQ _ _ _ ((u13.trans u4).trans u5) r5 p5
theorem EB_cmp2 {l r₁ r₂ : Expr} {op₁ op₂ : CmpOp} {pos : Pos} {P : Bool → Prop}
    (h : EV c n env ρ l fun a => EV c n env ρ r₁ fun b => CMP c n op₁ a b fun q => (q = true → EV c n env ρ r₂ fun d => CMP c n op₂ b d P) ∧ (q = false → P false))
    (hm : lastMarks [op₁, op₂] [r₁, r₂] = false := by with_unfolding_all rfl) : EB c n env ρ (.Compare l [op₁, op₂] [r₁, r₂] pos) P := by
  intro h₀ A s Q R S hQ
  refine isTrue_chain (h h₀ A s _ R S fun v d s' u r p => ?_) hm
  refine test_link (p h₀ A s' _ R (S.keeps u.keep) fun v2 d2 s2 u2 r2 p2 => ?_)
  refine p2 A s2 _ v v2 R (S.keeps (u.trans u2).keep).g (r.keeps u2.keep.to) r2 fun v3 d3 s3 u3 r3 p3 => ?_
  obtain ⟨q, rfl, p3⟩ := p3
  obtain rfl := r3.bool_inv
  have u13 := (u.trans u2).trans u3
  refine wpAny_truthy_bool ?_
  cases q with
  | false => exact hQ _ _ u13 (p3.2 rfl)
  | true =>
    refine test_last (p3.1 rfl h₀ A s3 _ R (S.keeps u13.keep) fun v4 d4 s4 u4 r4 p4 => ?_)
    refine p4 A s4 _ v2 v4 R (S.keeps (u13.trans u4).keep).g (r2.keeps ((u3.trans u4).keep).to) r4 fun v5 d5 s5 u5 r5 p5 => ?_
    obtain ⟨q, rfl, p5⟩ := p5
    obtain rfl := r5.bool_inv
    exact wpAny_truthy_bool (hQ _ _ ((u13.trans u4).trans u5) p5)

theorem EB_not {x : Expr} {pos : Pos} {P : Bool → Prop} (h : EB c n env ρ x fun q => P (!q)) : EB c n env ρ (.UnaryOp .Not x pos) P := by
  intro h₀ A s Q R S hQ
  exact isTrue_not (h h₀ A s _ R S fun b s' u p => hQ _ _ u p)
theorem TB_and_nil {pos : Pos} {w : Sem Value} {P : Bool → Prop} (h : P true) : TB c n env ρ (isTrue (.BoolOp .And [] pos) env w) P :=
  fun _ _ _ _ _ _ hQ => isTrue_and_nil (hQ _ _ Up.refl h)
theorem TB_or_nil {pos : Pos} {w : Sem Value} {P : Bool → Prop} (h : P false) : TB c n env ρ (isTrue (.BoolOp .Or [] pos) env w) P :=
  fun _ _ _ _ _ _ hQ => isTrue_or_nil (hQ _ _ Up.refl h)
theorem TB_and {x : Expr} {rest : List Expr} {pos : Pos} {w : Sem Value} {P : Bool → Prop}
    (h : EB c n env ρ x fun q => (q = true → TB c n env ρ (isTrue (.BoolOp .And rest pos) env w) P) ∧ (q = false → P false)) :
    TB c n env ρ (isTrue (.BoolOp .And (x :: rest) pos) env w) P := by
  intro h₀ A s Q R S hQ
  refine isTrue_and (h h₀ A s _ R S fun b s' u p => ?_)
  cases b with
  | false => exact hQ _ _ u (p.2 rfl)
  | true => exact p.1 rfl h₀ A s' _ R (S.keeps u.keep) fun b s2 u2 p2 => hQ _ _ (u.trans u2) p2
theorem TB_or {x : Expr} {rest : List Expr} {pos : Pos} {w : Sem Value} {P : Bool → Prop}
    (h : EB c n env ρ x fun q => (q = true → P true) ∧ (q = false → TB c n env ρ (isTrue (.BoolOp .Or rest pos) env w) P)) :
    TB c n env ρ (isTrue (.BoolOp .Or (x :: rest) pos) env w) P := by
  intro h₀ A s Q R S hQ
  refine isTrue_or (h h₀ A s _ R S fun b s' u p => ?_)
  cases b with
  | true => exact hQ _ _ u (p.1 rfl)
  | false => exact p.2 rfl h₀ A s' _ R (S.keeps u.keep) fun b s2 u2 p2 => hQ _ _ (u.trans u2) p2
theorem EB_plain {e : Expr} {P : Bool → Prop} (h : EV c n env ρ e fun d => OB c n truthy d P)
    (he : isTrue e env (eval e env) = (do let v ← eval e env; standAt e.pos; holding [v] (truthy v)) := by rfl) : EB c n env ρ e P := by
  intro h₀ A s Q R S hQ
  refine isTrue_plain (h h₀ A s _ R S fun v d s' u r p => ?_) he
  exact p A s' _ v R (S.keeps u.keep).g r fun b s2 u2 p2 => hQ _ _ (u.trans u2) p2
theorem EB_if {test body orelse : Expr} {pos : Pos} {P : Bool → Prop} (h : EB c n env ρ test fun q => (q = true → EB c n env ρ body P) ∧ (q = false → EB c n env ρ orelse P)) :
    EB c n env ρ (.IfExp test body orelse pos) P := by
  intro h₀ A s Q R S hQ
  refine isTrue_IfExp (h h₀ A s _ R S fun b s' u p => ?_)
  cases b with
  | true => exact p.1 rfl h₀ A s' _ R (S.keeps u.keep) fun b s2 u2 p2 => hQ _ _ (u.trans u2) p2
  | false => exact p.2 rfl h₀ A s' _ R (S.keeps u.keep) fun b s2 u2 p2 => hQ _ _ (u.trans u2) p2
theorem EV_if {test body orelse : Expr} {pos : Pos} (h : EB c n env ρ test fun q => (q = true → EV c n env ρ body P) ∧ (q = false → EV c n env ρ orelse P)) :
    EV c n env ρ (.IfExp test body orelse pos) P := by
  intro h₀ A s Q R S hQ
  refine IfExp_ (h h₀ A s _ R S fun b s' u p => ?_)
  cases b with
  | true => exact p.1 rfl h₀ A s' _ R (S.keeps u.keep) fun v d s2 u2 r2 p2 => hQ _ _ _ (u.trans u2) r2 p2
  | false => exact p.2 rfl h₀ A s' _ R (S.keeps u.keep) fun v d s2 u2 r2 p2 => hQ _ _ _ (u.trans u2) r2 p2
theorem EV_bool1 {op : BoolOp} {e : Expr} {pos : Pos} (h : EV c n env ρ e P) : EV c n env ρ (.BoolOp op [e] pos) P := fun h₀ A s Q R S hQ => BoolOp_one (h h₀ A s Q R S hQ)
theorem EV_and {e₁ e₂ : Expr} {rest : List Expr} {pos : Pos} (h : EV c n env ρ e₁ fun a => OB c n truthy a fun q => (q = true → EV c n env ρ (.BoolOp .And (e₂ :: rest) pos) P) ∧ (q = false → P a)) :
    EV c n env ρ (.BoolOp .And (e₁ :: e₂ :: rest) pos) P := by
  intro h₀ A s Q R S hQ
  refine BoolOp_and (h h₀ A s _ R S fun v d s' u r p => p A s' _ v R (S.keeps u.keep).g r fun b s2 u2 p2 => ?_)
  cases b with
  | true => exact p2.1 rfl h₀ A s2 _ R (S.keeps (u.trans u2).keep) fun v3 d3 s3 u3 r3 p3 => hQ _ _ _ ((u.trans u2).trans u3) r3 p3
  | false => exact hQ _ _ _ (u.trans u2) (r.keeps u2.keep.to) (p2.2 rfl)
theorem EV_or {e₁ e₂ : Expr} {rest : List Expr} {pos : Pos} (h : EV c n env ρ e₁ fun a => OB c n truthy a fun q => (q = true → P a) ∧ (q = false → EV c n env ρ (.BoolOp .Or (e₂ :: rest) pos) P)) :
    EV c n env ρ (.BoolOp .Or (e₁ :: e₂ :: rest) pos) P := by
  intro h₀ A s Q R S hQ
  refine BoolOp_or (h h₀ A s _ R S fun v d s' u r p => p A s' _ v R (S.keeps u.keep).g r fun b s2 u2 p2 => ?_)
  cases b with
  | false => exact p2.2 rfl h₀ A s2 _ R (S.keeps (u.trans u2).keep) fun v3 d3 s3 u3 r3 p3 => hQ _ _ _ ((u.trans u2).trans u3) r3 p3
  | true => exact hQ _ _ _ (u.trans u2) (r.keeps u2.keep.to) (p2.1 rfl)

theorem TVs_nil {pos : Pos} {P : List D → Prop} (h : P []) : TVs c n env ρ (spliced (backTo pos (starEach [] env))) P :=
  fun _ _ _ _ _ _ hQ => spliced_none (hQ _ _ _ Up.refl RepL.nil h)
theorem TVs_cons {e : Expr} {rest : List Expr} {pos : Pos} {P : List D → Prop} (h : EV c n env ρ e fun d => TVs c n env ρ (spliced (backTo pos (starEach rest env))) fun ds => P (d :: ds))
    (he : starEach (e :: rest) env = (false, eval e env) :: starEach rest env := by rfl) : TVs c n env ρ (spliced (backTo pos (starEach (e :: rest) env))) P := by
  intro h₀ A s Q R S hQ
  refine spliced_more (h h₀ A s _ R S fun v d s' u r p => ?_) he
  exact p h₀ A s' _ R (S.keeps u.keep) fun vs ds s2 u2 r2 p2 => hQ _ _ _ (u.trans u2) (RepL.cons (r.keeps u2.keep.to) r2) p2

theorem EV_tuple {elts : List Expr} {k : Nat} {pos : Pos} (h : TVs c n env ρ (spliced (backTo pos (starEach elts env))) fun ds => ds.length ≤ 1000 ∧ P (.tup ds)) : EV c n env ρ (.Tuple elts k pos) P := by
  intro h₀ A s Q R S hQ
  refine wpAny_Tuple_spliced (h h₀ A s _ R S fun vs ds s' u r p => ?_)
  refine ⟨by rw [r.length, sizeLine_eq]; have := p.1; omega, hQ _ _ _ (u.trans Up.push) ?_ p.2⟩
  exact Rep.tup ⟨_, Heap.get?_push_size _ rfl, rfl, _, rfl⟩ (r.keeps (Nd.of fun _ _ e => Heap.get?_push_of_some _ e))
theorem EV_list {elts : List Expr} {pos : Pos} (h : TVs c n env ρ (spliced (backTo pos (starEach elts env))) fun ds => ds.length ≤ 1000 ∧ P (.lst ds)) : EV c n env ρ (.List elts pos) P := by
  intro h₀ A s Q R S hQ
  refine wpAny_List_spliced (h h₀ A s _ R S fun vs ds s' u r p => ?_)
  refine ⟨by rw [r.length, sizeLine_eq]; have := p.1; omega, hQ _ _ _ (u.trans Up.push) ?_ p.2⟩
  exact Rep.lst ⟨_, Heap.get?_push_size _ rfl, rfl, _, rfl⟩ (r.keeps (Nd.of fun _ _ e => Heap.get?_push_of_some _ e))

theorem EV_sub {value slice : Expr} {pos : Pos} (h : EV c n env ρ value fun o => EV c n env ρ slice fun i => O2 c n (subscriptTail value slice) o i P) : EV c n env ρ (.Subscript value slice pos) P := by
  intro h₀ A s Q R S hQ
  refine Subscript_ (h h₀ A s _ R S fun v d s' u r p => ?_)
  refine p h₀ A s' _ R (S.keeps u.keep) fun v2 d2 s2 u2 r2 p2 => ?_
  refine p2 A s2 _ v v2 R (S.keeps (u.trans u2).keep).g (r.keeps u2.keep.to) r2 fun v3 d3 s3 u3 r3 p3 => ?_
  exact hQ _ _ _ ((u.trans u2).trans u3) r3 p3

theorem O2_item {value slice : Expr} {l : List D} {k : Int} {j : Nat} {d : D} (hlo : -(2 ^ 63) ≤ k) (hhi : k < 2 ^ 63) (hj : seqIndex? k l.length = some j) (hx : l[j]? = some d) (h : P d)
    (hs : ∀ t u, subscripted slice false (.ref t) (.int k u) = operate [.ref t, .int k u] (getItem (.ref t) (.int k u)) := by intro _ _; with_unfolding_all rfl) :
    O2 c n (subscriptTail value slice) (.tup l) (.int k) P := by
  intro A s Q x y R G rx ry hQ
  obtain ⟨a, vs, rfl, ht, rl⟩ := rx.tup_inv
  obtain ⟨u, rfl⟩ := ry.int_inv
  obtain ⟨v, hv, rv⟩ := rl.get hx
  exact item_tupleT ht hlo hhi (by rw [rl.length]; exact hj) hv (hQ _ _ _ Up.refl rv h) (hs _ _)
theorem O2_itemL {value slice : Expr} {l : List D} {k : Int} {d : D} (hlo : 0 ≤ k) (hhi : k < 2 ^ 63) (hx : l[k.toNat]? = some d) (h : P d)
    (hs : ∀ t u, subscripted slice false (.ref t) (.int k u) = operate [.ref t, .int k u] (getItem (.ref t) (.int k u)) := by intro _ _; with_unfolding_all rfl) :
    O2 c n (subscriptTail value slice) (.lst l) (.int k) P := by
  intro A s Q x y R G rx ry hQ
  obtain ⟨a, vs, rfl, ht, rl⟩ := rx.lst_inv
  obtain ⟨u, rfl⟩ := ry.int_inv
  obtain ⟨v, hv, rv⟩ := rl.get hx
  exact tail_any ht.typeIs slot_list_getitem.lookup (wpAny_getItem_list ht hlo hhi (by simpa using hv) (hQ _ _ _ Up.refl rv h)) (hs _ _)
end
end Mine
end
section
open PySem PySem.W PySem.Calls PyProof.Rows
namespace Mine

/-! what a value's meaning hangs on: the sequences -/
mutual
theorem Rep.seqKeeps {h h' : Heap} (k : ∀ b o, h.get? b = some o → (∃ vs n, o.data = .seq vs n) → h'.get? b = some o) : ∀ {d : D} {v : Value}, Rep h d v → Rep h' d v
  | .none, _, x => by unfold Rep at *; exact x
  | .bool _, _, x => by unfold Rep at *; exact x
  | .int _, _, x => by unfold Rep at *; exact x
  | .str _, _, x => by unfold Rep at *; exact x
  | .tup l, _, x => by
    unfold Rep at *
    obtain ⟨a, vs, e, ⟨o, ho, hc, n, hd⟩, r⟩ := x
    exact ⟨a, vs, e, ⟨o, k _ _ ho ⟨_, _, hd⟩, hc, n, hd⟩, RepL.seqKeeps k r⟩
  | .lst l, _, x => by
    unfold Rep at *
    obtain ⟨a, vs, e, ⟨o, ho, hc, n, hd⟩, r⟩ := x
    exact ⟨a, vs, e, ⟨o, k _ _ ho ⟨_, _, hd⟩, hc, n, hd⟩, RepL.seqKeeps k r⟩
theorem RepL.seqKeeps {h h' : Heap} (k : ∀ b o, h.get? b = some o → (∃ vs n, o.data = .seq vs n) → h'.get? b = some o) : ∀ {l : List D} {vs : List Value}, RepL h l vs → RepL h' l vs
  | [], _, x => by unfold RepL at *; exact x
  | d :: l, _, x => by
    unfold RepL at *
    obtain ⟨v, r, e, a, b⟩ := x
    exact ⟨v, r, e, Rep.seqKeeps k a, RepL.seqKeeps k b⟩
end
mutual
/-- no list within -/
def D.flat : D → Bool
  | .tup l => flats l
  | .lst _ => false
  | _ => true
def flats : List D → Bool
  | [] => true
  | d :: l => d.flat && flats l
end
mutual
theorem Rep.flatKeeps {h h' : Heap} (k : ∀ b o, h.get? b = some o → o.cls = .type "tuple" → h'.get? b = some o) : ∀ {d : D} {v : Value}, d.flat = true → Rep h d v → Rep h' d v
  | .none, _, _, x => by unfold Rep at *; exact x
  | .bool _, _, _, x => by unfold Rep at *; exact x
  | .int _, _, _, x => by unfold Rep at *; exact x
  | .str _, _, _, x => by unfold Rep at *; exact x
  | .tup l, _, f, x => by
    unfold Rep at *
    obtain ⟨a, vs, e, ⟨o, ho, hc, n, hd⟩, r⟩ := x
    exact ⟨a, vs, e, ⟨o, k _ _ ho hc, hc, n, hd⟩, RepL.flatKeeps k (by simpa [D.flat] using f) r⟩
  | .lst l, _, f, x => by simp [D.flat] at f
theorem RepL.flatKeeps {h h' : Heap} (k : ∀ b o, h.get? b = some o → o.cls = .type "tuple" → h'.get? b = some o) : ∀ {l : List D} {vs : List Value}, flats l = true → RepL h l vs → RepL h' l vs
  | [], _, _, x => by unfold RepL at *; exact x
  | d :: l, _, f, x => by
    unfold RepL at *
    obtain ⟨v, r, e, a, b⟩ := x
    simp only [flats, Bool.and_eq_true] at f
    exact ⟨v, r, e, Rep.flatKeeps k f.1 a, RepL.flatKeeps k f.2 b⟩
end

inductive Fl where
  | next | brk | cont
  | ret (d : D)
def FlRep (h : Heap) : Fl → Flow → Prop
  | .next, f => f = .next
  | .brk, f => f = .brk
  | .cont, f => f = .cont
  | .ret d, f => ∃ v, f = .ret v ∧ Rep h d v

structure Sim (s s' : Shared) : Prop where
  same : s' = { s with heap := s'.heap, toks := s'.toks }
theorem Sim.refl {s : Shared} : Sim s s := ⟨rfl⟩
theorem Sim.trans {a b c : Shared} (h : Sim a b) (k : Sim b c) : Sim a c := ⟨by rw [k.same, h.same]⟩
theorem Up.sim {a b : Shared} (h : Up c a b) : Sim a b := ⟨h.same⟩

/-- the frame's own cells -/
structure FrEnv (A : Around) (env : Env) (h₀ : Heap) : Prop where
  top : ∃ l, A.frames = some (env :: l)
  fr : env.frame = some env.locals
  kind : env.scope.kind = .function
  own : ∀ n k, env.cells.lookup n = some k → h₀.get? k = none
  apart : ∀ n n' k, env.cells.lookup n = some k → env.cells.lookup n' = some k → n = n'

/-- all stands but the frame's own variables (and, where lists may change, the lists that the call made) -/
def KP (mu : Bool) (env : Env) (h₀ h h' : Heap) : Prop :=
  ∀ a o, h.get? a = some o → ND o → (∀ n k, env.cells.lookup n = some k → a ≠ k) → (mu = true → h₀.get? a = none → o.cls ≠ .type "list") → h'.get? a = some o
theorem KP.refl {mu : Bool} {env : Env} {h₀ h : Heap} : KP mu env h₀ h h := fun _ _ e _ _ _ => e
theorem KP.trans {mu : Bool} {env : Env} {h₀ a b c : Heap} (x : KP mu env h₀ a b) (y : KP mu env h₀ b c) : KP mu env h₀ a c :=
  fun q o e h1 h2 h3 => y q o (x q o e h1 h2 h3) h1 h2 h3
theorem KP.up {mu : Bool} {env : Env} {h₀ a b : Heap} (x : Nd a b) : KP mu env h₀ a b := fun q o e n _ _ => x.nd q o e n
theorem KP.loose {mu : Bool} {env : Env} {h₀ a b : Heap} (x : KP false env h₀ a b) : KP mu env h₀ a b := fun q o e h1 h2 _ => x q o e h1 h2 (fun h => by cases h)

def EX (c : Cx) (n : Nat) (mu : Bool) (env : Env) (ρ : Loc) (ss : List Stmt) (P : Fl → Loc → Prop) : Prop :=
  ∀ (h₀ : Heap) (A : Around) (s : Shared) (Q : Flow → Shared → Prop), Room n A → FrEnv A env h₀ → St c A env h₀ ρ s.heap →
    (∀ f fl ρ' s', Sim s s' → KP mu env h₀ s.heap s'.heap → St c A env h₀ ρ' s'.heap → FlRep s'.heap fl f → P fl ρ' → Q f s') →
    wpAny (model c.prog c.w) A (execs ss env) Q (fun _ _ => False) s
/-- the assignment of a value to a target -/
def AS (c : Cx) (n : Nat) (env : Env) (ρ : Loc) (t : Expr) (d : D) (P : Loc → Prop) : Prop :=
  ∀ (h₀ : Heap) (A : Around) (s : Shared) (Q : Unit → Shared → Prop) (v : Value), Room n A → FrEnv A env h₀ → St c A env h₀ ρ s.heap → Rep s.heap d v →
    (∀ ρ' s', Sim s s' → KP false env h₀ s.heap s'.heap → St c A env h₀ ρ' s'.heap → P ρ' → Q () s') →
    wpAny (model c.prog c.w) A (assign t env v) Q (fun _ _ => False) s
def ASs (c : Cx) (n : Nat) (env : Env) (ρ : Loc) (ts : List (Value → Sem Unit)) (ds : List D) (P : Loc → Prop) : Prop :=
  ∀ (h₀ : Heap) (A : Around) (s : Shared) (Q : Unit → Shared → Prop) (vs : List Value), Room n A → FrEnv A env h₀ → St c A env h₀ ρ s.heap → RepL s.heap ds vs →
    (∀ ρ' s', Sim s s' → KP false env h₀ s.heap s'.heap → St c A env h₀ ρ' s'.heap → P ρ' → Q () s') →
    wpAny (model c.prog c.w) A (assignInOrder ts vs) Q (fun _ _ => False) s

/-- a name that may be stored -/
def StOk (env : Env) (x : Str) : Prop := env.kindOf x = some .local ∨ (env.kindOf x = some .cell ∧ ∃ k, env.cells.lookup x = some k)

theorem Le.but {c : Cx} {h₀ h h' : Heap} {x : Addr} (K : Le c h₀ h) (G : c.B h₀) (hx : h₀.get? x = none) (k : ∀ b o, b ≠ x → h.get? b = some o → h'.get? b = some o) : Le c h₀ h' where
  nd := fun b o e n => k b o (fun q => by rw [q, hx] at e; cases e) (K.nd b o e n)
  dt := fun b o es n e f => by
    obtain ⟨sl, e'⟩ := K.dt b o es n e f
    exact ⟨sl, k b _ (fun q => by rw [q, hx] at e; cases e) e'⟩
  bs := fun _ b o e => k b o (fun q => by have := G.st b o e; rw [q, hx] at this; cases this) (K.bs G.st b o e)
theorem St.change {c : Cx} {A : Around} {env : Env} {h₀ h h' : Heap} {ρ : Loc} {x : Addr} (S : St c A env h₀ ρ h) (hx : h₀.get? x = none) (hL : x ≠ env.locals) (hC : ∀ n k, env.cells.lookup n = some k → x ≠ k)
    (hd : ∀ o, h.get? x = some o → ∀ vs n, o.data ≠ .seq vs n)
    (k : ∀ b o, b ≠ x → h.get? b = some o → h'.get? b = some o) : St c A env h₀ ρ h' where
  base := S.base
  frs := S.frs
  keep := S.keep.but S.base hx k
  above := S.above
  cel := fun n q e => by
    refine ⟨(S.cel n q e).1, ?_⟩
    obtain ⟨v, o, ho, hv⟩ := (S.cel n q e).2
    exact ⟨v, o, k _ _ (fun z => hC n q e z.symm) ho, hv⟩
  val := by
    obtain ⟨m, hm, hv⟩ := S.val
    obtain ⟨oL, es, ep, hoL, hLd, r⟩ := hm
    refine ⟨m, ⟨oL, es, ep, k _ _ (fun z => hL z.symm) hoL, hLd, r⟩, fun y g d e => ?_⟩
    obtain ⟨v, H, p, q1, q2⟩ := hv y g d e
    have sq : ∀ b o, h.get? b = some o → (∃ vs n, o.data = .seq vs n) → h'.get? b = some o := fun b o e ⟨vs, n, f⟩ => k b o (fun z => by subst z; exact hd o e _ _ f) e
    refine ⟨v, ?_, p.seqKeeps sq, q1, fun e => let ⟨a, i, j, e1, e2, e3⟩ := q2 e; ⟨a, i, j, e1, e2, sq _ _ e3 ⟨_, _, rfl⟩⟩⟩
    rcases H with H | ⟨a, q, b, o, ho, hc⟩
    · exact .inl H
    · exact .inr ⟨a, q, b, o, k _ _ (fun z => hC _ _ b z.symm) ho, hc⟩
theorem St.modify {c : Cx} {A : Around} {env : Env} {h₀ h h' : Heap} {ρ : Loc} {x : Addr} (S : St c A env h₀ ρ h) (hx : h₀.get? x = none)
    (hd : ∀ o, h.get? x = some o → (∀ vs n, o.data ≠ .seq vs n) ∧ (∀ es n, o.data ≠ .dict es n) ∧ (∀ v, o.data ≠ .cell v))
    (k : ∀ b o, b ≠ x → h.get? b = some o → h'.get? b = some o) : St c A env h₀ ρ h' where
  base := S.base
  frs := S.frs
  keep := S.keep.but S.base hx k
  above := S.above
  cel := fun n q e => by
    refine ⟨(S.cel n q e).1, ?_⟩
    obtain ⟨v, o, ho, hv⟩ := (S.cel n q e).2
    exact ⟨v, o, k _ _ (fun z => by subst z; exact (hd o ho).2.2 _ hv) ho, hv⟩
  val := by
    obtain ⟨m, hm, hv⟩ := S.val
    obtain ⟨oL, es, ep, hL, hLd, r⟩ := hm
    refine ⟨m, ⟨oL, es, ep, k _ _ (fun z => by rw [z] at hL; exact (hd oL hL).2.1 _ _ hLd) hL, hLd, r⟩, fun y g d e => ?_⟩
    obtain ⟨v, H, p, q1, q2⟩ := hv y g d e
    have sq : ∀ b o, h.get? b = some o → (∃ vs n, o.data = .seq vs n) → h'.get? b = some o := fun b o e ⟨vs, n, f⟩ => k b o (fun z => by subst z; exact (hd o e).1 _ _ f) e
    refine ⟨v, ?_, p.seqKeeps sq, q1, fun e => let ⟨a, i, j, e1, e2, e3⟩ := q2 e; ⟨a, i, j, e1, e2, sq _ _ e3 ⟨_, _, rfl⟩⟩⟩
    rcases H with H | ⟨a, q, b, o, ho, hc⟩
    · exact .inl H
    · exact .inr ⟨a, q, b, o, k _ _ (fun z => by subst z; exact (hd o ho).2.2 _ hc) ho, hc⟩

section
variable {c : Cx} {A : Around} {n : Nat} {mu : Bool} {env : Env} {ρ : Loc}

theorem St.storeX {h₀ : Heap} {A : Around} {s : Shared} {Q : Unit → Shared → Prop} {E : Value → Shared → Prop} {x : Str} {d : D} {v : Value} (g : Tg) (S : St c A env h₀ ρ s.heap) (Fe : FrEnv A env h₀)
    (hx : StOk env x) (r : Rep s.heap d v) (g1 : g = .old → Rep h₀ d v) (g2 : g = .own → ∃ a its k, v = .ref a ∧ h₀.get? a = none ∧ s.heap.get? a = some (listOf its k))
    (hQ : ∀ s', Sim s s' → (∀ b o, b ≠ env.locals → (∀ n k, env.cells.lookup n = some k → b ≠ k) → s.heap.get? b = some o → s'.heap.get? b = some o) → KP mu env h₀ s.heap s'.heap → St c A env h₀ ((x, g, d) :: ρ) s'.heap → Q () s') :
    wpAny (model c.prog c.w) A (storeName env x v) Q E s := by
  have hk := Fe.kind
  have cls : (env.scope.kind == .class || (env.scope.kind == .module && env.locals != env.globals)) = false := by rw [hk]; rfl
  obtain ⟨m, hm, hv⟩ := S.val
  obtain ⟨oL, es, ep, hL, hLd, rL⟩ := id hm
  rcases hx with hl | ⟨hl, k, hck⟩
  · refine wpAny_storeName_local hl hm (fun h' hn hs => ?_) cls
    refine hQ _ ⟨rfl⟩ (fun b o q _ e => (hs.2 b q).trans e) (fun a o e h1 _ _ => (hs.2 a (fun z => by subst z; rw [hL] at e; cases e; exact h1 _ _ hLd)).trans e) ⟨S.base, S.frs, S.keep.but S.base S.above (fun b o q e => (hs.2 b q).trans e), S.above, fun n k e => ?_, _, hn, fun y g' d' e => ?_⟩
    · obtain ⟨a, v, b⟩ := S.cel n k e
      exact ⟨a, v, b.sameBut hs a⟩
    · have sq : ∀ b o, s.heap.get? b = some o → (∃ vs n, o.data = .seq vs n) → h'.get? b = some o := fun b o e ⟨vs, n, f⟩ => (hs.2 b (fun z => by subst z; rw [hL] at e; cases e; rw [hLd] at f; cases f)).trans e
      rw [List.lookup_cons] at e
      by_cases hy : y = x
      · subst hy
        simp only [beq_self_eq_true] at e
        cases e
        exact ⟨v, .inl ⟨hl, by simp⟩, r.seqKeeps sq, g1, fun e => let ⟨a, i, j, e1, e2, e3⟩ := g2 e; ⟨a, i, j, e1, e2, sq _ _ e3 ⟨_, _, rfl⟩⟩⟩
      · have hb : (y == x) = false := beq_eq_false_iff_ne.mpr hy
        rw [hb] at e
        obtain ⟨w, H, p, q1, q2⟩ := hv y g' d' e
        refine ⟨w, ?_, p.seqKeeps sq, q1, fun e => let ⟨a, i, j, e1, e2, e3⟩ := q2 e; ⟨a, i, j, e1, e2, sq _ _ e3 ⟨_, _, rfl⟩⟩⟩
        rcases H with ⟨a, b⟩ | ⟨a, q, b, t⟩
        · exact .inl ⟨a, by simp [hy, b]⟩
        · exact .inr ⟨a, q, b, t.sameBut hs (S.cel _ _ b).1⟩
  · obtain ⟨hkL, v0, hcell⟩ := S.cel x k hck
    obtain ⟨oc, hoc, hocd⟩ := id hcell
    refine wpAny_storeName_cell hk hl hck hcell fun h' hv' hs => ?_
    have kf := Fe.own x k hck
    refine hQ _ ⟨rfl⟩ (fun b o _ q e => (hs.2 b (q x k hck)).trans e) (fun a o e _ h2 _ => (hs.2 a (h2 x k hck)).trans e) ⟨S.base, S.frs, S.keep.but S.base kf (fun b o q e => (hs.2 b q).trans e), S.above, fun n k' e => ?_, m, hm.sameBut hs (Ne.symm hkL), fun y g' d' e => ?_⟩
    · obtain ⟨a, v1, b⟩ := S.cel n k' e
      by_cases hkk : k' = k
      · subst hkk; exact ⟨a, _, hv'⟩
      · exact ⟨a, v1, b.sameBut hs hkk⟩
    · have sq : ∀ b o, s.heap.get? b = some o → (∃ vs n, o.data = .seq vs n) → h'.get? b = some o := fun b o e ⟨vs, n, f⟩ => (hs.2 b (fun z => by subst z; rw [hoc] at e; cases e; rw [hocd] at f; cases f)).trans e
      rw [List.lookup_cons] at e
      by_cases hy : y = x
      · subst hy
        simp only [beq_self_eq_true] at e
        cases e
        exact ⟨v, .inr ⟨.inl hl, k, hck, hv'⟩, r.seqKeeps sq, g1, fun e => let ⟨a, i, j, e1, e2, e3⟩ := g2 e; ⟨a, i, j, e1, e2, sq _ _ e3 ⟨_, _, rfl⟩⟩⟩
      · have hb : (y == x) = false := beq_eq_false_iff_ne.mpr hy
        rw [hb] at e
        obtain ⟨w, H, p, q1, q2⟩ := hv y g' d' e
        refine ⟨w, ?_, p.seqKeeps sq, q1, fun e => let ⟨a, i, j, e1, e2, e3⟩ := q2 e; ⟨a, i, j, e1, e2, sq _ _ e3 ⟨_, _, rfl⟩⟩⟩
        rcases H with ⟨a, b⟩ | ⟨a, q, b, t⟩
        · exact .inl ⟨a, b⟩
        · exact .inr ⟨a, q, b, t.sameBut hs fun z => hy (Fe.apart _ _ _ b (z ▸ hck))⟩

theorem St.store {h₀ : Heap} {A : Around} {s : Shared} {Q : Unit → Shared → Prop} {E : Value → Shared → Prop} {x : Str} {d : D} {v : Value} (g : Tg) (S : St c A env h₀ ρ s.heap) (Fe : FrEnv A env h₀)
    (hx : StOk env x) (r : Rep s.heap d v) (g1 : g = .old → Rep h₀ d v) (g2 : g = .own → ∃ a its k, v = .ref a ∧ h₀.get? a = none ∧ s.heap.get? a = some (listOf its k))
    (hQ : ∀ s', Sim s s' → KP mu env h₀ s.heap s'.heap → St c A env h₀ ((x, g, d) :: ρ) s'.heap → Q () s') :
    wpAny (model c.prog c.w) A (storeName env x v) Q E s := S.storeX g Fe hx r g1 g2 fun s' a _ b d => hQ s' a b d

theorem St.storeL {h₀ : Heap} {A : Around} {s : Shared} {Q : Unit → Shared → Prop} {E : Value → Shared → Prop} {x : Str} {d : D} {v : Value} (S : St c A env h₀ ρ s.heap) (hk : env.scope.kind = .function)
    (hl : env.kindOf x = some .local) (r : Rep s.heap d v)
    (hQ : ∀ h' tk, Heap.SameBut env.locals s.heap h' → St c A env h₀ ((x, .new, d) :: ρ) h' → Q () { s with heap := h', toks := tk }) :
    wpAny (model c.prog c.w) A (storeName env x v) Q E s := by
  have cls : (env.scope.kind == .class || (env.scope.kind == .module && env.locals != env.globals)) = false := by rw [hk]; rfl
  obtain ⟨m, hm, hv⟩ := S.val
  obtain ⟨oL, es, ep, hL, hLd, rL⟩ := id hm
  refine wpAny_storeName_local hl hm (fun h' hn hs => ?_) cls
  refine hQ _ _ hs ⟨S.base, S.frs, S.keep.but S.base S.above (fun b o q e => (hs.2 b q).trans e), S.above, fun n k e => ?_, _, hn, fun y g' d' e => ?_⟩
  · obtain ⟨a, v, b⟩ := S.cel n k e
    exact ⟨a, v, b.sameBut hs a⟩
  · have sq : ∀ b o, s.heap.get? b = some o → (∃ vs n, o.data = .seq vs n) → h'.get? b = some o := fun b o e ⟨vs, n, f⟩ => (hs.2 b (fun z => by subst z; rw [hL] at e; cases e; rw [hLd] at f; cases f)).trans e
    rw [List.lookup_cons] at e
    by_cases hy : y = x
    · subst hy
      simp only [beq_self_eq_true] at e
      cases e
      exact ⟨v, .inl ⟨hl, by simp⟩, r.seqKeeps sq, (fun h => by cases h), (fun h => by cases h)⟩
    · have hb : (y == x) = false := beq_eq_false_iff_ne.mpr hy
      rw [hb] at e
      obtain ⟨w, H, p, q1, q2⟩ := hv y g' d' e
      refine ⟨w, ?_, p.seqKeeps sq, q1, fun e => let ⟨a, i, j, e1, e2, e3⟩ := q2 e; ⟨a, i, j, e1, e2, sq _ _ e3 ⟨_, _, rfl⟩⟩⟩
      rcases H with ⟨a, b⟩ | ⟨a, q, b, t⟩
      · exact .inl ⟨a, by simp [hy, b]⟩
      · exact .inr ⟨a, q, b, t.sameBut hs (S.cel _ _ b).1⟩

theorem EX.mono {ss : List Stmt} {P P' : Fl → Loc → Prop} (h : EX c n mu env ρ ss P) (k : ∀ f ρ', P f ρ' → P' f ρ') : EX c n mu env ρ ss P' :=
  fun h₀ A s Q R Fe S hQ => h h₀ A s Q R Fe S fun f fl ρ' s' a b d e p => hQ f fl ρ' s' a b d e (k _ _ p)
theorem EX.loose {ss : List Stmt} {P : Fl → Loc → Prop} (h : EX c n false env ρ ss P) : EX c n mu env ρ ss P :=
  fun h₀ A s Q R Fe S hQ => h h₀ A s Q R Fe S fun f fl ρ' s' a b d e p => hQ f fl ρ' s' a b.loose d e p
def Sub (ρ' ρ : Loc) : Prop := ∀ x g d, ρ'.lookup x = some (g, d) → ρ.lookup x = some (g, d)
theorem Sub.refl {ρ : Loc} : Sub ρ ρ := fun _ _ _ e => e
theorem Sub.of {ρ ρ' : Loc} (h : ∀ p ∈ ρ', ρ.lookup p.1 = some p.2) : Sub ρ' ρ := by
  intro x g d e
  have := h (x, (g, d)) (mem_of_lookup e)
  exact this
theorem EX_forget {ρ' : Loc} {ss : List Stmt} {P : Fl → Loc → Prop} (e : Sub ρ' ρ) (h : EX c n mu env ρ' ss P) : EX c n mu env ρ ss P :=
  fun h₀ A s Q R Fe S hQ => h h₀ A s Q R Fe (S.forget e) hQ

theorem EX_nil {P : Fl → Loc → Prop} (h : P .next ρ) : EX c n mu env ρ [] P :=
  fun _ _ _ _ _ _ S hQ => wpAny_execs_nil (hQ _ .next ρ _ Sim.refl KP.refl S rfl h)

/-- what follows -/
def Seq (c : Cx) (n : Nat) (mu : Bool) (env : Env) (rest : List Stmt) (P : Fl → Loc → Prop) : Fl → Loc → Prop
  | .next, ρ => EX c n mu env ρ rest P
  | .brk, ρ => P .brk ρ
  | .cont, ρ => P .cont ρ
  | .ret d, ρ => P (.ret d) ρ

theorem seq_step {h₀ : Heap} {A : Around} {s s1 : Shared} {Q : Flow → Shared → Prop} {rest : List Stmt} {P : Fl → Loc → Prop} {f : Flow} {fl : Fl} {ρ' : Loc} (R : Room n A) (Fe : FrEnv A env h₀)
    (hQ : ∀ f fl ρ' s', Sim s s' → KP mu env h₀ s.heap s'.heap → St c A env h₀ ρ' s'.heap → FlRep s'.heap fl f → P fl ρ' → Q f s')
    (a : Sim s s1) (b : KP mu env h₀ s.heap s1.heap) (d : St c A env h₀ ρ' s1.heap) (e : FlRep s1.heap fl f) (p : Seq c n mu env rest P fl ρ') :
    (match (generalizing := false) f with | .next => wpAny (model c.prog c.w) A (execs rest env) Q (fun _ _ => False) s1 | f => Q f s1) := by
  cases fl with
  | next =>
    obtain rfl := e
    exact p h₀ A s1 Q R Fe d fun f' fl' ρ'' s'' a' b' d' e' p' => hQ f' fl' ρ'' s'' (a.trans a') (b.trans b') d' e' p'
  | brk => obtain rfl := e; exact hQ _ .brk ρ' _ a b d rfl p
  | cont => obtain rfl := e; exact hQ _ .cont ρ' _ a b d rfl p
  | ret d' => obtain ⟨v, rfl, r⟩ := e; exact hQ _ (.ret d') ρ' _ a b d ⟨v, rfl, r⟩ p

theorem EX_return {e : Expr} {pos : Pos} {rest : List Stmt} {P : Fl → Loc → Prop} (h : EV c n env ρ e fun d => P (.ret d) ρ) : EX c n mu env ρ (.Return (some e) pos :: rest) P := by
  intro h₀ A s Q R Fe S hQ
  refine wpAny_execs_cons (wpAny_Return_some (h h₀ A s _ R S fun v d s' u r p => ?_))
  exact hQ _ (.ret d) ρ s' u.sim (KP.up u.keep.to) (S.keeps u.keep) ⟨v, rfl, r⟩ p

theorem EX_continue {pos : Pos} {rest : List Stmt} {P : Fl → Loc → Prop} (h : P .cont ρ) : EX c n mu env ρ (.Continue pos :: rest) P := by
  intro h₀ A s Q R Fe S hQ
  refine wpAny_execs_cons (wpAny_Continue ?_)
  exact hQ _ .cont ρ s Sim.refl KP.refl S rfl h

theorem EX_if {test : Expr} {body orelse : List Stmt} {pos : Pos} {rest : List Stmt} {P : Fl → Loc → Prop}
    (h : EB c n env ρ test fun q => (q = true → EX c n mu env ρ body (Seq c n mu env rest P)) ∧ (q = false → EX c n mu env ρ orelse (Seq c n mu env rest P))) :
    EX c n mu env ρ (.If test body orelse pos :: rest) P := by
  intro h₀ A s Q R Fe S hQ
  refine wpAny_execs_cons (wpAny_If (h h₀ A s _ R S fun b s' u p => ?_))
  cases b with
  | true => exact p.1 rfl h₀ A s' _ R Fe (S.keeps u.keep) fun f fl ρ' s1 a b d e q => seq_step R Fe hQ (u.sim.trans a) ((KP.up u.keep.to).trans b) d e q
  | false => exact p.2 rfl h₀ A s' _ R Fe (S.keeps u.keep) fun f fl ρ' s1 a b d e q => seq_step R Fe hQ (u.sim.trans a) ((KP.up u.keep.to).trans b) d e q

theorem EX_assign {x : Str} {pos' : Pos} {value : Expr} {pos : Pos} {rest : List Stmt} {P : Fl → Loc → Prop} (h : EV c n env ρ value fun d => EX c n mu env ((x, .new, d) :: ρ) rest P)
    (hx : StOk env x := by first | exact .inl rfl | exact .inr ⟨rfl, _, rfl⟩)
    (hs : swapsWith value (some (.Name x pos')) pos.line env = pure false := by rfl) : EX c n mu env ρ (.Assign [.Name x pos'] value pos :: rest) P := by
  intro h₀ A s Q R Fe S hQ
  refine wpAny_execs_cons (wpAny_Assign_Name (h h₀ A s _ R S fun v d s' u r p => ?_) hs)
  refine (S.keeps u.keep).store (mu := mu) .new Fe hx r (fun h => by cases h) (fun h => by cases h) fun s2 a b d2 => ?_
  exact seq_step (fl := .next) R Fe hQ (u.sim.trans a) ((KP.up u.keep.to).trans b) d2 rfl p

theorem AS_name {x : Str} {pos : Pos} {d : D} {P : Loc → Prop} (h : P ((x, .new, d) :: ρ)) (hx : StOk env x := by first | exact .inl rfl | exact .inr ⟨rfl, _, rfl⟩) : AS c n env ρ (.Name x pos) d P := by
  intro h₀ A s Q v R Fe S r hQ
  exact assign_Name (S.store .new Fe hx r (fun h => by cases h) (fun h => by cases h) fun s' a b e => hQ _ _ a b e h)
theorem KP.seq {h₀ h h' : Heap} (S : St c A env h₀ ρ h) (k : KP false env h₀ h h') : ∀ b o, h.get? b = some o → (∃ vs n, o.data = .seq vs n) → h'.get? b = some o := by
  intro b o e ⟨vs, m, f⟩
  obtain ⟨_, ⟨oL, es, ep, hL, hLd, _⟩, _⟩ := S.val
  refine k b o e (.seq f) (fun y q hq z => ?_) (fun h => by cases h)
  · obtain ⟨_, v, o', ho', hd'⟩ := S.cel y q hq
    rw [z, ho'] at e; cases e; rw [hd'] at f; cases f
theorem ASs_nil {ts : List (Value → Sem Unit)} {P : Loc → Prop} (h : P ρ) (ht : ts = []) : ASs c n env ρ ts [] P := by
  intro h₀ A s Q vs R Fe S r hQ
  subst ht
  exact assignInOrder_nil (hQ _ _ Sim.refl KP.refl S h)
theorem ASs_cons {t : Expr} {ts : List (Value → Sem Unit)} {d : D} {ds : List D} {P : Loc → Prop} {l : List (Value → Sem Unit)}
    (hl : l = assign t env :: ts)
    (h : AS c n env ρ t d fun ρ' => ASs c n env ρ' ts ds P) : ASs c n env ρ l (d :: ds) P := by
  intro h₀ A s Q vs R Fe S r hQ
  subst hl
  obtain ⟨v, r', rfl, rv, rl⟩ := r.cons_inv
  have step : ∀ {α : Type} {t : Sem α} {Q : α → Shared → Prop} {vs : List Value}, wpAny (model c.prog c.w) A t Q (fun _ _ => False) s → wpAny (model c.prog c.w) A (holding vs t) Q (fun _ _ => False) s := fun h => wpAny_holding h
  refine assignInOrder_cons (h h₀ A s _ v R Fe S rv fun ρ' s1 a b d1 p => ?_)
  exact p h₀ A s1 Q r' R Fe d1 (rl.seqKeeps (b.seq S)) fun ρ'' s2 a2 b2 d2 p2 => hQ ρ'' s2 (a.trans a2) (b.trans b2) d2 p2
theorem AS_tuple {elts : List Expr} {k : Nat} {pos : Pos} {l : List D} {P : Loc → Prop} (hlen : (assignEach elts env).length = l.length) (hstar : (assignEach elts env).findIdx? (·.1) = none)
    (h : ASs c n env ρ ((assignEach elts env).map (·.2)) l P) : AS c n env ρ (.Tuple elts k pos) (.tup l) P := by
  intro h₀ A s Q v R Fe S r hQ
  obtain ⟨a, vs, rfl, ht, rl⟩ := r.tup_inv
  show wpAny _ A (do standAt pos; unpack (.ref a) (assignEach elts env)) Q _ s
  refine wpAny_bind (wpAny_standAt ?_)
  refine wpAny_unpack_tuple R.handled ht (by rw [hlen, ← rl.length]; simp) hstar fun h' hE => ?_
  have st : s.heap.StaysIn h' := fun b o e => hE b o (Nat.ne_of_lt (Heap.lt_size e)) e
  have up : Up c s { s with heap := h' } := Up.heap st
  have := h h₀ A { s with heap := h' } Q vs R Fe (S.keeps (Le.of st)) (rl.keeps (Nd.of st)) fun ρ' s2 a b d p => hQ ρ' s2 (up.sim.trans a) ((KP.up (Nd.of st)).trans b) d p
  simpa using this

theorem EX_assignT {elts : List Expr} {k : Nat} {tpos : Pos} {value : Expr} {pos : Pos} {rest : List Stmt} {P : Fl → Loc → Prop}
    (h : EV c n env ρ value fun d => AS c n env ρ (.Tuple elts k tpos) d fun ρ' => EX c n mu env ρ' rest P)
    (hs : swapsWithSole [.Tuple elts k tpos] value pos.line env = pure false := by rfl)
    (hw : swappedStores [.Tuple elts k tpos] value env = pure none := by rfl) : EX c n mu env ρ (.Assign [.Tuple elts k tpos] value pos :: rest) P := by
  intro h₀ A s Q R Fe S hQ
  refine wpAny_execs_cons (Assign_Tuple (h h₀ A s _ R S fun v d s' u r p => ?_) hs hw)
  refine p h₀ A s' _ v R Fe (S.keeps u.keep) r fun ρ' s2 a b d2 p2 => ?_
  exact seq_step (fl := .next) R Fe hQ (u.sim.trans a) ((KP.up u.keep.to).trans b.loose) d2 rfl p2

theorem store2 {h₀ : Heap} {A : Around} {s : Shared} {Q : Unit → Shared → Prop} {x y : Str} {a b : D} {v1 v2 : Value} (hx : StOk env x) (hy : StOk env y) (Fe : FrEnv A env h₀) (S : St c A env h₀ ρ s.heap)
    (ra : Rep s.heap a v1) (rb : Rep s.heap b v2)
    (hQ : ∀ s', Sim s s' → KP false env h₀ s.heap s'.heap → St c A env h₀ ((x, .new, a) :: (y, .new, b) :: ρ) s'.heap → Q () s') :
    wpAny (model c.prog c.w) A (assignInOrder ([x, y].reverse.map fun n => bindName env n) [v1, v2].reverse) Q (fun _ _ => False) s := by
  refine assignInOrder_cons (wpAny_bindName (S.store (mu := false) .new Fe hy rb (fun h => by cases h) (fun h => by cases h) fun s2 a2 b2 e2 => ?_))
  refine assignInOrder_cons (wpAny_bindName (e2.store (mu := false) .new Fe hx (ra.seqKeeps (b2.seq S)) (fun h => by cases h) (fun h => by cases h) fun s3 a3 b3 e3 => ?_))
  exact assignInOrder_nil (hQ s3 (a2.trans a3) (b2.trans b3) e3)
theorem store3 {h₀ : Heap} {A : Around} {s : Shared} {Q : Unit → Shared → Prop} {x y z : Str} {a b e : D} {v1 v2 v3 : Value} (hx : StOk env x) (hy : StOk env y) (hz : StOk env z) (Fe : FrEnv A env h₀) (S : St c A env h₀ ρ s.heap)
    (ra : Rep s.heap a v1) (rb : Rep s.heap b v2) (rc : Rep s.heap e v3)
    (hQ : ∀ s', Sim s s' → KP false env h₀ s.heap s'.heap → St c A env h₀ ((x, .new, a) :: (y, .new, b) :: (z, .new, e) :: ρ) s'.heap → Q () s') :
    wpAny (model c.prog c.w) A (assignInOrder ([x, y, z].reverse.map fun n => bindName env n) [v1, v2, v3].reverse) Q (fun _ _ => False) s := by
  refine assignInOrder_cons (wpAny_bindName (S.store (mu := false) .new Fe hz rc (fun h => by cases h) (fun h => by cases h) fun s2 a2 b2 e2 => ?_))
  exact store2 hx hy Fe e2 (ra.seqKeeps (b2.seq S)) (rb.seqKeeps (b2.seq S)) fun s3 a3 b3 e3 => hQ s3 (a2.trans a3) (b2.trans b3) e3

theorem EX_swap2 {elts : List Expr} {k : Nat} {tpos : Pos} {value : Expr} {pos : Pos} {rest : List Stmt} {P : Fl → Loc → Prop} {x y : Str} (hx : StOk env x) (hy : StOk env y)
    (h : EV c n env ρ value fun d => ∃ a b, d = .tup [a, b] ∧ EX c n mu env ((x, .new, a) :: (y, .new, b) :: ρ) rest P)
    (hw : swappedStores [.Tuple elts k tpos] value env = pure (some [x, y]))
    (hs : swapsWithSole [.Tuple elts k tpos] value pos.line env = pure false) : EX c n mu env ρ (.Assign [.Tuple elts k tpos] value pos :: rest) P := by
  intro h₀ A s Q R Fe S hQ
  refine wpAny_execs_cons (Assign_Tuple_swapped (h h₀ A s _ R S fun v d s' u r p => ?_) hs hw)
  obtain ⟨a, b, rfl, p⟩ := p
  obtain ⟨q, vs, rfl, ht, rl⟩ := r.tup_inv
  obtain ⟨v1, r1, rfl, ra, rl⟩ := rl.cons_inv
  obtain ⟨v2, r2, rfl, rb, rl⟩ := rl.cons_inv
  obtain rfl := rl.nil_inv
  have un : ∀ Q, (∀ h', Heap.ExtBut s'.heap.objs.size s'.heap h' → Q [v1, v2] { s' with heap := h' }) → wpAny (model c.prog c.w) A (unpackItems (.ref q) 2 none) Q (fun _ _ => False) s' := fun Q h => unpackItems_tuple (items := [v1, v2].toArray) R.handled ht h
  refine un _ fun h' hE => ?_
  have st : s'.heap.StaysIn h' := fun b o e => hE b o (Nat.ne_of_lt (Heap.lt_size e)) e
  have up : Up c s { s' with heap := h' } := u.trans (Up.heap st)
  have S1 : St c A env h₀ ρ h' := S.keeps up.keep
  refine store2 (s := { s' with heap := h' }) hx hy Fe S1 (ra.keeps (Nd.of st)) (rb.keeps (Nd.of st)) fun s3 a3 b3 e3 => ?_
  exact seq_step (fl := .next) R Fe hQ (up.sim.trans a3) ((KP.up up.keep.to).trans b3.loose) e3 rfl p
theorem EX_swap3 {elts : List Expr} {k : Nat} {tpos : Pos} {value : Expr} {pos : Pos} {rest : List Stmt} {P : Fl → Loc → Prop} {x y z : Str} (hx : StOk env x) (hy : StOk env y) (hz : StOk env z)
    (h : EV c n env ρ value fun d => ∃ a b e, d = .tup [a, b, e] ∧ EX c n mu env ((x, .new, a) :: (y, .new, b) :: (z, .new, e) :: ρ) rest P)
    (hw : swappedStores [.Tuple elts k tpos] value env = pure (some [x, y, z]))
    (hs : swapsWithSole [.Tuple elts k tpos] value pos.line env = pure false) : EX c n mu env ρ (.Assign [.Tuple elts k tpos] value pos :: rest) P := by
  intro h₀ A s Q R Fe S hQ
  refine wpAny_execs_cons (Assign_Tuple_swapped (h h₀ A s _ R S fun v d s' u r p => ?_) hs hw)
  obtain ⟨a, b, e, rfl, p⟩ := p
  obtain ⟨q, vs, rfl, ht, rl⟩ := r.tup_inv
  obtain ⟨v1, r1, rfl, ra, rl⟩ := rl.cons_inv
  obtain ⟨v2, r2, rfl, rb, rl⟩ := rl.cons_inv
  obtain ⟨v3, r3, rfl, rc, rl⟩ := rl.cons_inv
  obtain rfl := rl.nil_inv
  have un : ∀ Q, (∀ h', Heap.ExtBut s'.heap.objs.size s'.heap h' → Q [v1, v2, v3] { s' with heap := h' }) → wpAny (model c.prog c.w) A (unpackItems (.ref q) 3 none) Q (fun _ _ => False) s' := fun Q h => unpackItems_tuple (items := [v1, v2, v3].toArray) R.handled ht h
  refine un _ fun h' hE => ?_
  have st : s'.heap.StaysIn h' := fun b o e => hE b o (Nat.ne_of_lt (Heap.lt_size e)) e
  have up : Up c s { s' with heap := h' } := u.trans (Up.heap st)
  have S1 : St c A env h₀ ρ h' := S.keeps up.keep
  refine store3 (s := { s' with heap := h' }) hx hy hz Fe S1 (ra.keeps (Nd.of st)) (rb.keeps (Nd.of st)) (rc.keeps (Nd.of st)) fun s3 a3 b3 e3 => ?_
  exact seq_step (fl := .next) R Fe hQ (up.sim.trans a3) ((KP.up up.keep.to).trans b3.loose) e3 rfl p

theorem EX_while {test : Expr} {body : List Stmt} {pos : Pos} {rest : List Stmt} {P : Fl → Loc → Prop} (I : Nat → Loc → Prop) (k : Nat) {ρ₀ : Loc} (h0 : I k ρ₀) (hsub : Sub ρ₀ ρ)
    (turn : ∀ k ρ, I k ρ → EB c n env ρ test fun q =>
      (q = true → EX c n mu env ρ body fun fl ρ' => match fl with
        | .next => ∃ m ρ'', m < k ∧ Sub ρ'' ρ' ∧ I m ρ''
        | .cont => ∃ m ρ'', m < k ∧ Sub ρ'' ρ' ∧ I m ρ''
        | .brk => EX c n mu env ρ' rest P
        | .ret d => P (.ret d) ρ') ∧
      (q = false → EX c n mu env ρ rest P)) :
    EX c n mu env ρ (.While test body [] pos :: rest) P := by
  intro h₀ A s Q R Fe S hQ
  refine wpAny_execs_cons (wpAny_While ?_)
  refine codeAny_whileLoop (fun k s' => Sim s s' ∧ KP mu env h₀ s.heap s'.heap ∧ ∃ ρ, I k ρ ∧ St c A env h₀ ρ s'.heap) (fun k s1 ⟨a, b, ρ1, hI, S1⟩ => ?_) k ⟨Sim.refl, KP.refl, ρ₀, h0, S.forget hsub⟩
  refine wpAny_mono (turn k ρ1 hI h₀ A s1 _ R S1 fun q s2 u p => ?_) (fun _ _ x => x) (fun _ _ x => x.elim)
  cases q with
  | false =>
    show wpAny _ A (execs [] env) _ _ s2
    refine wpAny_execs_nil ?_
    exact p.2 rfl h₀ A s2 Q R Fe (S1.keeps u.keep) fun f fl ρ' s3 a3 b3 d3 e3 p3 => hQ f fl ρ' s3 ((a.trans u.sim).trans a3) ((b.trans (KP.up u.keep.to)).trans b3) d3 e3 p3
  | true =>
    refine wpAny_mono (p.1 rfl h₀ A s2 _ R Fe (S1.keeps u.keep) fun f fl ρ' s3 a3 b3 d3 e3 p3 => ?_) (fun _ _ x => x) (fun _ _ x => x.elim)
    have a' := (a.trans u.sim).trans a3
    have b' := (b.trans (KP.up u.keep.to)).trans b3
    cases fl with
    | next => obtain rfl := e3; obtain ⟨m, ρ'', hm, hs, hI'⟩ := p3; exact ⟨m, hm, a', b', ρ'', hI', d3.forget hs⟩
    | cont => obtain rfl := e3; obtain ⟨m, ρ'', hm, hs, hI'⟩ := p3; exact ⟨m, hm, a', b', ρ'', hI', d3.forget hs⟩
    | brk =>
      obtain rfl := e3
      exact p3 h₀ A s3 Q R Fe d3 fun f fl ρ' s4 a4 b4 d4 e4 p4 => hQ f fl ρ' s4 (a'.trans a4) (b'.trans b4) d4 e4 p4
    | ret d => obtain ⟨v, rfl, r⟩ := e3; exact hQ _ (.ret d) ρ' _ a' b' d3 ⟨v, rfl, r⟩ p3
end
end Mine
end
section
open PySem PySem.W PySem.Calls PyProof.Rows
namespace Mine

/-- g's sequences stand in h -/
def SeqIn (g h : Heap) : Prop := ∀ b o, g.get? b = some o → (∃ vs n, o.data = .seq vs n) → h.get? b = some o

/-- an iterator at `it` that will give ds -/
structure Iter (c : Cx) (g : Heap) (it : Addr) (ds : List D) (T : Nat → Heap → Prop) : Prop where
  item : ∀ (A : Around) (E : Value → Shared → Prop) (s : Shared) (i : Nat) (d : D) (Q : Option Value → Shared → Prop), A.handled = none → T i s.heap → SeqIn g s.heap → ds[i]? = some d →
    (∀ x h' tk, Rep h' d x → T (i + 1) h' → Heap.SameBut it s.heap h' → Q (some x) { s with heap := h', toks := tk }) → wpAny (model c.prog c.w) A (pyNext (.ref it)) Q E s
  last : ∀ (A : Around) (E : Value → Shared → Prop) (s : Shared) (i : Nat) (Q : Option Value → Shared → Prop), A.handled = none → T i s.heap → SeqIn g s.heap → ds[i]? = none →
    (∀ h', Heap.ExtBut it s.heap h' → Q none { s with heap := h' }) → wpAny (model c.prog c.w) A (pyNext (.ref it)) Q E s
  keep : ∀ i h h', T i h → (∀ o, h.get? it = some o → h'.get? it = some o) → T i h'
  self : ∀ (A : Around) (E : Value → Shared → Prop) (s : Shared) (i : Nat) (Q : Value → Shared → Prop), T i s.heap → Q (.ref it) s → wpAny (model c.prog c.w) A (pyIter (.ref it)) Q E s
  obj : ∀ i h, T i h → ∃ o vs, h.get? it = some o ∧ o.cls ≠ .type "list" ∧ o.data = .fields vs

theorem Iter.nd {c : Cx} {g : Heap} {it : Addr} {ds : List D} {T : Nat → Heap → Prop} (It : Iter c g it ds T) {i : Nat} {h : Heap} (hT : T i h) {o : Obj} (e : h.get? it = some o) : ND o := by
  obtain ⟨o', vs, ho, _, hd⟩ := It.obj i h hT
  rw [ho] at e; cases e; exact .fields hd

def Itb (c : Cx) (d : D) (ds : List D) : Prop :=
  ∀ (g : Heap) (A : Around) (s : Shared) (Q : Value → Shared → Prop) (E : Value → Shared → Prop) (x : Value), A.handled = none → Rep g d x → SeqIn g s.heap →
    (∀ it T s', Up c s s' → s.heap.get? it = none → s.heap.objs.size ≤ it → Iter c g it ds T → T 0 s'.heap → Q (.ref it) s') → wpAny (model c.prog c.w) A (pyIter x) Q E s

theorem get_none_of_size {h : Heap} {a : Addr} (ha : h.objs.size ≤ a) : h.get? a = none := by
  cases e : h.get? a with
  | none => rfl
  | some o => exact absurd (Heap.lt_size e) (Nat.not_lt.mpr ha)

theorem RepL.get' {h : Heap} {ds : List D} {vs : List Value} (r : RepL h ds vs) {i : Nat} : ds[i]? = none → vs[i]? = none := by
  intro e
  rw [List.getElem?_eq_none_iff] at e ⊢
  rw [r.length]; exact e

theorem Itb.lst {c : Cx} {ds : List D} : Itb c (.lst ds) ds := by
  intro g A s Q E x hh r si hQ
  obtain ⟨l, vs, rfl, ⟨o, ho, hc, m, hd⟩, rl⟩ := r.lst_inv
  have hl : ∀ h, SeqIn g h → h.IsList l vs.toArray := fun h si => ⟨o, si _ _ ho ⟨_, _, hd⟩, hc, m, hd⟩
  refine wpAny_pyIter_list (hl _ si) (hQ _ (fun i h => h.IsListIter s.heap.objs.size l i) _ ⟨.of fun _ _ e => Heap.get?_push_of_some _ e, rfl⟩ (get_none_of_size (Nat.le_refl _)) (Nat.le_refl _) ?_ ⟨_, Heap.get?_push_size _ rfl, rfl, rfl⟩)
  refine ⟨fun A E s' i d Q hh hi si' hx h => ?_, fun A E s' i Q hh hi si' hx h => ?_, fun i h h' ⟨o, ho, hr⟩ k => ⟨o, k o ho, hr⟩, fun A E s' i Q hi h => wpAny_pyIter_listiter hi h, fun i h ⟨o, ho, hr, hd⟩ => ⟨o, _, ho, by rw [hr]; decide, hd⟩⟩
  · obtain ⟨v, hv, rv⟩ := rl.get hx
    refine wpAny_pyNext_list_item hi (hl _ si') (by simpa using hv) fun h' hi' hs => h v h' _ (rv.seqKeeps fun b o e ⟨ws, k, f⟩ => ?_) hi' hs
    refine (hs.2 b (fun z => ?_)).trans (si' b o e ⟨ws, k, f⟩)
    obtain ⟨oi, hoi, _, hdi⟩ := hi
    have := si' b o e ⟨ws, k, f⟩
    rw [z, hoi] at this; cases this; rw [hdi] at f; cases f
  · exact wpAny_pyNext_list_end hh hi (hl _ si') (by simpa using rl.get' hx) h
theorem Itb.tup {c : Cx} {ds : List D} : Itb c (.tup ds) ds := by
  intro g A s Q E x hh r si hQ
  obtain ⟨l, vs, rfl, ⟨o, ho, hc, m, hd⟩, rl⟩ := r.tup_inv
  have hl : ∀ h, SeqIn g h → IsTup h l vs.toArray := fun h si => ⟨o, si _ _ ho ⟨_, _, hd⟩, hc, m, hd⟩
  refine iter_tuple (hl _ si) (hQ _ (fun i h => IsTupIter h s.heap.objs.size l i) _ ⟨.of fun _ _ e => Heap.get?_push_of_some _ e, rfl⟩ (get_none_of_size (Nat.le_refl _)) (Nat.le_refl _) ?_ ⟨_, Heap.get?_push_size _ rfl, rfl, rfl⟩)
  refine ⟨fun A E s' i d Q hh hi si' hx h => ?_, fun A E s' i Q hh hi si' hx h => ?_, fun i h h' ⟨o, ho, hr⟩ k => ⟨o, k o ho, hr⟩, fun A E s' i Q hi h => wpAny_pyIter_tupleiter hi h, fun i h ⟨o, ho, hr, hd⟩ => ⟨o, _, ho, by rw [hr]; decide, hd⟩⟩
  · obtain ⟨v, hv, rv⟩ := rl.get hx
    refine next_tuple_item hi (hl _ si') (by simpa using hv) fun h' hi' hs => h v h' _ (rv.seqKeeps fun b o e ⟨ws, k, f⟩ => ?_) hi' hs
    refine (hs.2 b (fun z => ?_)).trans (si' b o e ⟨ws, k, f⟩)
    obtain ⟨oi, hoi, _, hdi⟩ := hi
    have := si' b o e ⟨ws, k, f⟩
    rw [z, hoi] at this; cases this; rw [hdi] at f; cases f
  · exact next_tuple_end hh hi (hl _ si') (by simpa using rl.get' hx) h

/-- the signs of a text -/
def signs (x : Str) : List D := x.cps.toList.map fun k => .str ⟨#[k]⟩
theorem Itb.str {c : Cx} {y : Str} : Itb c (.str y) (signs y) := by
  intro g A s Q E x hh r si hQ
  obtain ⟨t, rfl⟩ := r.str_inv
  have ix : ∀ i : Nat, ∀ d, (signs y)[i]? = some d → ∃ k, y.cps[i]? = some k ∧ d = .str ⟨#[k]⟩ := fun i d e => by
    unfold signs at e
    rw [List.getElem?_map] at e
    obtain ⟨k, hk, e⟩ := Option.map_eq_some_iff.mp e
    exact ⟨k, by simpa using hk, e.symm⟩
  have ie : ∀ i : Nat, (signs y)[i]? = none → y.cps[i]? = none := fun i e => by
    unfold signs at e
    rw [List.getElem?_map, Option.map_eq_none_iff] at e
    simpa using e
  cases ha : y.cps.all (· < 128) with
  | true =>
    refine wpAny_pyIter_ascii ha (hQ _ (fun i h => h.IsStrIter s.heap.objs.size "str_ascii_iterator" y t i) _ ⟨.of fun _ _ e => Heap.get?_push_of_some _ e, rfl⟩ (get_none_of_size (Nat.le_refl _)) (Nat.le_refl _) ?_ ⟨_, Heap.get?_push_size _ rfl, rfl, rfl⟩)
    refine ⟨fun A E s' i d Q hh hi si' hx h => ?_, fun A E s' i Q hh hi si' hx h => ?_, fun i h h' ⟨o, ho, hr⟩ k => ⟨o, k o ho, hr⟩, fun A E s' i Q hi h => wpAny_pyIter_striter_ascii hi h, fun i h ⟨o, ho, hr, hd⟩ => ⟨o, _, ho, by rw [hr]; decide, hd⟩⟩
    · obtain ⟨k, hk, rfl⟩ := ix _ _ hx
      exact wpAny_pyNext_ascii_item hi hk fun h' hi' hs => h _ h' _ Rep.str hi' hs
    · exact wpAny_pyNext_ascii_end hh hi (ie _ hx) h
  | false =>
    refine wpAny_pyIter_wide ha (hQ _ (fun i h => h.IsStrIter s.heap.objs.size "str_iterator" y t i) _ ⟨.of fun _ _ e => Heap.get?_push_of_some _ e, rfl⟩ (get_none_of_size (Nat.le_refl _)) (Nat.le_refl _) ?_ ⟨_, Heap.get?_push_size _ rfl, rfl, rfl⟩)
    refine ⟨fun A E s' i d Q hh hi si' hx h => ?_, fun A E s' i Q hh hi si' hx h => ?_, fun i h h' ⟨o, ho, hr⟩ k => ⟨o, k o ho, hr⟩, fun A E s' i Q hi h => wpAny_pyIter_striter_wide hi h, fun i h ⟨o, ho, hr, hd⟩ => ⟨o, _, ho, by rw [hr]; decide, hd⟩⟩
    · obtain ⟨k, hk, rfl⟩ := ix _ _ hx
      exact wpAny_pyNext_wide_item hi hk fun h' hi' hs => h _ h' _ Rep.str hi' hs
    · exact wpAny_pyNext_wide_end hh hi (ie _ hx) h

section
variable {c : Cx} {n : Nat} {mu : Bool} {env : Env} {ρ : Loc}

/-- a turn of a for -/
def Turn (c : Cx) (n : Nat) (mu : Bool) (env : Env) (rest : List Stmt) (P : Fl → Loc → Prop) (J : Loc → Prop) : Fl → Loc → Prop
  | .next, ρ' => ∃ ρ'', Sub ρ'' ρ' ∧ J ρ''
  | .cont, ρ' => ∃ ρ'', Sub ρ'' ρ' ∧ J ρ''
  | .brk, ρ' => EX c n mu env ρ' rest P
  | .ret d, ρ' => P (.ret d) ρ'

theorem for_core {target : Expr} {body : List Stmt} {rest : List Stmt} {P : Fl → Loc → Prop} {ds : List D} (mb : Bool) (I : List D → Loc → Prop)
    {h₀ g : Heap} {A : Around} {s s0 : Shared} {Q : Flow → Shared → Prop} {it : Addr} {T : Nat → Heap → Prop} {ρ₀ : Loc} (R : Room n A) (Fe : FrEnv A env h₀)
    (S : St c A env h₀ ρ₀ s.heap) (hI : I [] ρ₀) (up : Sim s0 s) (kp0 : KP mu env h₀ s0.heap s.heap) (hit0 : s0.heap.get? it = none) (hitL : it ≠ env.locals) (hitC : ∀ n k, env.cells.lookup n = some k → it ≠ k) (hith : h₀.get? it = none)
    (It : Iter c g it ds T) (hT : T 0 s.heap) (gs : ∀ h, SeqIn g h → ∀ h', KP mb env h₀ h h' → (∃ ρ, St c A env h₀ ρ h) → Le c h₀ h' → SeqIn g h') (g0 : SeqIn g s.heap)
    (hmb : mb = true → mu = true)
    (hQ : ∀ f fl ρ' s', Sim s0 s' → KP mu env h₀ s0.heap s'.heap → St c A env h₀ ρ' s'.heap → FlRep s'.heap fl f → P fl ρ' → Q f s')
    (turn : ∀ pre x post ρ, ds = pre ++ x :: post → I pre ρ → AS c n env ρ target x fun ρ1 => EX c n mb env ρ1 body (Turn c n mu env rest P (I (pre ++ [x]))))
    (fin : ∀ ρ, I ds ρ → EX c n mu env ρ rest P) (ht : ∀ v, letOwnedTupleGo target (.ref it) v = pure ()) :
    codeAny (model c.prog c.w) A (.forLoop target (.ref it) body [] env) (fun r s' => match r with | .ok f => (match (generalizing := false) f with | .next => wpAny (model c.prog c.w) A (execs rest env) Q (fun _ _ => False) s' | f => Q f s') | .error e => cameBackBy (model c.prog c.w) A env (fun _ _ => False) e s') s := by
  have kml : ∀ {a b : Heap}, KP mb env h₀ a b → KP mu env h₀ a b := fun k => by
    cases mb with
    | false => exact k.loose
    | true => rw [hmb rfl]; exact k
  refine codeAny_forLoop (fun k s' => Sim s0 s' ∧ KP mu env h₀ s0.heap s'.heap ∧ SeqIn g s'.heap ∧ ∃ pre post ρ, ds = pre ++ post ∧ k = post.length ∧ I pre ρ ∧ St c A env h₀ ρ s'.heap ∧ T pre.length s'.heap)
    (fun k s1 ⟨a, b, gs1, pre, post, ρ1, hds, hk, hI1, S1, hT1⟩ => ?_) ds.length ⟨up, kp0, g0, [], ds, ρ₀, rfl, rfl, hI, S, hT⟩ ht
  obtain ⟨oi, wi, hoi, hci, hdi⟩ := It.obj _ _ hT1
  have mod : ∀ h', Heap.ExtBut it s1.heap h' → St c A env h₀ ρ1 h' := fun h' hE => S1.modify hith (fun o e => by rw [hoi] at e; cases e; rw [hdi]; exact ⟨fun _ _ h => (by cases h), fun _ _ h => (by cases h), fun _ h => (by cases h)⟩) hE
  have kpm : ∀ h', Heap.ExtBut it s1.heap h' → KP mu env h₀ s0.heap h' := fun h' hE q o e h1 h2 h3 => hE q o (fun z => by rw [z, hit0] at e; cases e) (b q o e h1 h2 h3)
  have sqm : ∀ h', Heap.ExtBut it s1.heap h' → SeqIn g h' := fun h' hE q o e ⟨vs, m, f⟩ => hE q o (fun z => by
    have := gs1 q o e ⟨vs, m, f⟩
    rw [z, hoi] at this; cases this; rw [hdi] at f; cases f) (gs1 q o e ⟨vs, m, f⟩)
  cases post with
  | nil =>
    have hd : ds = pre := by simpa using hds
    refine It.last A _ s1 _ _ R.handled hT1 gs1 (by rw [hd]; simp) fun h' hE => ?_
    show wpAny _ A (execs [] env) _ _ _
    refine wpAny_execs_nil ?_
    exact fin ρ1 (by rw [hd]; exact hI1) h₀ A _ Q R Fe (mod h' hE) fun f fl ρ' s3 a3 b3 d3 e3 p3 => hQ f fl ρ' s3 ((a.trans ⟨rfl⟩).trans a3) ((kpm h' hE).trans b3) d3 e3 p3
  | cons x post =>
    refine It.item A _ s1 _ x _ R.handled hT1 gs1 (by rw [hds]; simp) fun v h' tk rv hT' hS => ?_
    have hE := hS.extBut
    have S2 := mod h' hE
    refine wpAny_mono (turn pre x post ρ1 hds hI1 h₀ A { s1 with heap := h', toks := tk } _ v R Fe S2 rv fun ρ2 s3 a3 b3 S3 p3 => ?_) (fun _ _ x => x) (fun _ _ x => x.elim)
    have a' := (a.trans (c := { s1 with heap := h', toks := tk }) ⟨rfl⟩).trans a3
    refine wpAny_mono (p3 h₀ A s3 _ R Fe S3 fun f fl ρ' s4 a4 b4 d4 e4 p4 => ?_) (fun _ _ x => x) (fun _ _ x => x.elim)
    have aa := a'.trans a4
    have bb := ((kpm h' hE).trans b3.loose).trans (kml b4)
    have gg : SeqIn g s4.heap := gs _ (fun q o e f => b3.seq S2 q o (sqm h' hE q o e f) f) _ b4 ⟨_, S3⟩ d4.keep
    have hT4 : T (pre ++ [x]).length s4.heap := by
      rw [List.length_append]
      have k3 := It.keep _ _ _ hT' fun o e => b3 it o e (It.nd hT' e) hitC (fun z => by cases z)
      refine It.keep _ _ _ k3 fun o e => b4 it o e (It.nd k3 e) hitC fun _ _ z => ?_
      obtain ⟨o', _, ho', hc', _⟩ := It.obj _ _ k3
      rw [ho'] at e; cases e; exact hc' z
    have cont : (∃ ρ'', Sub ρ'' ρ' ∧ I (pre ++ [x]) ρ'') → ∃ m, m < k ∧ (Sim s0 s4 ∧ KP mu env h₀ s0.heap s4.heap ∧ SeqIn g s4.heap ∧ ∃ pre post ρ, ds = pre ++ post ∧ m = post.length ∧ I pre ρ ∧ St c A env h₀ ρ s4.heap ∧ T pre.length s4.heap) :=
      fun ⟨ρ'', hs, hi⟩ => ⟨post.length, by rw [hk]; simp, aa, bb, gg, pre ++ [x], post, ρ'', by rw [hds]; simp, rfl, hi, d4.forget hs, hT4⟩
    cases fl with
    | next => obtain rfl := e4; exact cont p4
    | cont => obtain rfl := e4; exact cont p4
    | brk =>
      obtain rfl := e4
      exact p4 h₀ A s4 Q R Fe d4 fun f fl ρ' s5 a5 b5 d5 e5 p5 => hQ f fl ρ' s5 (aa.trans a5) (bb.trans b5) d5 e5 p5
    | ret d => obtain ⟨v, rfl, r⟩ := e4; exact hQ _ (.ret d) ρ' _ aa bb d4 ⟨v, rfl, r⟩ p4

theorem EX_for {target iter : Expr} {body : List Stmt} {pos : Pos} {rest : List Stmt} {P : Fl → Loc → Prop} (ds : List D) (I : List D → Loc → Prop)
    (h : EV c n env ρ iter fun d => Itb c d ds ∧ ∃ ρ₀, Sub ρ₀ ρ ∧ I [] ρ₀)
    (turn : ∀ pre x post ρ, ds = pre ++ x :: post → I pre ρ → AS c n env ρ target x fun ρ1 => EX c n false env ρ1 body (Turn c n mu env rest P (I (pre ++ [x]))))
    (fin : ∀ ρ, I ds ρ → EX c n mu env ρ rest P)
    (hs : ∀ x, foldedSetIterable iter env x = pure x := by intro _; rfl) (ht : ∀ it v, letOwnedTupleGo target it v = pure () := by intro _ _; rfl) :
    EX c n mu env ρ (.For target iter body [] pos :: rest) P := by
  intro h₀ A s Q R Fe S hQ
  refine wpAny_execs_cons (wpAny_For (h h₀ A s _ R S fun v d s1 u1 r1 p1 => ?_) hs)
  obtain ⟨hi, ρ₀, hsub, hI⟩ := p1
  have S1 := S.keeps u1.keep
  refine hi s1.heap A s1 _ _ v R.handled r1 (fun _ _ e _ => e) fun it T s2 u2 hn hn' It hT => ?_
  have up := u1.trans u2
  have S2 := S1.keeps u2.keep
  obtain ⟨m, ⟨oL, es, ep, hL, hLd, _⟩, _⟩ := S1.val
  refine for_core (g := s1.heap) false I R Fe (S2.forget hsub) hI up.sim (KP.up up.keep.to) ?_ ?_ ?_ ?_ It hT (fun h si h' k ⟨ρ, S⟩ _ q o e f => k.seq S q o (si q o e f) f) (fun q o e ⟨_, _, f⟩ => u2.keep.nd q o e (.seq f)) (fun h => by cases h) hQ turn fin (ht _)
  · exact u1.keep.noneOf hn
  · intro z; rw [z] at hn; rw [hn] at hL; cases hL
  · intro y k e z
    obtain ⟨_, v, o, ho, _⟩ := S1.cel y k e
    rw [z, ho] at hn; cases hn
  · exact S1.keep.noneOf hn

/-- over a list that stood ahead of the call: the body may change the call's own lists -/
theorem EX_forOld {target : Expr} {x : Str} {ip : Pos} {body : List Stmt} {pos : Pos} {rest : List Stmt} {P : Fl → Loc → Prop} (ds : List D) (I : List D → Loc → Prop)
    (hx : ρ.lookup x = some (.old, .lst ds)) {ρ₀ : Loc} (hsub : Sub ρ₀ ρ) (hI : I [] ρ₀)
    (turn : ∀ pre x post ρ, ds = pre ++ x :: post → I pre ρ → AS c n env ρ target x fun ρ1 => EX c n true env ρ1 body (Turn c n true env rest P (I (pre ++ [x]))))
    (fin : ∀ ρ, I ds ρ → EX c n true env ρ rest P)
    (ht : ∀ it v, letOwnedTupleGo target it v = pure () := by intro _ _; rfl)
    (hd : (x == ("__debug__" : Str)) = false := by decide) (hd' : (x == ("__classdict__" : Str)) = false := by decide) :
    EX c n true env ρ (.For target (.Name x ip) body [] pos :: rest) P := by
  intro h₀ A s Q R Fe S hQ
  have hk := Fe.kind
  obtain ⟨m, hm, hv⟩ := id S.val
  obtain ⟨v, H, r, r0, _⟩ := hv x _ _ hx
  have r0 := r0 rfl
  have key : ∀ (Q : Value → Shared → Prop) (E : Value → Shared → Prop), Q v s → wpAny (model c.prog c.w) A (eval (.Name x ip) env) Q E s := by
    intro Q E q
    refine wpAny_Name ?_ hd
    rcases H with ⟨a, b⟩ | ⟨a, q', b, t⟩
    · exact wpAny_loadName_local hk a hm b q
    · rcases a with a | a
      · exact wpAny_loadName_cell hk a b t q
      · exact wpAny_loadName_free hk a b t q hd'
  refine wpAny_execs_cons (wpAny_For (key _ _ ?_))
  refine Itb.lst h₀ A s _ _ v R.handled r0 (fun q o e ⟨_, _, f⟩ => S.keep.nd q o e (.seq f)) fun it T s2 up hn hn' It hT => ?_
  have S2 := S.keeps up.keep
  obtain ⟨oL, es, ep, hL, hLd, _⟩ := hm
  refine for_core (g := h₀) true I R Fe (S2.forget hsub) hI up.sim (KP.up up.keep.to) hn ?_ ?_ ?_ It hT (fun h si h' k _ st q o e ⟨_, _, f⟩ => st.nd q o e (.seq f)) (fun q o e ⟨_, _, f⟩ => S2.keep.nd q o e (.seq f)) (fun h => h) hQ turn fin (ht _)
  · intro z; rw [z] at hn; rw [hn] at hL; cases hL
  · intro y k e z
    obtain ⟨_, v, o, ho, _⟩ := S.cel y k e
    rw [z, ho] at hn; cases hn
  · exact S.keep.noneOf hn
end
end Mine
end
section
open PySem PySem.W PySem.Calls PyProof.Rows
namespace Mine

/-- x is a def of the text -/
def IsDef (c : Cx) (x : Str) (params : Arguments) (body : List Stmt) (scope : Scope) : Prop :=
  ∀ A h, c.G A h → ∃ a o pm code doc, c.mg x = some (.ref a) ∧ h.get? a = some o ∧ o.data = .func (docDef x params body scope pm code doc) ∧ h.CodeRec code x

/-- a call of the def x -/
def FNn (c : Cx) (n : Nat) (x : Str) (ds : List D) (P : D → Prop) : Prop :=
  ∀ (A : Around) (s : Shared) (Q : Value → Shared → Prop) (vs : List Value) (a : Addr), Room n A → c.G A s.heap → c.mg x = some (.ref a) → RepL s.heap ds vs →
    (∀ v d s', Up c s s' → Rep s'.heap d v → P d → Q v s') → wpAny (model c.prog c.w) A (call (.ref a) vs) Q (fun _ _ => False) s
theorem FNn.mono {c : Cx} {n : Nat} {x : Str} {ds : List D} {P P' : D → Prop} (h : FNn c n x ds P) (k : ∀ d, P d → P' d) : FNn c n x ds P' :=
  fun A s Q vs a R G e r hQ => h A s Q vs a R G e r fun v d s' u r p => hQ v d s' u r (k d p)
theorem Room.mono {m n : Nat} {A : Around} (R : Room n A) (h : m ≤ n) : Room m A := ⟨by have := R.depth; omega, by have := R.units; omega, R.handled⟩
theorem FNn.up {c : Cx} {m n : Nat} {x : Str} {ds : List D} {P : D → Prop} (h : FNn c m x ds P) (hm : m ≤ n) : FNn c n x ds P :=
  fun A s Q vs a R G e r hQ => h A s Q vs a (R.mono hm) G e r hQ
theorem Room.deeper {n : Nat} {A : Around} {env : Env} (R : Room (n + 1) A) : Room n (A.deeper env) :=
  ⟨by have := R.depth; show A.depth + 1 + 2 * n + 20 < 600; omega, by have := R.units; show A.units + 3 + 8 * n + 200 < cLine; omega, R.handled⟩

/-- what the body's end gives back -/
def Ret (P : D → Prop) : Fl → Loc → Prop
  | .ret d, _ => P d
  | .next, _ => P .none
  | _, _ => False

theorem lookup_zip_rev {h : Heap} : ∀ {names : List Str} {ds : List D} {vs : List Value}, names.Nodup → RepL h ds vs → names.length = ds.length → ∀ x g d,
    (names.zip (ds.map fun d => (Tg.old, d))).lookup x = some (g, d) → g = .old ∧ ∃ v, (names.zip vs).lookup x = some v ∧ Rep h d v
  | [], _, _, _, _, _, x, g, d, e => by simp at e
  | _ :: _, [], _, _, _, hl, _, _, _, _ => by simp at hl
  | y :: names, d0 :: ds, vs, nd, r, hl, x, g, d, e => by
    obtain ⟨v, r', rfl, rv, rl⟩ := r.cons_inv
    rw [List.map_cons, List.zip_cons_cons, List.lookup_cons] at e
    rw [List.zip_cons_cons, List.lookup_cons]
    cases hb : x == y with
    | true => rw [hb] at e; cases e; exact ⟨rfl, v, rfl, rv⟩
    | false =>
      rw [hb] at e
      exact lookup_zip_rev (List.nodup_cons.mp nd).2 rl (by simpa using hl) x g d e

theorem bindL_of {kindOf : Str → Option NameKind} : ∀ {binds : List (Str × Value)} {m : Str → Option Value} {x : Str} {v : Value}, (∀ y ∈ binds, kindOf y.1 = some .local) → (binds.map (·.1)).Nodup →
    binds.lookup x = some v → bindL kindOf binds m x = some v
  | [], _, _, _, _, _, e => by simp at e
  | (y, w) :: r, m, x, v, hk, nd, e => by
    unfold bindL
    rw [if_pos (hk (y, w) (.head _))]
    rw [List.map_cons, List.nodup_cons] at nd
    rw [List.lookup_cons] at e
    cases hb : x == y with
    | true =>
      rw [hb] at e; cases e
      have hx : x = y := beq_iff_eq.mp hb
      subst hx
      have skip : ∀ (r : List (Str × Value)) (m : Str → Option Value), x ∉ r.map (·.1) → bindL kindOf r m x = m x := by
        intro r
        induction r with
        | nil => intro m _; rfl
        | cons p r ih =>
          intro m hn
          obtain ⟨z, u⟩ := p
          rw [List.map_cons, List.mem_cons, not_or] at hn
          unfold bindL
          rw [ih _ hn.2]
          split
          · simp [hn.1]
          · rfl
      rw [skip r _ nd.1]; simp
    | false =>
      rw [hb] at e
      exact bindL_of (fun z hz => hk z (.tail _ hz)) nd.2 e

section
variable {c : Cx} {n : Nat} {P : D → Prop}
theorem FNn_introT {x : Str} {params : Arguments} {body : List Stmt} {scope : Scope} {ds : List D} (D : IsDef c x params body scope)
    (hnd : (params.args.map (·.arg)).Nodup) (hlen : (params.args.map (·.arg)).length = ds.length)
    (hbind : ∀ pm code doc vs, vs.length = ds.length → bindArgs (docDef x params body scope pm code doc) ⟨vs, []⟩ = pure ((params.args.map (·.arg)).zip vs))
    (hloc : ((params.args.map (·.arg)).all fun y => scope.names.lookup y == some .local) = true)
    (h : ∀ L a cd, EX c n true (envOfC x scope L a cd) ((params.args.map (·.arg)).zip (ds.map fun d => (Tg.old, d))) body (Ret P))
    (hco : scope.isCoroutine = false := by rfl) (hgen : scope.isGenerator = false := by rfl) (hk : scope.kind = .function := by rfl) : FNn c (n + 1) x ds P := by
  intro A s Q vs a R G ha r hQ
  obtain ⟨a', o, pm, code, doc, ha', ho, hd, hcd⟩ := D A s.heap G
  rw [ha] at ha'; cases ha'
  have hroom : A.depth < recursionLimit := by have := R.depth; show A.depth < 1000; omega
  refine wpAny_call (codeAny_call_function hroom ho hd hco hgen rfl hcd ?_)
  rw [hbind pm code doc vs r.length]
  refine wpAny_pure ?_
  have hloc' : ∀ y ∈ (params.args.map (·.arg)).zip vs, scope.names.lookup y.1 = some .local := fun y hy => by
    have := List.all_eq_true.mp hloc y.1 (List.of_mem_zip hy).1
    simpa using this
  refine wpAny_newFunctionEnv_cells hk (fun y hy => .inl (hloc' y hy)) fun env he s' X => ?_
  subst he
  refine ⟨G.top.nolimit.keeps X.toInCall.keep, codeAny_func ?_⟩
  obtain ⟨h₁, tk, rfl, _⟩ := X.done
  have hk₁ := X.toInCall.keep
  have kindL : ∀ y ∈ (params.args.map (·.arg)).zip vs, (envOfC x scope s.heap.objs.size a code).kindOf y.1 = some .local := hloc'
  have fs : FrS c (A.deeper (envOfC x scope s.heap.objs.size a code)) s.heap.objs.size s.heap := by
    obtain ⟨l, hl, hf⟩ := G.fr
    refine ⟨_ :: l, Around.frames_deeper hl, fun e he => ?_⟩
    rcases List.mem_cons.mp he with rfl | he
    · refine ⟨(fun z => by have z' : scope.kind = .module := z; rw [hk] at z'; cases z'), s.heap.objs.size, rfl, ?_, .inl rfl⟩
      exact (Le.of (c := c) G.st).noneOf (get_none_of_size (Nat.le_refl _))
    · obtain ⟨p, L, o, es, n, b, b', ho, hd⟩ := hf e he
      exact ⟨p, L, b, b', .inr ⟨o, es, n, ho, hd⟩⟩
  have S : St c (A.deeper (envOfC x scope s.heap.objs.size a code)) (envOfC x scope s.heap.objs.size a code) s.heap ((params.args.map (·.arg)).zip (ds.map fun d => (Tg.old, d))) h₁ := by
    refine ⟨G.toB, fs, .of hk₁, get_none_of_size (Nat.le_refl _), fun m k e => ⟨Nat.ne_of_gt (X.above m k (mem_of_lookup e)), _, X.cell m k e⟩, _, X.toInCall.ns, fun y g d e => ?_⟩
    obtain ⟨rfl, v, hv, rv⟩ := lookup_zip_rev hnd r hlen y g d e
    refine ⟨v, .inl ⟨kindL (y, v) (mem_of_lookup hv), bindL_of kindL ?_ hv⟩, rv.keeps (.of hk₁), fun _ => rv, fun h => by cases h⟩
    rw [show List.map (fun x => x.fst) ((params.args.map (·.arg)).zip vs) = params.args.map (·.arg) from List.map_fst_zip (by rw [hlen, r.length]; exact Nat.le_refl _)]
    exact hnd
  have Fe : FrEnv (A.deeper (envOfC x scope s.heap.objs.size a code)) (envOfC x scope s.heap.objs.size a code) s.heap := ⟨let ⟨l, hl, _⟩ := G.fr; ⟨l, Around.frames_deeper hl⟩, rfl, hk, fun m k e => get_none_of_size (Nat.le_of_lt (X.above m k (mem_of_lookup e))), fun m m' k e e' => name_of_addr X.apart (mem_of_lookup e) (mem_of_lookup e')⟩
  refine wpAny_mono (h s.heap.objs.size a code s.heap (A.deeper _) _ _ R.deeper Fe S fun f fl ρ' s' sim kp S' fr p => ?_) (fun _ _ x => x) (fun _ _ x => x.elim)
  have up : Up c s s' := ⟨S'.keep, by rw [sim.same]⟩
  cases fl with
  | ret d => obtain ⟨v, rfl, rv⟩ := fr; exact hQ v d s' up rv p
  | next => obtain rfl := fr; exact hQ _ .none s' up Rep.none p
  | brk => exact p.elim
  | cont => exact p.elim

theorem FNn_intro {x : Str} {params : Arguments} {body : List Stmt} {scope : Scope} {ds : List D} (D : IsDef c x params body scope)
    (hnd : (params.args.map (·.arg)).Nodup) (hlen : (params.args.map (·.arg)).length = ds.length)
    (hbind : ∀ pm code doc vs, vs.length = ds.length → bindArgs (docDef x params body scope pm code doc) ⟨vs, []⟩ = pure ((params.args.map (·.arg)).zip vs))
    (hloc : ((params.args.map (·.arg)).all fun y => scope.names.lookup y == some .local) = true)
    (h : ∀ mu L a cd, EX c n mu (envOfC x scope L a cd) ((params.args.map (·.arg)).zip (ds.map fun d => (Tg.old, d))) body (Ret P))
    (hco : scope.isCoroutine = false := by rfl) (hgen : scope.isGenerator = false := by rfl) (hk : scope.kind = .function := by rfl) : FNn c (n + 1) x ds P :=
  FNn_introT D hnd hlen hbind hloc (fun L a cd => h true L a cd) hco hgen hk

variable {env : Env} {ρ : Loc}
/-- the block's names of the top are the text's own -/
structure TopEnv (env : Env) : Prop where
  kind : env.scope.kind = .function
  g : env.globals = mainGlobals
  b : env.builtins = builtinsNs

theorem EV_call {x : Str} {p pos : Pos} {e : Expr} {rest : List Expr} {params : Arguments} {body : List Stmt} {scope : Scope} (D : IsDef c x params body scope) (hx : env.kindOf x = some .globalImplicit)
    (h : TVs c n env ρ (spliced (backTo pos (starEach (e :: rest) env))) fun ds => FNn c n x ds P)
    (T : TopEnv env := by exact ⟨rfl, rfl, rfl⟩)
    (he : starEach (e :: rest) env = (false, eval e env) :: starEach rest env := by rfl)
    (hd : (x == ("__debug__" : Str)) = false := by decide) : EV c n env ρ (.Call (.Name x p) (e :: rest) [] pos) P := by
  intro h₀ A s Q R S hQ
  obtain ⟨a, o, pm, code, doc, ha, ho, hdat, _⟩ := D A s.heap S.g
  refine Call_ (Name_function_global T.kind hx (loadGlobal_global (by rw [T.g]; exact S.g.top.g) ha ?_) hd)
  refine callWith_def hdat (h h₀ A s _ R S fun vs ds s1 u r q => ⟨u.keep.nd _ _ ho (.func hdat), ?_⟩) he
  exact q A s1 _ vs a R (S.g.keeps u.keep) ha r fun v d s2 u2 r2 p2 => hQ v d s2 (u.trans u2) r2 p2

/-- a call of a built-in function or type -/
theorem EV_callB {x : Str} {p pos : Pos} {e : Expr} {rest : List Expr} {id : String} (h0 : c.mg x = none) (hb : c.mb x = some (.builtin id)) (hx : env.kindOf x = some .globalImplicit)
    (h : TVs c n env ρ (spliced (backTo pos (starEach (e :: rest) env))) fun ds => FN c n (.builtin id) ds P)
    (T : TopEnv env := by exact ⟨rfl, rfl, rfl⟩)
    (he : starEach (e :: rest) env = (false, eval e env) :: starEach rest env := by rfl) (hplain : (backTo pos (starEach rest env)).any (·.1) = false := by rfl)
    (hd : (x == ("__debug__" : Str)) = false := by decide) : EV c n env ρ (.Call (.Name x p) (e :: rest) [] pos) P := by
  intro h₀ A s Q R S hQ
  refine Call_ (Name_function_global T.kind hx (loadGlobal_builtin (by rw [T.g]; exact S.g.top.g) h0 (by rw [T.b]; exact S.g.top.b) hb ?_) hd)
  refine callWith_builtin1 (h h₀ A s _ R S fun vs ds s1 u r q => ?_) he hplain
  exact q A s1 _ vs R (S.g.keeps u.keep) r fun v d s2 u2 r2 p2 => hQ v d s2 (u.trans u2) r2 p2
theorem EV_callT {x : Str} {p pos : Pos} {e : Expr} {rest : List Expr} {id : String} (h0 : c.mg x = none) (hb : c.mb x = some (.type id)) (hx : env.kindOf x = some .globalImplicit)
    (h : TVs c n env ρ (spliced (backTo pos (starEach (e :: rest) env))) fun ds => FN c n (.type id) ds P)
    (T : TopEnv env := by exact ⟨rfl, rfl, rfl⟩)
    (he : starEach (e :: rest) env = (false, eval e env) :: starEach rest env := by rfl) (hplain : (backTo pos (starEach rest env)).any (·.1) = false := by rfl)
    (hd : (x == ("__debug__" : Str)) = false := by decide) : EV c n env ρ (.Call (.Name x p) (e :: rest) [] pos) P := by
  intro h₀ A s Q R S hQ
  refine Call_ (Name_function_global T.kind hx (loadGlobal_builtin (by rw [T.g]; exact S.g.top.g) h0 (by rw [T.b]; exact S.g.top.b) hb ?_) hd)
  refine PyProof.Rows.callWith_type1 (h h₀ A s _ R S fun vs ds s1 u r q => ?_) he hplain
  exact q A s1 _ vs R (S.g.keeps u.keep) r fun v d s2 u2 r2 p2 => hQ v d s2 (u.trans u2) r2 p2
/-- a name of the top that holds plain data -/
theorem EV_glob {x : Str} {p : Pos} {d : D} (hd : ∀ A h, c.G A h → ∃ v, c.mg x = some v ∧ Rep h d v) (hx : env.kindOf x = some .globalImplicit) (h : P d)
    (T : TopEnv env := by exact ⟨rfl, rfl, rfl⟩) (hdb : (x == ("__debug__" : Str)) = false := by decide) : EV c n env ρ (.Name x p) P := by
  intro h₀ A s Q R S hQ
  obtain ⟨v, hv, r⟩ := hd A s.heap S.g
  exact Name_function_global T.kind hx (loadGlobal_global (by rw [T.g]; exact S.g.top.g) hv (hQ v d s Up.refl r h)) hdb

theorem builtin_of {x : Str} {v : Value} {h : Heap} (G : c.G A h) (hv : bootBuiltins x = some v) (hn : x ≠ "__name__" := by decide) : c.mb x = some v := (G.top.builtins x hn).trans hv
end
end Mine
end
section
open PySem PySem.W PySem.Calls PyProof.Rows
namespace Mine

section
variable {c : Cx} {n : Nat} {env : Env} {ρ : Loc} {P : D → Prop}

theorem FN_abs {a : Int} (h : P (.int (a.natAbs : Int))) : FN c n (.builtin "abs") [.int a] P := by
  intro A s Q vs R G r hQ
  obtain ⟨v, r', rfl, rv, rl⟩ := r.cons_inv
  obtain rfl := rl.nil_inv
  obtain ⟨t, rfl⟩ := rv.int_inv
  refine call_abs_int fun u tk => hQ _ _ _ Up.tok Rep.int ?_
  have : (if a < 0 then -a else a) = (a.natAbs : Int) := by split <;> omega
  rw [this]; exact h
theorem FN_lenS {x : Str} (hl : x.length ≤ 100000) (h : P (.int (x.length : Int))) : FN c n (.builtin "len") [.str x] P := by
  intro A s Q vs R G r hQ
  obtain ⟨v, r', rfl, rv, rl⟩ := r.cons_inv
  obtain rfl := rl.nil_inv
  obtain ⟨t, rfl⟩ := rv.str_inv
  exact PyProof.Rows.len_str (by omega) (hQ _ _ _ Up.tok Rep.int h)
theorem FN_lenL {l : List D} (hl : l.length ≤ 100000) (h : P (.int (l.length : Int))) : FN c n (.builtin "len") [.lst l] P := by
  intro A s Q vs R G r hQ
  obtain ⟨v, r', rfl, rv, rl⟩ := r.cons_inv
  obtain rfl := rl.nil_inv
  obtain ⟨a, ws, rfl, hL, rw⟩ := rv.lst_inv
  have := rw.length
  refine call_len_list hL (by simp; omega) (hQ _ _ _ Up.tok ?_ h)
  rw [show ((ws.toArray.size : Nat) : Int) = (l.length : Int) by simp [this]]
  exact Rep.int
theorem log2_1920 {a : Int} (h : a.natAbs < 2 ^ 1900) : a.natAbs.log2 < 1920 := by
  by_cases h0 : a.natAbs = 0
  · rw [h0]; decide
  · have : a.natAbs.log2 < 1900 := (Nat.log2_lt h0).mpr h
    omega
theorem FN_str {a : Int} (ha : a.natAbs < 2 ^ 1900) (h : P (.str (Str.ofString (toString a)))) : FN c n (.type "str") [.int a] P := by
  intro A s Q vs R G r hQ
  obtain ⟨v, r', rfl, rv, rl⟩ := r.cons_inv
  obtain rfl := rl.nil_inv
  obtain ⟨t, rfl⟩ := rv.int_inv
  exact PySem.P.str_of_int (log2_1920 ha) (hQ _ _ _ Up.tok Rep.str h)
theorem FN_int {x : Str} {k : Int} (hx : PySem.intText? x = some k ∧ x.length ≤ 640) (h : P (.int k)) : FN c n (.type "int") [.str x] P := by
  intro A s Q vs R G r hQ
  obtain ⟨v, r', rfl, rv, rl⟩ := r.cons_inv
  obtain rfl := rl.nil_inv
  obtain ⟨t, rfl⟩ := rv.str_inv
  exact KIN.call_text hx.1 hx.2 (hQ _ _ _ Up.tok Rep.int h)

inductive Bools : List D → List Bool → Prop
  | nil : Bools [] []
  | cons (b : Bool) {l : List D} {bs : List Bool} (r : Bools l bs) : Bools (.bool b :: l) (b :: bs)
theorem Bools.map {α : Type} (f : α → Bool) : ∀ l : List α, Bools (l.map fun x => .bool (f x)) (l.map f)
  | [] => .nil
  | _ :: l => .cons _ (Bools.map f l)
theorem Bools.get {h : Heap} : ∀ {ds : List D} {bs : List Bool} {vs : List Value}, Bools ds bs → RepL h ds vs → ∀ (i : Nat) (v : Value), vs[i]? = some v → ∃ b, bs[i]? = some b ∧ v = Value.bool b
  | _, _, _, .nil, r, i, v, e => by rw [r.nil_inv] at e; simp at e
  | _, _, _, .cons b q, r, i, v, e => by
    obtain ⟨w, r', rfl, rv, rl⟩ := r.cons_inv
    cases i with
    | zero => simp at e; subst e; exact ⟨b, by simp, rv.bool_inv⟩
    | succ i => simp at e; obtain ⟨b', hb, e'⟩ := q.get rl i v e; exact ⟨b', by simpa using hb, e'⟩
theorem Bools.length : ∀ {ds : List D} {bs : List Bool}, Bools ds bs → ds.length = bs.length
  | _, _, .nil => rfl
  | _, _, .cons _ q => by simp [q.length]
theorem FN_all {ds : List D} {bs : List Bool} (hb : Bools ds bs) (h : P (.bool (bs.all id))) : FN c n (.builtin "all") [.lst ds] P := by
  intro A s Q vs R G r hQ
  obtain ⟨v, r', rfl, rv, rl⟩ := r.cons_inv
  obtain rfl := rl.nil_inv
  obtain ⟨l, ws, rfl, hl, rw'⟩ := rv.lst_inv
  have hlt : l < s.heap.objs.size := by obtain ⟨_, e, _⟩ := hl; exact Heap.lt_size e
  refine call_all_walk (wpAny_pyIter_list hl ?_)
  refine ⟨s.heap.objs.size, [s.heap.objs.size, l], [s.heap.objs.size], ws.toArray.size, _, _, fun i => (bs[i]?).getD true, rfl, Walks.list (A := A.in1) R.handled _ l (Nat.ne_of_lt hlt) ws.toArray,
    ⟨⟨_, Heap.get?_push_size _ rfl, rfl, rfl⟩, hl.push _⟩, fun i v s' Q' E' hP hQ => ?_, fun h' tk hk => ?_⟩
  · obtain ⟨b, e, rfl⟩ := hb.get rw' i v (by simpa using hP)
    simp only [e, Option.getD_some] at hQ
    exact wpAny_truthy_bool hQ
  · have e : ((List.range ws.toArray.size).all fun i => (bs[i]?).getD true) = bs.all id := by
      rw [List.size_toArray, rw'.length, hb.length]; exact PyProof.Rows.LSm.range_all bs
    rw [e]
    refine hQ _ _ _ (Up.heap fun b o e => ?_) Rep.bool h
    exact hk b o (fun hm => by rw [List.mem_singleton.mp hm] at e; exact Nat.lt_irrefl _ (Heap.lt_size e)) (Heap.get?_push_of_some _ e)

theorem ty_tuple : typeOf (.type "tuple") = pure (.type "type") := PyProof.Rows.meta_tuple
theorem sub_tuple : isSubtype (.type "tuple") (.type "tuple") = pure true := PySem.F.sub_tuple_tuple
/-- isinstance(e, tuple) of a tuple -/
theorem EV_isTuple {x y : Str} {p p2 pos : Pos} {e : Expr} (h0 : c.mg x = none) (hb : c.mb x = some (.builtin "isinstance")) (hx : env.kindOf x = some .globalImplicit)
    (h1 : c.mg y = none) (hb1 : c.mb y = some (.type "tuple")) (hy : env.kindOf y = some .globalImplicit)
    (h : EV c n env ρ e fun d => ∃ l, d = .tup l ∧ P (.bool true))
    (T : TopEnv env := by exact ⟨rfl, rfl, rfl⟩)
    (he : starEach [e, .Name y p2] env = [(false, eval e env), (false, eval (.Name y p2) env)] := by rfl)
    (hd : (x == ("__debug__" : Str)) = false := by decide) (hd1 : (y == ("__debug__" : Str)) = false := by decide) : EV c n env ρ (.Call (.Name x p) [e, .Name y p2] [] pos) P := by
  intro h₀ A s Q R S hQ
  refine Call_ (Name_function_global T.kind hx (loadGlobal_builtin (by rw [T.g]; exact S.g.top.g) h0 (by rw [T.b]; exact S.g.top.b) hb ?_) hd)
  have he' : starEach [.Name y p2] env = [(false, eval (.Name y p2) env)] := rfl
  refine callWith_builtin1 ?_ (by rw [he, he']) (by rw [he']; rfl)
  refine spliced_more (h h₀ A s _ R S fun v d s1 u r q => ?_) (by rw [he, he'])
  obtain ⟨l, rfl, q⟩ := q
  have S1 := S.keeps u.keep
  refine spliced_more (Name_function_global T.kind hy (loadGlobal_builtin (by rw [T.g]; exact S1.g.top.g) h1 (by rw [T.b]; exact S1.g.top.b) hb1 ?_) hd1) rfl
  refine spliced_none ?_
  obtain ⟨a, vs, rfl, ht, rl⟩ := r.tup_inv
  exact call_isinstance_yes ht.typeIs ty_tuple sub_tuple (hQ _ _ _ u Rep.bool q)

/-- the items of a slice -/
def pick (ds : List D) (lo hi : Option Int) : List D :=
  (sliceRange (sliceBounds lo hi none ds.length).1 (sliceBounds lo hi none ds.length).2.1 (sliceBounds lo hi none ds.length).2.2).filterMap (ds[·]?)
theorem RepL.pick' {h : Heap} {ds : List D} {vs : List Value} (r : RepL h ds vs) : ∀ idx : List Nat, RepL h (idx.filterMap (ds[·]?)) (idx.filterMap (vs[·]?))
  | [] => RepL.nil
  | i :: idx => by
    rw [List.filterMap_cons, List.filterMap_cons]
    cases e : ds[i]? with
    | none => rw [r.get' e]; exact RepL.pick' r idx
    | some d => obtain ⟨v, hv, rv⟩ := r.get e; rw [hv]; exact RepL.cons rv (RepL.pick' r idx)

/-- a part of a slice -/
def EVo (c : Cx) (n : Nat) (env : Env) (ρ : Loc) (e : Option Expr) (P : Option Int → Prop) : Prop :=
  match e with
  | none => P none
  | some e => EV c n env ρ e fun d => ∃ i, d = .int i ∧ P (some i)
theorem EVo_none {P : Option Int → Prop} (h : P none) : EVo c n env ρ none P := h
theorem EVo_some {e : Expr} {P : Option Int → Prop} (h : EV c n env ρ e fun d => ∃ i, d = .int i ∧ P (some i)) : EVo c n env ρ (some e) P := h
theorem EVo.run {e : Option Expr} {P : Option Int → Prop} (h : EVo c n env ρ e P) {h₀ : Heap} {A : Around} {s : Shared} {Q : Value → Shared → Prop} (R : Room n A) (S : St c A env h₀ ρ s.heap)
    (hQ : ∀ v i s', Up c s s' → (v = partValue i) → P (i.map (·.1)) → Q v s') : wpAny (model c.prog c.w) A (evalPart e env) Q (fun _ _ => False) s := by
  cases e with
  | none => exact evalPart_none_step (hQ _ none s Up.refl rfl h)
  | some e =>
    refine evalPart_some_step (h h₀ A s _ R S fun v d s' u r p => ?_)
    obtain ⟨i, rfl, p⟩ := p
    obtain ⟨t, rfl⟩ := r.int_inv
    exact hQ _ (some (i, t)) s' u rfl p
theorem part_isPart (i : Option (Int × Tok)) : IsPart (partValue i) (i.map (·.1)) := by
  cases i with
  | none => exact .none
  | some p => exact .int _ _

theorem EV_sliceS {value : Expr} {lower upper : Option Expr} {p pos : Pos}
    (h : EV c n env ρ value fun o => ∃ x, o = .str x ∧ EVo c n env ρ lower fun l => EVo c n env ρ upper fun u => x.length ≤ 100000 ∧ P (.str (Txt.slice x l u)))
    (ht : ∀ o r, letTemporaryGo value o r = pure () := by intro _ _; rfl) : EV c n env ρ (.Subscript value (.Slice lower upper none p) pos) P := by
  intro h₀ A s Q R S hQ
  refine wpAny_Subscript_str_slice (h h₀ A s _ R S fun v d s1 u1 r1 p1 => ?_) ht
  obtain ⟨x, rfl, p1⟩ := p1
  obtain ⟨t, rfl⟩ := r1.str_inv
  refine p1.run R (S.keeps u1.keep) fun vl l s2 u2 e2 p2 => ?_
  refine p2.run R (S.keeps (u1.trans u2).keep) fun vu u s3 u3 e3 p3 => ?_
  refine ⟨x, t, l, u, rfl, e2, e3, ?_⟩
  refine post_val_or_str ⟨?_, fun t' k => hQ _ _ _ (((u1.trans u2).trans u3).trans Up.push) Rep.str p3.2⟩
  have h1 := Txt.slice_le x (l.map (·.1)) (u.map (·.1))
  have h2 : (Txt.slice x (l.map (·.1)) (u.map (·.1))).length ≤ sizeLine := by rw [sizeLine_eq]; omega
  exact h2
theorem EV_sliceL {value : Expr} {lower upper : Option Expr} {p pos : Pos}
    (h : EV c n env ρ value fun o => ∃ ds, o = .lst ds ∧ EVo c n env ρ lower fun l => EVo c n env ρ upper fun u => ds.length ≤ 100000 ∧ P (.lst (pick ds l u)))
    (ht : ∀ o r, letTemporaryGo value o r = pure () := by intro _ _; rfl) : EV c n env ρ (.Subscript value (.Slice lower upper none p) pos) P := by
  intro h₀ A s Q R S hQ
  refine wpAny_Subscript_list_slice (h h₀ A s _ R S fun v d s1 u1 r1 p1 => ?_) ht
  obtain ⟨ds, rfl, p1⟩ := p1
  refine p1.run R (S.keeps u1.keep) fun vl l s2 u2 e2 p2 => ?_
  refine p2.run R (S.keeps (u1.trans u2).keep) fun vu u s3 u3 e3 p3 => ?_
  obtain ⟨a, vs, rfl, hl, rl⟩ := (r1.keeps (u2.trans u3).keep.to).lst_inv
  refine ⟨a, vs.toArray, l.map (·.1), u.map (·.1), rfl, hl, by have := rl.length; rw [sizeLine_eq]; simp; omega, e2 ▸ part_isPart l, e3 ▸ part_isPart u, ?_⟩
  have up := ((u1.trans u2).trans u3)
  have kp : ∀ o o' : Obj, s3.heap.StaysIn ((s3.heap.push o).push o') := fun o o' b x e => Heap.get?_push_of_some _ (Heap.get?_push_of_some _ e)
  have key : ∀ (h1 : Heap) (lo hi : Option Int), s3.heap.StaysIn h1 → Rep (h1.push { cls := .type "list", data := .seq (slicePick vs.toArray lo hi none) }) (.lst (pick ds lo hi)) (.ref h1.objs.size) := by
    intro h1 lo hi st
    have e : slicePick vs.toArray lo hi none = ((sliceRange (sliceBounds lo hi none ds.length).1 (sliceBounds lo hi none ds.length).2.1 (sliceBounds lo hi none ds.length).2.2).filterMap (vs[·]?)).toArray := by
      unfold slicePick
      rw [List.size_toArray, rl.length]
      simp
    rw [e]
    exact Rep.lst ⟨_, Heap.get?_push_size _ rfl, rfl, _, rfl⟩ (((rl.keeps (.of st)).keeps <| .of fun _ _ e => Heap.get?_push_of_some _ e).pick' _)
  have rp := key (s3.heap.push { cls := .type "slice", data := .fields #[vl, vu, .none] }) (l.map (·.1)) (u.map (·.1)) (fun _ _ e => Heap.get?_push_of_some _ e)
  rw [Heap.size_push] at rp
  exact hQ _ _ _ (up.trans (Up.heap (kp _ _))) rp p3.2

theorem O2_mulS {x : Str} {k : Int} (hk : x.length * k.toNat ≤ 100000 ∧ x.length ≤ 1000 ∧ -1000 ≤ k ∧ k ≤ 1000) (h : P (.str (Txt.mul x k))) : O2 c n (binaryOp .Mult) (.str x) (.int k) P := by
  intro A s Q a b R G ra rb hQ
  obtain ⟨t, rfl⟩ := ra.str_inv
  obtain ⟨u, rfl⟩ := rb.int_inv
  refine SB.mul ⟨by simp; omega, fun h1 h2 => ?_, fun h1 h2 => ?_⟩ fun t' k => hQ _ _ _ Up.tok Rep.str h
  · have h3 : (2 ^ 63 - 1) / 1000 ≤ ((2 : Int) ^ 63 - 1) / k := by
      apply Int.le_ediv_of_mul_le (by omega)
      have : (2 ^ 63 - 1 : Int) / 1000 * k ≤ (2 ^ 63 - 1) / 1000 * 1000 := Int.mul_le_mul_of_nonneg_left (by omega) (by decide)
      omega
    have h4 : (1000 : Int) ≤ (2 ^ 63 - 1) / 1000 := by decide
    omega
  · unfold Builtin.Str.tooLong
    simp only [sizeLine_eq, decide_eq_false_iff_not]
    omega
end
end Mine
end
section
open PySem PySem.W PySem.Calls PyProof.Rows
namespace Mine

theorem flats_append : ∀ {a b : List D}, flats a = true → flats b = true → flats (a ++ b) = true
  | [], _, _, h => h
  | d :: a, b, h, k => by
    rw [List.cons_append]
    unfold flats at h ⊢
    rw [Bool.and_eq_true] at h ⊢
    exact ⟨h.1, flats_append h.2 k⟩

/-- the state within a comprehension -/
structure CSt (c : Cx) (A : Around) (cenv : Env) (g : Heap) (ρ : Loc) (Dd : Addr) (es : List D) (h : Heap) : Prop where
  st : St c A cenv g ρ h
  acc : ∃ vs, h.IsList Dd vs.toArray ∧ RepL h es vs

section
variable {c : Cx} {A : Around} {n : Nat} {cenv : Env} {g : Heap} {ρ ρ' : Loc} {Dd : Addr} {es : List D}

theorem CSt.keeps {h h' : Heap} (S : CSt c A cenv g ρ Dd es h) (k : Le c h h') : CSt c A cenv g ρ Dd es h' :=
  ⟨S.st.keeps k, let ⟨vs, ⟨o, ho, hc, n, hd⟩, b⟩ := S.acc; ⟨vs, ⟨o, k.nd _ _ ho (.seq hd), hc, n, hd⟩, b.keeps k.to⟩⟩
theorem CSt.forget {h : Heap} (S : CSt c A cenv g ρ Dd es h) (e : Sub ρ' ρ) : CSt c A cenv g ρ' Dd es h := ⟨S.st.forget e, S.acc⟩
/-- an iterator's turn -/
theorem CSt.modify {h h' : Heap} {it : Addr} (S : CSt c A cenv g ρ Dd es h) (hg : g.get? it = none) (hd : ∃ o vs, h.get? it = some o ∧ o.cls ≠ .type "list" ∧ o.data = .fields vs) (k : ∀ b o, b ≠ it → h.get? b = some o → h'.get? b = some o) : CSt c A cenv g ρ Dd es h' := by
  obtain ⟨o, vs, ho, hc, hf⟩ := hd
  have nd : ∀ o', h.get? it = some o' → o'.data = .fields vs := fun o' e => by rw [ho] at e; cases e; exact hf
  refine ⟨S.st.modify hg (fun o' e => by rw [nd o' e]; exact ⟨fun _ _ h => (by cases h), fun _ _ h => (by cases h), fun _ h => (by cases h)⟩) k, ?_⟩
  have sq : ∀ b o, h.get? b = some o → (∃ vs n, o.data = .seq vs n) → h'.get? b = some o := fun b o e ⟨ws, m, f⟩ => k b o (fun z => by subst z; rw [nd o e] at f; cases f) e
  obtain ⟨ws, ⟨ol, hl, hlc, m, hld⟩, b⟩ := S.acc
  exact ⟨ws, ⟨ol, sq _ _ hl ⟨_, _, hld⟩, hlc, m, hld⟩, b.seqKeeps sq⟩
/-- a store of the comprehension's own variable -/
theorem CSt.store {s : Shared} {Q : Unit → Shared → Prop} {E : Value → Shared → Prop} {x : Str} {d : D} {v : Value} (S : CSt c A cenv g ρ Dd es s.heap) (hk : cenv.scope.kind = .function)
    (hl : cenv.kindOf x = some .local) (r : Rep s.heap d v)
    (hQ : ∀ h' tk, Heap.SameBut cenv.locals s.heap h' → CSt c A cenv g ((x, .new, d) :: ρ) Dd es h' → Q () { s with heap := h', toks := tk }) :
    wpAny (model c.prog c.w) A (storeName cenv x v) Q E s := by
  refine S.st.storeL hk hl r fun h' tk hs S' => hQ h' tk hs ⟨S', ?_⟩
  obtain ⟨m, ⟨oL, ees, ep, hL, hLd, _⟩, _⟩ := S.st.val
  have sq : ∀ b o, s.heap.get? b = some o → (∃ vs n, o.data = .seq vs n) → h'.get? b = some o := fun b o e ⟨vs, n, f⟩ => (hs.2 b (fun z => by subst z; rw [hL] at e; cases e; rw [hLd] at f; cases f)).trans e
  obtain ⟨ws, ⟨ol, hl, hlc, m, hld⟩, b⟩ := S.acc
  exact ⟨ws, ⟨ol, sq _ _ hl ⟨_, _, hld⟩, hlc, m, hld⟩, b.seqKeeps sq⟩
/-- one more item; behind it the names of the turn are forgotten but those that stood in g -/
theorem CSt.append {s : Shared} {Q : Value → Shared → Prop} {E : Value → Shared → Prop} {d : D} {v : Value} (S : CSt c A cenv g ρ Dd es s.heap) (hg : g.get? Dd = none) (fl : flats es = true) (fd : d.flat = true) (r : Rep s.heap d v) (hsz : es.length ≤ 100000)
    (hsub : ∀ x t e, ρ'.lookup x = some (t, e) → ρ.lookup x = some (t, e) ∧ (t = .old ∨ (t = .new ∧ e.flat = true)))
    (hQ : ∀ h', Heap.SameBut Dd s.heap h' → CSt c A cenv g ρ' Dd (es ++ [d]) h' → Q .none { s with heap := h' }) :
    wpAny (model c.prog c.w) A (call (.builtin "list.append") [.ref Dd, v]) Q E s := by
  obtain ⟨vs, hl, b⟩ := S.acc
  refine wpAny_list_append hl (fun h' hl' hs => hQ h' hs ?_) (by have := b.length; rw [sizeLine_eq]; simp; omega)
  obtain ⟨ol, hol, hlc, mm, hld⟩ := id hl
  have tp : ∀ b o, s.heap.get? b = some o → o.cls = .type "tuple" → h'.get? b = some o := fun b o e f => (hs.2 b (fun z => by subst z; rw [hol] at e; cases e; rw [hlc] at f; exact absurd f (by decide))).trans e
  have kp : Le c g h' := S.st.keep.but S.st.base hg (fun b o q e => (hs.2 b q).trans e)
  refine ⟨⟨S.st.base, S.st.frs, kp, S.st.above, fun y k e => ?_, ?_⟩, vs ++ [v], ?_, ?_⟩
  · obtain ⟨a, w, o, ho, hd⟩ := S.st.cel y k e
    refine ⟨a, w, o, (hs.2 k (fun z => by subst z; rw [hol] at ho; cases ho; rw [hld] at hd; cases hd)).trans ho, hd⟩
  · obtain ⟨m, ⟨oL, ees, ep, hL, hLd, rr⟩, hv⟩ := S.st.val
    refine ⟨m, ⟨oL, ees, ep, (hs.2 _ (fun z => by rw [z, hol] at hL; cases hL; rw [hld] at hLd; cases hLd)).trans hL, hLd, rr⟩, fun x t e hx => ?_⟩
    obtain ⟨hx', ht⟩ := hsub x t e hx
    obtain ⟨w, H, p, q1, q2⟩ := hv x t e hx'
    refine ⟨w, ?_, ?_, q1, ?_⟩
    · rcases H with H | ⟨a, k, b, o, ho, hd⟩
      · exact .inl H
      · exact .inr ⟨a, k, b, o, (hs.2 k (fun z => by subst z; rw [hol] at ho; cases ho; rw [hld] at hd; cases hd)).trans ho, hd⟩
    · rcases ht with rfl | ⟨rfl, hf⟩
      · exact (q1 rfl).keeps kp.to
      · exact p.flatKeeps tp hf
    · intro z
      rcases ht with rfl | ⟨rfl, _⟩ <;> cases z
  · simpa using hl'
  · exact (b.flatKeeps tp fl).append (RepL.one (r.flatKeeps tp fd))

/-- a comprehension's tests -/
def IFS (c : Cx) (n : Nat) (env : Env) (ρ : Loc) (ifs : List Expr) (b : Bool) : Prop :=
  match ifs with
  | [] => b = true
  | [t] => EB c n env ρ t fun q => q = b
  | _ => False
theorem IFS.run {ifs : List Expr} {b : Bool} (h : IFS c n cenv ρ ifs b) {h₀ : Heap} {s : Shared} {Q : Bool → Shared → Prop} (R : Room n A) (S : St c A cenv h₀ ρ s.heap)
    (hQ : ∀ s', Up c s s' → Q b s') : wpAny (model c.prog c.w) A (forIn ifs true fun c r => if r = true then do let ok ← isTrue c cenv (eval c cenv); pure (ForInStep.yield ok) else pure (ForInStep.yield r)) Q (fun _ _ => False) s := by
  match ifs, h with
  | [], h => exact wpAny_tests_nil (by have h : b = true := h; have := hQ s Up.refl; rwa [h] at this)
  | [t], h => exact wpAny_tests_one (h h₀ A s _ R S fun q s' u p => p ▸ hQ s' u)

/-- one turn of the innermost for of a comprehension: from the item on -/
theorem comp_turn {x : Str} {px : Pos} {ifs : List Expr} {elt : Expr} {d e : D} {b : Bool} {s : Shared} {v : Value} {Q : Shared → Prop} (R : Room n A) (S : CSt c A cenv g ρ Dd es s.heap)
    (hk : cenv.scope.kind = .function) (hl : cenv.kindOf x = some .local) (r : Rep s.heap d v) (hg : g.get? Dd = none) (fl : flats es = true) (hsz : es.length ≤ 100000)
    (hifs : IFS c n cenv ((x, .new, d) :: ρ) ifs b) (helt : b = true → EV c n cenv ((x, .new, d) :: ρ) elt (fun q => q = e) ∧ e.flat = true)
    (hold : ∀ y t q, ρ.lookup y = some (t, q) → (t = .old ∨ (t = .new ∧ q.flat = true)) ∧ y ≠ x)
    (hQ : ∀ s', Sim s s' → (∀ a o, s.heap.get? a = some o → ND o → a ≠ Dd → s'.heap.get? a = some o) → CSt c A cenv g ρ Dd (es ++ if b then [e] else []) s'.heap → Q s') :
    wpAny (model c.prog c.w) A (assign (.Name x px) cenv v) (fun _ s2 =>
      wpAny (model c.prog c.w) A (forIn ifs true fun c r => if r = true then do let ok ← isTrue c cenv (eval c cenv); pure (ForInStep.yield ok) else pure (ForInStep.yield r)) (fun ok s3 =>
        if ok = true then wpAny (model c.prog c.w) A (eval elt cenv) (fun y s4 => wpAny (model c.prog c.w) A (call (.builtin "list.append") [.ref Dd, y]) (fun _ s5 => Q s5) (fun _ _ => False) s4) (fun _ _ => False) s3
        else Q s3) (fun _ _ => False) s2) (fun _ _ => False) s := by
  refine assign_Name (S.store hk hl r fun h' tk hs S2 => ?_)
  refine hifs.run R S2.st fun s3 u3 => ?_
  have S3 := S2.keeps u3.keep
  have sub : ∀ y t q, ρ.lookup y = some (t, q) → ((x, Tg.new, d) :: ρ).lookup y = some (t, q) ∧ (t = .old ∨ (t = .new ∧ q.flat = true)) := fun y t q e => by
    obtain ⟨h1, h2⟩ := hold y t q e
    refine ⟨?_, h1⟩
    rw [List.lookup_cons, beq_eq_false_iff_ne.mpr h2]; exact e
  have k3 : ∀ a o, s.heap.get? a = some o → ND o → s3.heap.get? a = some o := fun a o e h2 => u3.keep.nd a o ((hs.2 a (fun z => by
    obtain ⟨_, ⟨oL, es, ep, hL, hLd, _⟩, _⟩ := S.st.val
    rw [z, hL] at e; cases e; exact h2 _ _ hLd)).trans e) h2
  cases b with
  | false =>
    rw [if_neg (by simp)]
    exact hQ s3 ((⟨rfl⟩ : Sim s _).trans u3.sim) (fun a o e h2 _ => k3 a o e h2) (by simpa using S3.forget fun y t q e => (sub y t q e).1)
  | true =>
    rw [if_pos rfl]
    obtain ⟨he, hf⟩ := helt rfl
    refine he g A s3 _ R S3.st fun y q s4 u4 r4 p4 => ?_
    subst p4
    have S4 := S3.keeps u4.keep
    refine S4.append (ρ' := ρ) hg fl hf r4 hsz sub fun h5 hs5 S5 => ?_
    refine hQ _ (((⟨rfl⟩ : Sim s _).trans u3.sim).trans (u4.sim.trans ⟨rfl⟩)) (fun a o e h2 h1 => (hs5.2 a h1).trans (u4.keep.nd a o (k3 a o e h2) h2)) (by simpa using S5)

/-- a code that runs the turns of a for of a comprehension that puts its items down -/
def LoopRule (c : Cx) (A : Around) (k : Code) (target : Expr) (ifs : List Expr) (elt : Expr) (it acc : Value) (env : Env) : Prop :=
  ∀ (R : Result → Shared → Prop) (s : Shared) (I : Nat → Shared → Prop)
    (_ : ∀ n s, I n s → wpAny (model c.prog c.w) A (pyNext it) (fun r s₁ => match r with
      | none => R (.ok .next) s₁
      | some v => wpAny (model c.prog c.w) A (assign target env v) (fun _ s₂ =>
          wpAny (model c.prog c.w) A (forIn ifs true fun c r => if r = true then do let ok ← isTrue c env (eval c env); pure (ForInStep.yield ok) else pure (ForInStep.yield r)) (fun ok s₃ =>
            if ok = true then wpAny (model c.prog c.w) A (eval elt env) (fun x s₄ =>
              wpAny (model c.prog c.w) A (call (.builtin "list.append") [acc, x]) (fun _ s₅ => ∃ m, m < n ∧ I m s₅) (notedBy (model c.prog c.w) A env fun e s' => R (.error e) s') s₄) (notedBy (model c.prog c.w) A env fun e s' => R (.error e) s') s₃
            else ∃ m, m < n ∧ I m s₃) (notedBy (model c.prog c.w) A env fun e s' => R (.error e) s') s₂) (notedBy (model c.prog c.w) A env fun e s' => R (.error e) s') s₁) (notedBy (model c.prog c.w) A env fun e s' => R (.error e) s') s)
    (n : Nat) (_ : I n s), codeAny (model c.prog c.w) A k R s
theorem loopRule1 {A : Around} {elt target iter : Expr} {ifs : List Expr} {scope : Scope} {pos : Pos} {it acc : Value} {env : Env} (ht : ∀ v, letOwnedTupleGo target it v = pure () := by intro _; rfl) :
    LoopRule c A (.compLoop (.ListComp elt [⟨target, iter, ifs, 0⟩] scope pos) 0 it acc env) target ifs elt it acc env :=
  fun _ _ I turn n h => codeAny_compLoop_tests I turn n h ht

/-- the innermost for as a loop -/
theorem comp_loop {α : Type} (l : List α) (toD f : α → D) (flt : α → Bool) {elt : Expr} {ifs : List Expr} {x : Str} {px : Pos} {it : Addr} {T : Nat → Heap → Prop} {g' : Heap} {k : Code}
    {s : Shared} {Rr : Result → Shared → Prop} (LR : LoopRule c A k (.Name x px) ifs elt (.ref it) (.ref Dd) cenv)
    (R : Room n A) (S : CSt c A cenv g ρ Dd es s.heap) (It : Iter c g' it (l.map toD) T) (hT : T 0 s.heap) (gg : ∀ b o, g'.get? b = some o → g.get? b = some o)
    (hk : cenv.scope.kind = .function) (hl : cenv.kindOf x = some .local) (hg : g.get? Dd = none) (hgi : g.get? it = none) (hiD : it ≠ Dd) (_hiC : it ≠ cenv.locals) (hlen : es.length + l.length ≤ 100000) (hes : flats es = true)
    (hturn : ∀ a ∈ l, IFS c n cenv ((x, .new, toD a) :: ρ) ifs (flt a) ∧ (flt a = true → EV c n cenv ((x, .new, toD a) :: ρ) elt (fun q => q = f a) ∧ (f a).flat = true))
    (hold : ∀ y t q, ρ.lookup y = some (t, q) → (t = .old ∨ (t = .new ∧ q.flat = true)) ∧ y ≠ x)
    (hQ : ∀ s', Sim s s' → (∀ a o, s.heap.get? a = some o → ND o → a ≠ Dd → a ≠ it → s'.heap.get? a = some o) → CSt c A cenv g ρ Dd (es ++ (l.filter flt).map f) s'.heap → Rr (.ok .next) s') :
    codeAny (model c.prog c.w) A k Rr s := by
  have fls : ∀ pre : List α, (∀ a ∈ pre, a ∈ l) → flats ((pre.filter flt).map f) = true := by
    intro pre
    induction pre with
    | nil => intro _; rfl
    | cons a pre ih =>
      intro h
      rw [List.filter_cons]
      split
      · rename_i hfa
        rw [List.map_cons]; unfold flats
        rw [((hturn a (h a (.head _))).2 hfa).2, ih fun b hb => h b (.tail _ hb)]; rfl
      · exact ih fun b hb => h b (.tail _ hb)
  refine LR Rr s (fun k s' => Sim s s' ∧ (∀ a o, s.heap.get? a = some o → ND o → a ≠ Dd → a ≠ it → s'.heap.get? a = some o) ∧ ∃ pre post, l = pre ++ post ∧ k = post.length ∧ CSt c A cenv g ρ Dd (es ++ (pre.filter flt).map f) s'.heap ∧ T pre.length s'.heap)
    (fun k s1 ⟨a, ka, pre, post, hds, hk', S1, hT1⟩ => ?_) l.length ⟨Sim.refl, fun _ _ e _ _ _ => e, [], l, rfl, rfl, by simpa using S, hT⟩
  have si : SeqIn g' s1.heap := fun b o e ⟨_, _, f⟩ => S1.st.keep.nd b o (gg b o e) (.seq f)
  cases post with
  | nil =>
    have hd : l = pre := by simpa using hds
    refine wpAny_mono (It.last A (fun _ _ => False) s1 _ _ R.handled hT1 si (by rw [hd]; simp) fun h' hE => ?_) (fun _ _ x => x) (fun _ _ x => x.elim)
    exact hQ _ (a.trans ⟨rfl⟩) (fun q o e h1 h2 h3 => hE q o h3 (ka q o e h1 h2 h3)) (by rw [hd]; exact S1.modify hgi (It.obj _ _ hT1) hE)
  | cons y post =>
    have hy : y ∈ l := by rw [hds]; simp
    refine wpAny_mono (It.item A (fun _ _ => False) s1 _ (toD y) _ R.handled hT1 si (by rw [hds]; simp) fun v h' tk rv hT' hS => ?_) (fun _ _ x => x) (fun _ _ x => x.elim)
    have S2 : CSt c A cenv g ρ Dd (es ++ (pre.filter flt).map f) h' := S1.modify hgi (It.obj _ _ hT1) hS.extBut
    have hpl : (pre.filter flt).length ≤ pre.length := List.length_filter_le ..
    have hpl' : pre.length ≤ l.length := by rw [hds]; simp
    have hsz : (es ++ (pre.filter flt).map f).length ≤ 100000 := by rw [List.length_append, List.length_map]; omega
    have key := comp_turn (Q := fun s5 => ∃ m, m < k ∧ (Sim s s5 ∧ (∀ a o, s.heap.get? a = some o → ND o → a ≠ Dd → a ≠ it → s5.heap.get? a = some o) ∧ ∃ pre post, l = pre ++ post ∧ m = post.length ∧ CSt c A cenv g ρ Dd (es ++ (pre.filter flt).map f) s5.heap ∧ T pre.length s5.heap)) (x := x) (px := px) (s := { s1 with heap := h', toks := tk }) (v := v) (d := toD y) (e := f y) (b := flt y) R S2 hk hl rv hg
      (flats_append hes (fls pre fun b hb => by rw [hds]; exact List.mem_append_left _ hb)) hsz (hturn y hy).1 (hturn y hy).2 hold (fun s5 a5 k5 S5 => ?_)
    · refine wpAny_mono key (fun _ s2 h2 => wpAny_mono h2 (fun ok s3 h3 => ?_) fun _ _ x => x.elim) fun _ _ x => x.elim
      cases ok with
      | false => simpa using h3
      | true =>
        simp only [if_true] at h3 ⊢
        exact wpAny_mono h3 (fun y s4 h4 => wpAny_mono h4 (fun _ _ q => q) fun _ _ x => x.elim) fun _ _ x => x.elim
    · refine ⟨post.length, by rw [hk']; simp, (a.trans (c := { s1 with heap := h', toks := tk }) ⟨rfl⟩).trans a5, fun q o e h1 h2 h3 => k5 q o (hS.extBut q o h3 (ka q o e h1 h2 h3)) h1 h2, pre ++ [y], post, by rw [hds]; simp, rfl, ?_, ?_⟩
      · have : es ++ ((pre ++ [y]).filter flt).map f = es ++ (pre.filter flt).map f ++ (if flt y then [f y] else []) := by
          rw [List.filter_append, List.map_append, List.filter_cons, List.append_assoc]
          cases flt y <;> rfl
        rw [this]; exact S5
      · rw [List.length_append]
        exact It.keep _ _ _ hT' fun o e => k5 it o e (It.nd hT' e) hiD

/-- what a comprehension's block may read of the block around: names in cells -/
def Cap (env : Env) (scope : Scope) (cl : List (Str × Addr)) (x : Str) (ρ ρc : Loc) : Prop :=
  (∀ y k, cl.lookup y = some k → env.cells.lookup y = some k) ∧
  ∀ y t d, ρc.lookup y = some (t, d) → t = .old ∧ y ≠ x ∧ (∃ t', ρ.lookup y = some (t', d)) ∧ env.kindOf y = some .cell ∧ (relabel scope env).names.lookup y = some .cell ∧ ∃ k, cl.lookup y = some k
theorem Cap.nil {env : Env} {scope : Scope} {x : Str} {ρ : Loc} : Cap env scope [] x ρ [] := ⟨fun _ _ e => by simp at e, fun _ _ _ e => by simp at e⟩

theorem comp_blockG (out : List D) {ds : List D} {env : Env} {elt iter : Expr} {ifs : List Expr} {gens : List Comprehension} {scope : Scope} {pos : Pos} {x : Str} {px : Pos} {it : Addr} {T : Nat → Heap → Prop} {h₀ g : Heap} {cl : List (Str × Addr)} {ρc : Loc}
    {s : Shared} {RR : Value → Addr → Result → Shared → Prop} (S0 : St c A env h₀ ρ g) (gs : Le c g s.heap) (It : Iter c g it ds T) (hT : T 0 s.heap)
    (hcell : ∀ y ∈ scope.names, y.2 ≠ .cell) (hkind : scope.kind = .function) (hcap : Cap env scope cl x ρ ρc)
    (loop : ∀ C Dl s', Sim s s' → CSt c A (compEnvC scope cl C env) g ρc Dl [] s'.heap → T 0 s'.heap → g.get? Dl = none → g.get? C = none → Dl ≠ C → it ≠ Dl → it ≠ C → (∀ y t d, ρc.lookup y = some (t, d) → t = .old ∧ y ≠ x) →
      ∀ Rr : Result → Shared → Prop, (∀ s'', Sim s' s'' → CSt c A (compEnvC scope cl C env) g ρc Dl out s''.heap → Rr (.ok .next) s'') →
      codeAny (model c.prog c.w) A (.compLoop (.ListComp elt (⟨.Name x px, iter, ifs, 0⟩ :: gens) scope pos) 0 (.ref it) (.ref Dl) (compEnvC scope cl C env)) Rr s')
    (hRR : ∀ Dl C s' m', Sim s s' → g.get? Dl = none → g.get? C = none → Dl ≠ C → s'.heap.Ns C m' → Le c g s'.heap → (∃ vs, s'.heap.IsList Dl vs.toArray ∧ RepL s'.heap out vs) → RR (.ref Dl) C (.ok .next) s') :
    wpAny (model c.prog c.w) A (newList []) (fun acc s₃ => wpAny (model c.prog c.w) A (newFunctionEnv scope env.globals cl [] env.qual none .none (some env)) (fun cenv s₄ =>
      codeAny (model c.prog c.w) A (.compStart (.ListComp elt (⟨.Name x px, iter, ifs, 0⟩ :: gens) scope pos) 0 (.ref it) acc { cenv with scope := relabel scope env }) (RR acc cenv.locals) s₄) (fun _ _ => False) s₃) (fun _ _ => False) s := by
  obtain ⟨oi, wi, hoi, hci, hdi⟩ := It.obj _ _ hT
  have hiS := Heap.lt_size hoi
  refine wpAny_newObj_type (wpAny_newFunctionEnv hcell (by intro y hy; simp at hy) (fun h₁ hns₁ hsb₁ => ?_) hkind)
  dsimp only at hns₁ hsb₁ ⊢
  generalize hH2 : s.heap.push { cls := .type "list", dict := none, data := .seq ([] : List Value).toArray } = H2 at hns₁ hsb₁ ⊢
  have hC : H2.objs.size = s.heap.objs.size + 1 := by rw [← hH2, Heap.size_push]
  have hDC : s.heap.objs.size ≠ H2.objs.size := by rw [hC]; exact Nat.ne_of_lt (Nat.lt_succ_self _)
  have old : ∀ b o, s.heap.get? b = some o → h₁.get? b = some o := fun b o e => hsb₁.extBut b o (by have := Heap.lt_size e; rw [hC]; exact Nat.ne_of_lt (Nat.lt_succ_of_lt this)) (Heap.get?_push_of_some _ (hH2 ▸ Heap.get?_push_of_some _ e))
  have hacc : h₁.get? s.heap.objs.size = some { cls := .type "list", dict := none, data := .seq ([] : List Value).toArray } := hsb₁.extBut _ _ hDC (Heap.get?_push_of_some _ (hH2 ▸ Heap.get?_push_size _ rfl))
  have fresh : ∀ a, s.heap.objs.size ≤ a → g.get? a = none := fun a ha => gs.noneOf (get_none_of_size ha)
  have fs : FrS c A H2.objs.size g := by
    obtain ⟨l, hl, hf⟩ := S0.g.fr
    exact ⟨l, hl, fun e he => let ⟨p, L, o, es, n, b, b', ho, hd⟩ := hf e he; ⟨p, L, b, b', .inr ⟨o, es, n, ho, hd⟩⟩⟩
  have S : CSt c A (compEnvC scope cl H2.objs.size env) g ρc s.heap.objs.size [] h₁ := by
    refine ⟨⟨S0.g.toB, fs, gs.trans (.of old), fresh _ (by rw [hC]; exact Nat.le_succ _), fun y k e => ?_, _, hns₁, fun y t d e => ?_⟩, [], ⟨_, hacc, rfl, _, rfl⟩, RepL.nil⟩
    · obtain ⟨_, v, o, ho, hd⟩ := S0.cel y k (hcap.1 y k e)
      refine ⟨?_, v, o, old k o (gs.nd k o ho (.cell hd)), hd⟩
      show k ≠ H2.objs.size
      rw [hC]; exact Nat.ne_of_lt (Nat.lt_succ_of_lt (Heap.lt_size (gs.nd k o ho (.cell hd))))
    · obtain ⟨rfl, _, ⟨t', ht'⟩, hk1, hk2, k, hk⟩ := hcap.2 y t d e
      obtain ⟨m0, _, hv⟩ := S0.val
      obtain ⟨v, H, p, _, _⟩ := hv y t' d ht'
      refine ⟨v, .inr ⟨.inl hk2, k, hk, ?_⟩, p.keeps (gs.trans (.of old)).to, fun _ => p, fun z => by cases z⟩
      rcases H with ⟨a, _⟩ | ⟨a, q, b, o, ho, hd⟩
      · rw [hk1] at a; cases a
      · rw [hcap.1 y k hk] at b; cases b
        exact ⟨o, old _ _ (gs.nd _ _ ho (.cell hd)), hd⟩
  have hT1 : T 0 h₁ := It.keep _ _ _ hT fun o e => old it o e
  have loop' : ∀ s₃ : Shared, s₃ = { s with heap := h₁, toks := s.toks + ([] : List (Str × Value)).length } →
      codeAny (model c.prog c.w) A (.compLoop (.ListComp elt (⟨.Name x px, iter, ifs, 0⟩ :: gens) scope pos) 0 (.ref it) (.ref s.heap.objs.size) (compEnvC scope cl H2.objs.size env))
        (RR (.ref s.heap.objs.size) H2.objs.size) s₃ := by
    rintro s₃ rfl
    refine loop H2.objs.size s.heap.objs.size _ ⟨rfl⟩ S hT1 (fresh _ (Nat.le_refl _)) (fresh _ (by rw [hC]; exact Nat.le_succ _)) hDC (Nat.ne_of_lt hiS) (by rw [hC]; exact Nat.ne_of_lt (Nat.lt_succ_of_lt hiS)) (fun y t d e => ⟨(hcap.2 y t d e).1, (hcap.2 y t d e).2.1⟩) _ fun s' a S' => ?_
    obtain ⟨m', hm', _⟩ := S'.st.val
    exact hRR _ _ s' m' ((⟨rfl⟩ : Sim s _).trans a) (fresh _ (Nat.le_refl _)) (fresh _ (by rw [hC]; exact Nat.le_succ _)) hDC hm' S'.st.keep S'.acc
  exact codeAny_compStart_list (loop' _ rfl) (It.self A _ _ 0 _ hT1 (loop' _ rfl))

theorem comp_block {α : Type} (l : List α) (toD f : α → D) (flt : α → Bool) {env : Env} {elt iter : Expr} {ifs : List Expr} {scope : Scope} {pos : Pos} {x : Str} {px : Pos} {it : Addr} {T : Nat → Heap → Prop} {h₀ g : Heap} {cl : List (Str × Addr)} {ρc : Loc}
    {s : Shared} {RR : Value → Addr → Result → Shared → Prop} (R : Room n A) (S0 : St c A env h₀ ρ g) (gs : Le c g s.heap) (It : Iter c g it (l.map toD) T) (hT : T 0 s.heap)
    (hcell : ∀ y ∈ scope.names, y.2 ≠ .cell) (hkind : scope.kind = .function) (hx : scope.names.lookup x = some .local) (hcap : Cap env scope cl x ρ ρc) (hgi : g.get? it = none) (hlen : l.length ≤ 100000)
    (hturn : ∀ C, ∀ a ∈ l, IFS c n (compEnvC scope cl C env) ((x, .new, toD a) :: ρc) ifs (flt a) ∧ (flt a = true → EV c n (compEnvC scope cl C env) ((x, .new, toD a) :: ρc) elt (fun q => q = f a) ∧ (f a).flat = true))
    (hRR : ∀ Dl C s' m', Sim s s' → g.get? Dl = none → g.get? C = none → Dl ≠ C → s'.heap.Ns C m' → Le c g s'.heap → (∃ vs, s'.heap.IsList Dl vs.toArray ∧ RepL s'.heap ((l.filter flt).map f) vs) → RR (.ref Dl) C (.ok .next) s') :
    wpAny (model c.prog c.w) A (newList []) (fun acc s₃ => wpAny (model c.prog c.w) A (newFunctionEnv scope env.globals cl [] env.qual none .none (some env)) (fun cenv s₄ =>
      codeAny (model c.prog c.w) A (.compStart (.ListComp elt [⟨.Name x px, iter, ifs, 0⟩] scope pos) 0 (.ref it) acc { cenv with scope := relabel scope env }) (RR acc cenv.locals) s₄) (fun _ _ => False) s₃) (fun _ _ => False) s := by
  refine comp_blockG (gens := []) ((l.filter flt).map f) S0 gs It hT hcell hkind hcap (fun C Dl s' a S hT' hD hC hDC hiD hiC hold Rr hR => ?_) hRR
  refine comp_loop l toD f flt (loopRule1 (iter := iter)) R S It hT' (fun _ _ e => e) (by simp [compEnvC, relabel, hkind]) (lookup_relabel_local hx) hD hgi hiD hiC (by simpa using hlen) rfl (hturn _) (fun y t q e => ?_) fun s'' a _ S' => hR s'' a (by simpa using S')
  obtain ⟨rfl, hne⟩ := hold y t q e
  exact ⟨.inl rfl, hne⟩

theorem EV_comp {α : Type} (l : List α) (toD f : α → D) (flt : α → Bool) {env : Env} {P : D → Prop} {elt iter : Expr} {ifs : List Expr} {scope : Scope} {pos : Pos} {x : Str} {px : Pos} {cl : List (Str × Addr)} {ρc : Loc}
    (hclos : closureFor scope env = pure cl) (hcap : Cap env scope cl x ρ ρc)
    (hcell : ∀ y ∈ scope.names, y.2 ≠ .cell) (hkind : scope.kind = .function) (hnames : ∀ y ∈ scope.names, y.2 = .local → scope.names.lookup y.1 = some .local) (hx : scope.names.lookup x = some .local) (hlen : l.length ≤ 100000)
    (h : EV c n env ρ iter fun d => Itb c d (l.map toD) ∧ P (.lst ((l.filter flt).map f)))
    (hturn : ∀ C, ∀ a ∈ l, IFS c n (compEnvC scope cl C env) ((x, .new, toD a) :: ρc) ifs (flt a) ∧ (flt a = true → EV c n (compEnvC scope cl C env) ((x, .new, toD a) :: ρc) elt (fun q => q = f a) ∧ (f a).flat = true))
    (hs : ∀ x, foldedSetIterable iter env x = pure x := by intro _; rfl) : EV c n env ρ (.ListComp elt [⟨.Name x px, iter, ifs, 0⟩] scope pos) P := by
  intro h₀ A s Q R S hQ
  show wpAny _ A (eval (.ListComp elt [⟨.Name x px, iter, ifs, 0⟩] scope pos) env) Q _ s
  rw [eval_ListComp]
  refine wpAny_comprehension_free (use := none) rfl hs hclos hkind hnames (h h₀ A s _ R S fun v d s1 u1 r1 p1 => ?_)
  have S1 := S.keeps u1.keep
  refine p1.1 s1.heap A s1 _ _ v R.handled r1 (fun _ _ e _ => e) fun it T s2 u2 hn _ It hT => ?_
  refine comp_block (RR := fun acc C => compPost (model c.prog c.w) A (fun _ _ => False) none Q acc C) l toD f flt R S1 u2.keep It hT hcell hkind hx hcap hn hlen hturn ?_
  intro Dl C s' m' sim hD hC hDC hns gk hl
  refine ⟨m', hns, fun h'' hs'' => ?_⟩
  obtain ⟨vs, hl, rl⟩ := hl
  obtain ⟨oC, _, _, hoC, hdC, _⟩ := hns
  have sq : ∀ b o, s'.heap.get? b = some o → (∃ vs n, o.data = .seq vs n) → h''.get? b = some o := fun b o e ⟨vs, m, f⟩ => (hs''.2 b (fun z => by subst z; rw [hoC] at e; cases e; rw [hdC] at f; cases f)).trans e
  obtain ⟨ol, hol, hlc, mm, hld⟩ := hl
  refine hQ _ _ _ ((u1.trans ⟨?_, ?_⟩)) (Rep.lst ⟨ol, sq _ _ hol ⟨_, _, hld⟩, hlc, mm, hld⟩ (rl.seqKeeps sq)) p1.2
  · exact gk.but S1.g.toB hC (fun b o q e => (hs''.2 b q).trans e)
  · show ({ s' with heap := h'' } : Shared) = { s1 with heap := h'', toks := s'.toks }
    rw [sim.same, u2.same]

/-- x = [.. for ..] (the store goes ahead of the letting go) -/
theorem EX_assignComp {α : Type} (l : List α) (toD f : α → D) (flt : α → Bool) {env : Env} {mu : Bool} {P : Fl → Loc → Prop} {elt iter : Expr} {ifs : List Expr} {scope : Scope} {pos spos : Pos} {x y : Str} {px py : Pos} {cl : List (Str × Addr)} {ρc : Loc} {rest : List Stmt}
    (hsw : swapsWith (.ListComp elt [⟨.Name x px, iter, ifs, 0⟩] scope pos) (some (.Name y py)) spos.line env = pure true)
    (hclos : closureFor scope env = pure cl) (hcap : Cap env scope cl x ρ ρc)
    (hcell : ∀ y ∈ scope.names, y.2 ≠ .cell) (hkind : scope.kind = .function) (hnames : ∀ y ∈ scope.names, y.2 = .local → scope.names.lookup y.1 = some .local) (hx : scope.names.lookup x = some .local) (hlen : l.length ≤ 100000)
    (hy : StOk env y)
    (h : EV c n env ρ iter fun d => Itb c d (l.map toD) ∧ EX c n mu env ((y, .new, .lst ((l.filter flt).map f)) :: ρ) rest P)
    (hturn : ∀ C, ∀ a ∈ l, IFS c n (compEnvC scope cl C env) ((x, .new, toD a) :: ρc) ifs (flt a) ∧ (flt a = true → EV c n (compEnvC scope cl C env) ((x, .new, toD a) :: ρc) elt (fun q => q = f a) ∧ (f a).flat = true))
    (hs : ∀ x, foldedSetIterable iter env x = pure x := by intro _; rfl) : EX c n mu env ρ (.Assign [.Name y py] (.ListComp elt [⟨.Name x px, iter, ifs, 0⟩] scope pos) spos :: rest) P := by
  intro h₀ A s Q R Fe S hQ
  refine wpAny_execs_cons ?_
  rw [exec_Assign_Name_used _ _ _ _ hsw]
  refine wpAny_bind (wpAny_standAt (wpAny_bind ?_))
  show wpAny _ A (do let _ ← comprehension (.ListComp elt [⟨.Name x px, iter, ifs, 0⟩] scope pos) scope env _ (newList []) false (eval iter env) (some (assign (.Name y py) env))) _ _ s
  refine wpAny_bind (wpAny_mono (wpAny_comprehension_free (use := some (assign (.Name y py) env)) (Q := fun _ s' => (match (generalizing := false) Flow.next with | .next => wpAny (model c.prog c.w) A (execs rest env) Q (fun _ _ => False) s' | f => Q f s')) rfl hs hclos hkind hnames
    (h h₀ A s _ R S fun v d s1 u1 r1 p1 => ?_)) (fun _ s' hq => wpAny_pure (wpAny_pure hq)) fun _ _ e => e)
  have S1 := S.keeps u1.keep
  refine p1.1 s1.heap A s1 _ _ v R.handled r1 (fun _ _ e _ => e) fun it T s2 u2 hn _ It hT => ?_
  refine comp_block (RR := fun acc C => compPost (model c.prog c.w) A (fun _ _ => False) (some (assign (.Name y py) env)) (fun _ s' => (match (generalizing := false) Flow.next with | .next => wpAny (model c.prog c.w) A (execs rest env) Q (fun _ _ => False) s' | f => Q f s')) acc C) l toD f flt R S1 u2.keep It hT hcell hkind hx hcap hn hlen hturn ?_
  intro Dl C s' m' sim hD hC hDC hns gk hl
  obtain ⟨vs, hl, rl⟩ := hl
  have S' := S1.keeps gk
  have Cne : C ≠ env.locals := fun z => by
    obtain ⟨_, ⟨o, _, _, ho, _⟩, _⟩ := S1.val
    rw [z, ho] at hC; cases hC
  have Ccell : ∀ q k, env.cells.lookup q = some k → C ≠ k := fun q k e z => by
    obtain ⟨_, _, o, ho, _⟩ := S1.cel q k e
    rw [z, ho] at hC; cases hC
  have C0 : h₀.get? C = none := by
    cases e : h₀.get? C with
    | none => rfl
    | some o => obtain ⟨_, this, _⟩ := S1.keep.someOf e; rw [hC] at this; cases this
  show wpAny _ A (assign (.Name y py) env (.ref Dl)) _ _ _
  refine assign_Name (S'.storeX (mu := false) .new Fe hy (Rep.lst hl rl) (fun h => by cases h) (fun h => by cases h) fun s3 a3 x3 k3 S3 => ?_)
  obtain ⟨oC, es, ep, hoC, hdC, hrC⟩ := id hns
  have hoC3 : s3.heap.get? C = some oC := x3 C oC Cne Ccell hoC
  refine ⟨m', ⟨oC, es, ep, hoC3, hdC, hrC⟩, fun h'' hs'' => ?_⟩
  have S4 : St c A env h₀ ((y, .new, .lst ((l.filter flt).map f)) :: ρ) h'' :=
    S3.change C0 Cne Ccell (fun o e vs n f => by rw [hoC3] at e; cases e; rw [hdC] at f; cases f) fun b o hb e => (hs''.2 b hb).trans e
  have gk4 : KP mu env h₀ s.heap h'' := fun q o e h1 h2 h3 => by
    have e1 := gk.nd q o (u1.keep.nd q o e h1) h1
    have e3 := k3 q o e1 h1 h2 (fun z => by cases z)
    exact (hs''.2 q (fun z => by subst z; have := u1.keep.nd _ _ e h1; rw [hC] at this; cases this)).trans e3
  exact seq_step (fl := .next) R Fe hQ (((u1.sim.trans u2.sim).trans sim).trans (a3.trans ⟨rfl⟩)) gk4 S4 rfl p1.2
end
end Mine
end
section
open PySem PySem.W PySem.Calls PyProof.Rows
namespace Mine

section
variable {c : Cx} {n : Nat} {cenv : Env} {g : Heap} {ρ ρ' : Loc} {Dd : Addr} {es : List D}

theorem loopRule2 {A : Around} {elt target iter : Expr} {ifs : List Expr} {g0 : Comprehension} {scope : Scope} {pos : Pos} {it acc : Value} {env : Env} (ht : ∀ v, letOwnedTupleGo target it v = pure () := by intro _; rfl) :
    LoopRule c A (.compLoop (.ListComp elt [g0, ⟨target, iter, ifs, 0⟩] scope pos) 1 it acc env) target ifs elt it acc env := by
  intro R s I turn n h
  refine codeAny_loop rfl I (fun n s hI => ?_) n h
  show wpAny _ A ((compTurn (.ListComp elt [g0, ⟨target, iter, ifs, 0⟩] scope pos) 1 it acc env).onRaise (fun x => do noteFrame x env; theTreesLotGoes x)) _ _ s
  refine wpAny_noted ?_
  have e : compTurn (.ListComp elt [g0, ⟨target, iter, ifs, 0⟩] scope pos) 1 it acc env = (do
      standAt iter.pos
      match ← pyNext it with
      | none => pure (.done .next)
      | some v =>
        letOwnedTupleGo target it v
        assign target env v
        let mut ok := true
        for c in ifs do
          if ok then ok ← isTrue c env (eval c env)
        if ok then
          (do let _ ← call (.builtin "list.append") [acc, ← eval elt env])
        again (.compLoop (.ListComp elt [g0, ⟨target, iter, ifs, 0⟩] scope pos) 1 it acc env)) := by rfl
  rw [e]
  refine wpAny_bind (wpAny_standAt (wpAny_bind (wpAny_mono (turn n s hI) (fun r s₁ h₁ => ?_) fun _ _ h' => h')))
  cases r with
  | none => exact wpAny_pure h₁
  | some v =>
    refine wpAny_bind (wpAny_of_eq (ht v) ?_)
    refine wpAny_bind (wpAny_mono h₁ (fun _ s₂ h₂ => wpAny_bind (wpAny_mono h₂ (fun ok s₃ h₃ => ?_) fun _ _ h' => h')) fun _ _ h' => h')
    cases ok with
    | false => exact wpAny_pure ⟨rfl, h₃⟩
    | true =>
      exact wpAny_bind (wpAny_bind (wpAny_mono h₃ (fun x s₄ h₄ => wpAny_bind (wpAny_mono h₄ (fun _ s₅ h₅ => wpAny_pure (wpAny_pure ⟨rfl, h₅⟩)) fun _ _ h' => h')) fun _ _ h' => h'))

theorem codeAny_out {prog : Program} {w : World} {A : Around} {R : Result → Shared → Prop} {s : Shared} {elt target iter : Expr} {ifs : List Expr} {target1 iter1 : Expr} {ifs1 : List Expr} {scope : Scope} {pos : Pos} {it acc : Value} {env : Env} (I : Nat → Shared → Prop)
    (turn : ∀ n s, I n s → wpAny (model prog w) A (pyNext it) (fun r s₁ => match r with
      | none => R (.ok .next) s₁
      | some v => wpAny (model prog w) A (assign target env v) (fun _ s₂ =>
          wpAny (model prog w) A (forIn ifs true fun c r => if r = true then do let ok ← isTrue c env (eval c env); pure (ForInStep.yield ok) else pure (ForInStep.yield r)) (fun ok s₃ =>
            if ok = true then wpAny (model prog w) A (eval iter1 env) (fun x s₄ => wpAny (model prog w) A (pyIter x) (fun it1 s₅ =>
              codeAny (model prog w) A (.compLoop (.ListComp elt [⟨target, iter, ifs, 0⟩, ⟨target1, iter1, ifs1, 0⟩] scope pos) 1 it1 acc env) (fun r s₆ => match r with | .ok _ => ∃ m, m < n ∧ I m s₆ | .error _ => False) s₅ ∧
              wpAny (model prog w) A (pyIter it1) (fun it2 s₅ => codeAny (model prog w) A (.compLoop (.ListComp elt [⟨target, iter, ifs, 0⟩, ⟨target1, iter1, ifs1, 0⟩] scope pos) 1 it2 acc env) (fun r s₆ => match r with | .ok _ => ∃ m, m < n ∧ I m s₆ | .error _ => False) s₅) (fun _ _ => False) s₅) (fun _ _ => False) s₄) (fun _ _ => False) s₃
            else ∃ m, m < n ∧ I m s₃) (fun _ _ => False) s₂) (fun _ _ => False) s₁) (fun _ _ => False) s)
    (n : Nat) (h : I n s) (ht : ∀ v, letOwnedTupleGo target it v = pure () := by intro _; rfl) (hs : ∀ x, foldedSetIterable iter1 env x = pure x := by intro _; rfl) :
    codeAny (model prog w) A (.compLoop (.ListComp elt [⟨target, iter, ifs, 0⟩, ⟨target1, iter1, ifs1, 0⟩] scope pos) 0 it acc env) R s := by
  refine codeAny_loop rfl I (fun n s hI => ?_) n h
  show wpAny _ A ((compTurn (.ListComp elt [⟨target, iter, ifs, 0⟩, ⟨target1, iter1, ifs1, 0⟩] scope pos) 0 it acc env).onRaise (fun x => do noteFrame x env; theTreesLotGoes x)) _ _ s
  refine wpAny_noted ?_
  have e : compTurn (.ListComp elt [⟨target, iter, ifs, 0⟩, ⟨target1, iter1, ifs1, 0⟩] scope pos) 0 it acc env = (
      standAt iter.pos >>= fun _ => pyNext it >>= fun r => match r with
      | none => pure (.done .next)
      | some v =>
        letOwnedTupleGo target it v >>= fun _ => assign target env v >>= fun _ =>
        (forIn ifs true fun c r => if r = true then do let ok ← isTrue c env (eval c env); pure (ForInStep.yield ok) else pure (ForInStep.yield r)) >>= fun ok =>
        if ok = true then
          (eval iter1 env >>= fun x => standAt iter1.pos >>= fun _ => foldedSetIterable iter1 env x >>= fun x => holding [x] (pyIter x) >>= fun it1 =>
            runOwn (.compStart (.ListComp elt [⟨target, iter, ifs, 0⟩, ⟨target1, iter1, ifs1, 0⟩] scope pos) 1 it1 acc env) env >>= fun _ => again (.compLoop (.ListComp elt [⟨target, iter, ifs, 0⟩, ⟨target1, iter1, ifs1, 0⟩] scope pos) 0 it acc env))
        else again (.compLoop (.ListComp elt [⟨target, iter, ifs, 0⟩, ⟨target1, iter1, ifs1, 0⟩] scope pos) 0 it acc env)) := by rfl
  rw [e]
  refine wpAny_bind (wpAny_standAt (wpAny_bind (wpAny_mono (turn n s hI) (fun r s₁ h₁ => ?_) fun _ _ h' => h'.elim)))
  cases r with
  | none => exact wpAny_pure h₁
  | some v =>
    refine wpAny_bind (wpAny_of_eq (ht v) ?_)
    refine wpAny_bind (wpAny_mono h₁ (fun _ s₂ h₂ => wpAny_bind (wpAny_mono h₂ (fun ok s₃ h₃ => ?_) fun _ _ h' => h'.elim)) fun _ _ h' => h'.elim)
    cases ok with
    | false => exact wpAny_pure ⟨rfl, h₃⟩
    | true =>
      refine wpAny_bind (wpAny_mono h₃ (fun x s₄ h₄ => wpAny_bind (wpAny_standAt (wpAny_bind (wpAny_of_eq (hs x) (wpAny_bind (wpAny_holding (wpAny_mono h₄ (fun it1 s₅ h₅ => ?_) fun _ _ h' => h'.elim))))))) fun _ _ h' => h'.elim)
      refine wpAny_bind (wpAny_runOwn (h := none) ?_)
      show codeAny _ A (.compStart (.ListComp elt [⟨target, iter, ifs, 0⟩, ⟨target1, iter1, ifs1, 0⟩] scope pos) 1 it1 acc env) _ s₅
      refine codeAny_mono (R := fun r s₆ => match r with | .ok _ => ∃ m, m < n ∧ I m s₆ | .error _ => False) ?_ (fun r s' hr => by
        cases r with
        | ok f => exact wpAny_pure ⟨rfl, hr⟩
        | error e => exact hr.elim)
      refine codeAny_of_tree ?_
      show wpAny _ _ ((compStart (.ListComp elt [⟨target, iter, ifs, 0⟩, ⟨target1, iter1, ifs1, 0⟩] scope pos) 1 it1 acc env).onRaise (fun x => do noteFrame x env; standAt theWindowsPlace)) _ _ s₅
      refine wpAny_notedAt ?_
      unfold compStart
      show wpAny _ _ (ask >>= _) _ _ s₅
      refine wpAny_bind (wpAny_askSetting (wpAny_ite ?_))
      split
      · first
          | exact wpAny_bind (wpAny_pure (wpAny_pure (And.intro rfl h₅.1)))
          | exact wpAny_pure (And.intro rfl h₅.1)
      · first
          | exact wpAny_bind (wpAny_rule (wpAny_bind (wpAny_standAt (wpAny_bind (wpAny_mono h₅.2 (fun it' s' h' => wpAny_pure (And.intro rfl h')) fun _ _ x => x.elim)))))
          | (refine wpAny_bind (wpAny_rule ?_); show wpAny _ _ (standAt iter1.pos >>= _) _ _ s₅; exact wpAny_bind (wpAny_standAt (wpAny_bind (wpAny_mono h₅.2 (fun it' s' h' => wpAny_pure (And.intro rfl h')) fun _ _ x => x.elim))))

/-- two fors, the second over a list that a cell of the block around holds -/
theorem EV_comp2 {α β : Type} (l : List α) (l2 : List β) (toD : α → D) (toD2 : β → D) (f : α → β → D) (flt : α → Bool) (flt2 : α → β → Bool) {env : Env} {P : D → Prop} {elt iter : Expr} {ifs ifs1 : List Expr} {scope : Scope} {pos : Pos} {x x1 y : Str} {px px1 py : Pos} {cl : List (Str × Addr)} {ρc : Loc}
    (hclos : closureFor scope env = pure cl) (hcap : Cap env scope cl x ρ ρc)
    (hcell : ∀ y ∈ scope.names, y.2 ≠ .cell) (hkind : scope.kind = .function) (hnames : ∀ y ∈ scope.names, y.2 = .local → scope.names.lookup y.1 = some .local) (hx : scope.names.lookup x = some .local) (hx1 : scope.names.lookup x1 = some .local) (hxx : x ≠ x1) (hlen : l.length * l2.length ≤ 100000)
    (hy : ρc.lookup y = some (.old, .lst (l2.map toD2))) (hy1 : ∀ t d, ρc.lookup x1 = some (t, d) → False)
    (h : EV c n env ρ iter fun d => Itb c d (l.map toD) ∧ P (.lst ((l.filter flt).flatMap fun a => (l2.filter (flt2 a)).map (f a))))
    (hflat : ∀ a ∈ l, (toD a).flat = true)
    (hturn : ∀ C, ∀ a ∈ l, IFS c n (compEnvC scope cl C env) ((x, .new, toD a) :: ρc) ifs (flt a))
    (hturn2 : ∀ C, ∀ a ∈ l, flt a = true → ∀ b ∈ l2, IFS c n (compEnvC scope cl C env) ((x1, .new, toD2 b) :: (x, .new, toD a) :: ρc) ifs1 (flt2 a b) ∧
      (flt2 a b = true → EV c n (compEnvC scope cl C env) ((x1, .new, toD2 b) :: (x, .new, toD a) :: ρc) elt (fun q => q = f a b) ∧ (f a b).flat = true))
    (hs : ∀ x, foldedSetIterable iter env x = pure x := by intro _; rfl) (hd : (y == ("__debug__" : Str)) = false := by decide) (hd' : (y == ("__classdict__" : Str)) = false := by decide) :
    EV c n env ρ (.ListComp elt [⟨.Name x px, iter, ifs, 0⟩, ⟨.Name x1 px1, .Name y py, ifs1, 0⟩] scope pos) P := by
  intro h₀ A s Q R S hQ
  show wpAny _ A (eval (.ListComp elt [⟨.Name x px, iter, ifs, 0⟩, ⟨.Name x1 px1, .Name y py, ifs1, 0⟩] scope pos) env) Q _ s
  rw [eval_ListComp]
  refine wpAny_comprehension_free (use := none) rfl hs hclos hkind hnames (h h₀ A s _ R S fun v d s1 u1 r1 p1 => ?_)
  have S1 := S.keeps u1.keep
  refine p1.1 s1.heap A s1 _ _ v R.handled r1 (fun _ _ e _ => e) fun it T s2 u2 hn _ It hT => ?_
  let F := fun a => (l2.filter (flt2 a)).map (f a)
  have lenF : ∀ a, (F a).length ≤ l2.length := fun a => by
    show ((l2.filter (flt2 a)).map (f a)).length ≤ l2.length
    rw [List.length_map]; exact List.length_filter_le ..
  have lens : ∀ pre : List α, ((pre.filter flt).flatMap F).length ≤ pre.length * l2.length := by
    intro pre
    induction pre with
    | nil => simp
    | cons a pre ih =>
      rw [List.filter_cons]
      have := lenF a
      split
      · rw [List.flatMap_cons, List.length_append, List.length_cons, Nat.succ_mul]; omega
      · rw [List.length_cons, Nat.succ_mul]; omega
  have flF : ∀ C : Addr, ∀ a ∈ l, flt a = true → flats (F a) = true := by
    intro C a ha hfa
    have key : ∀ q : List β, (∀ b ∈ q, b ∈ l2) → flats ((q.filter (flt2 a)).map (f a)) = true := by
      intro q
      induction q with
      | nil => intro _; rfl
      | cons b q ih =>
        intro hq
        rw [List.filter_cons]
        split
        · rename_i hb
          rw [List.map_cons]; unfold flats
          rw [((hturn2 C a ha hfa b (hq b (.head _))).2 hb).2, ih fun z hz => hq z (.tail _ hz)]; rfl
        · exact ih fun z hz => hq z (.tail _ hz)
    exact key l2 fun _ h => h
  have fls : ∀ C : Addr, ∀ pre : List α, (∀ a ∈ pre, a ∈ l) → flats ((pre.filter flt).flatMap F) = true := by
    intro C pre
    induction pre with
    | nil => intro _; rfl
    | cons a pre ih =>
      intro h
      rw [List.filter_cons]
      split
      · rename_i hfa
        rw [List.flatMap_cons]
        exact flats_append (flF C a (h a (.head _)) hfa) (ih fun b hb => h b (.tail _ hb))
      · exact ih fun b hb => h b (.tail _ hb)
  refine comp_blockG (RR := fun acc C => compPost (model c.prog c.w) A (fun _ _ => False) none Q acc C) (gens := [⟨.Name x1 px1, .Name y py, ifs1, 0⟩]) ((l.filter flt).flatMap F) S1 u2.keep It hT hcell hkind hcap (fun C Dl s' a S' hT' hD hC hDC hiD hiC hold Rr hR => ?_) ?_
  · have hk : (compEnvC scope cl C env).scope.kind = .function := by simp [compEnvC, relabel, hkind]
    have hl : (compEnvC scope cl C env).kindOf x = some .local := lookup_relabel_local hx
    have hl1 : (compEnvC scope cl C env).kindOf x1 = some .local := lookup_relabel_local hx1
    refine codeAny_out (fun k s3 => Sim s' s3 ∧ ∃ pre post, l = pre ++ post ∧ k = post.length ∧ CSt c A (compEnvC scope cl C env) s1.heap ρc Dl ((pre.filter flt).flatMap F) s3.heap ∧ T pre.length s3.heap)
      (fun k s3 ⟨a3, pre, post, hds, hk', S3, hT3⟩ => ?_) l.length ⟨Sim.refl, [], l, rfl, rfl, S', hT'⟩
    have si : SeqIn s1.heap s3.heap := fun b o e ⟨_, _, f⟩ => S3.st.keep.nd b o e (.seq f)
    cases post with
    | nil =>
      have hd : l = pre := by simpa using hds
      refine It.last A (fun _ _ => False) s3 _ _ R.handled hT3 si (by rw [hd]; simp) fun h' hE => ?_
      exact hR _ (a3.trans ⟨rfl⟩) (by rw [hd]; exact S3.modify hn (It.obj _ _ hT3) hE)
    | cons z post =>
      have hz : z ∈ l := by rw [hds]; simp
      refine It.item A (fun _ _ => False) s3 _ (toD z) _ R.handled hT3 si (by rw [hds]; simp) fun v h' tk rv hT4 hS => ?_
      have S4 : CSt c A (compEnvC scope cl C env) s1.heap ρc Dl ((pre.filter flt).flatMap F) h' := S3.modify hn (It.obj _ _ hT3) hS.extBut
      refine assign_Name (CSt.store (s := { s3 with heap := h', toks := tk }) S4 hk hl rv fun h5 tk5 hs5 S5 => ?_)
      refine (hturn C z hz).run (s := { s3 with heap := h5, toks := tk5 }) R S5.st fun s6 u6 => ?_
      have S6 := S5.keeps u6.keep
      have sub : Sub ρc ((x, Tg.new, toD z) :: ρc) := fun q t d e => by
        rw [List.lookup_cons, beq_eq_false_iff_ne.mpr (hold q t d e).2]; exact e
      have T6 : T (pre.length + 1) s6.heap := (fun k => It.keep _ _ _ k fun o e => u6.keep.nd it o e (It.nd k e)) (It.keep _ _ _ hT4 fun o e => (hs5.2 it hiC).trans e)
      have a6 : Sim s' s6 := (a3.trans (c := { s3 with heap := h5, toks := tk5 }) ⟨rfl⟩).trans u6.sim
      have stepF : ((pre ++ [z]).filter flt).flatMap F = (pre.filter flt).flatMap F ++ (if flt z then F z else []) := by
        rw [List.filter_append, List.flatMap_append, List.filter_cons]
        cases flt z <;> simp
      cases hfz : flt z with
      | false =>
        rw [if_neg (by simp)]
        refine ⟨post.length, by rw [hk']; simp, a6, pre ++ [z], post, by rw [hds]; simp, rfl, ?_, by rw [List.length_append]; exact T6⟩
        rw [stepF, hfz]
        simpa using S6.forget sub
      | true =>
        rw [if_pos rfl]
        -- the inner list
        have hy' : ((x, Tg.new, toD z) :: ρc).lookup y = some (.old, .lst (l2.map toD2)) := sub y _ _ hy
        obtain ⟨m, hm, hv⟩ := S6.st.val
        obtain ⟨w, H, rw6, ro, _⟩ := hv y _ _ hy'
        have key : ∀ (Q : Value → Shared → Prop), Q w s6 → wpAny (model c.prog c.w) A (eval (.Name y py) (compEnvC scope cl C env)) Q (fun _ _ => False) s6 := by
          intro Q q
          refine wpAny_Name ?_ hd
          rcases H with ⟨a, b⟩ | ⟨a, q', b, t⟩
          · exact wpAny_loadName_local hk a hm b q
          · rcases a with a | a
            · exact wpAny_loadName_cell hk a b t q
            · exact wpAny_loadName_free hk a b t q hd'
        refine key _ ?_
        refine Itb.lst s1.heap A s6 _ _ w R.handled (ro rfl) (fun q o e ⟨_, _, f⟩ => S6.st.keep.nd q o e (.seq f)) fun it1 T1 s7 u7 hn7 _ It1 hT7 => ?_
        have S7 := S6.keeps u7.keep
        have g1 : s1.heap.get? it1 = none := by
          cases e : s1.heap.get? it1 with
          | none => rfl
          | some o => obtain ⟨_, this, _⟩ := S6.st.keep.someOf e; rw [hn7] at this; cases this
        have i1C : it1 ≠ C := fun q => by
          obtain ⟨_, ⟨o, _, _, ho, _⟩, _⟩ := S6.st.val
          have ho : s6.heap.get? C = some o := ho
          rw [← q, hn7] at ho; cases ho
        have i1D : it1 ≠ Dl := fun q => by
          obtain ⟨vs, ⟨o, ho, _⟩, _⟩ := S6.acc
          rw [← q, hn7] at ho; cases ho
        have i1i : it ≠ it1 := fun q => by
          obtain ⟨o, _, ho, _⟩ := It.obj _ _ T6
          rw [q, hn7] at ho; cases ho
        have hpl' : pre.length * l2.length + l2.length ≤ l.length * l2.length := by
          rw [hds, List.length_append, List.length_cons, Nat.add_mul, Nat.succ_mul]; omega
        have inner : ∀ s8 : Shared, Sim s7 s8 → s7.heap.StaysIn s8.heap → CSt c A (compEnvC scope cl C env) s1.heap ((x, .new, toD z) :: ρc) Dl ((pre.filter flt).flatMap F) s8.heap → T1 0 s8.heap →
            codeAny (model c.prog c.w) A (.compLoop (.ListComp elt [⟨.Name x px, iter, ifs, 0⟩, ⟨.Name x1 px1, .Name y py, ifs1, 0⟩] scope pos) 1 (.ref it1) (.ref Dl) (compEnvC scope cl C env)) (fun r s₆ => match r with
              | .ok _ => ∃ m, m < k ∧ (Sim s' s₆ ∧ ∃ pre post, l = pre ++ post ∧ m = post.length ∧ CSt c A (compEnvC scope cl C env) s1.heap ρc Dl ((pre.filter flt).flatMap F) s₆.heap ∧ T pre.length s₆.heap) | .error _ => False) s8 := by
          intro s8 a8 k8 S8 hT8
          have l1 := lens pre
          refine comp_loop l2 toD2 (f z) (flt2 z) (loopRule2 (iter := .Name y py)) R S8 It1 hT8 (fun _ _ e => e) hk hl1 hD g1 i1D i1C (by omega) (fls C pre fun b hb => by rw [hds]; exact List.mem_append_left _ hb) (hturn2 C z hz hfz) (fun q t d e => ?_) fun s9 a9 k9 S9 => ?_
          · rw [List.lookup_cons] at e
            by_cases hq : q = x
            · subst hq
              simp only [beq_self_eq_true] at e
              cases e
              exact ⟨.inr ⟨rfl, hflat z hz⟩, hxx⟩
            · rw [beq_eq_false_iff_ne.mpr hq] at e
              exact ⟨.inl (hold q t d e).1, fun z => hy1 t d (z ▸ e)⟩
          · refine ⟨post.length, by rw [hk']; simp, (a6.trans u7.sim).trans (a8.trans a9), pre ++ [z], post, by rw [hds]; simp, rfl, ?_, ?_⟩
            · rw [stepF, hfz]
              exact S9.forget sub
            · rw [List.length_append]
              exact It.keep _ _ _ T6 fun o e => k9 it o (k8 it o (u7.keep.nd it o e (It.nd T6 e))) (It.nd T6 e) hiD i1i
        exact ⟨inner s7 Sim.refl stays_refl S7 hT7, It1.self A _ s7 0 _ hT7 (inner s7 Sim.refl stays_refl S7 hT7)⟩
  · intro Dl C s' m' sim hD hC hDC hns gk hl
    refine ⟨m', hns, fun h'' hs'' => ?_⟩
    obtain ⟨vs, hl, rl⟩ := hl
    obtain ⟨oC, _, _, hoC, hdC, _⟩ := hns
    have sq : ∀ b o, s'.heap.get? b = some o → (∃ vs n, o.data = .seq vs n) → h''.get? b = some o := fun b o e ⟨vs, m, f⟩ => (hs''.2 b (fun z => by subst z; rw [hoC] at e; cases e; rw [hdC] at f; cases f)).trans e
    obtain ⟨ol, hol, hlc, mm, hld⟩ := hl
    refine hQ _ _ _ ((u1.trans ⟨?_, ?_⟩)) (Rep.lst ⟨ol, sq _ _ hol ⟨_, _, hld⟩, hlc, mm, hld⟩ (rl.seqKeeps sq)) p1.2
    · exact gk.but S1.g.toB hC (fun b o q e => (hs''.2 b q).trans e)
    · show ({ s' with heap := h'' } : Shared) = { s1 with heap := h'', toks := s'.toks }
      rw [sim.same, u2.same]
end
end Mine
end
section
open PySem PySem.W PySem.Calls PyProof.Rows
namespace Mine

section
variable {c : Cx} {n : Nat} {mu : Bool} {env : Env} {ρ ρ' : Loc} {P : D → Prop}

/-! f-strings -/
def JP (c : Cx) (n : Nat) (env : Env) (ρ : Loc) (out : Str) (es : List Expr) (P : D → Prop) : Prop :=
  ∀ (h₀ : Heap) (A : Around) (s : Shared) (Q : Value → Shared → Prop), Room n A → St c A env h₀ ρ s.heap →
    (∀ v d s', Up c s s' → Rep s'.heap d v → P d → Q v s') → wpAny (model c.prog c.w) A (joinParts out (evalEach es env)) Q (fun _ _ => False) s
theorem JP_nil {out : Str} (hl : out.length ≤ 100000) (h : P (.str out)) : JP c n env ρ out [] P :=
  fun _ _ _ _ _ _ hQ => joinParts_nil (hQ _ _ _ Up.tok Rep.str h) (by rw [sizeLine_eq]; omega)
theorem JP_cons {out : Str} {e : Expr} {es : List Expr} (h : EV c n env ρ e fun d => ∃ y, d = .str y ∧ (out ++ y).length ≤ 100000 ∧ JP c n env ρ (out ++ y) es P) : JP c n env ρ out (e :: es) P := by
  intro h₀ A s Q R S hQ
  refine joinParts_cons (h h₀ A s _ R S fun v d s1 u1 r1 p1 => ?_)
  obtain ⟨y, rfl, hl, p1⟩ := p1
  obtain ⟨t, rfl⟩ := r1.str_inv
  exact ⟨by rw [sizeLine_eq]; omega, p1 h₀ A s1 Q R (S.keeps u1.keep) fun v d s2 u2 r2 p2 => hQ v d s2 (u1.trans u2) r2 p2⟩
theorem EV_joined {v₁ v₂ : Expr} {rest : List Expr} {pos : Pos} (h : JP c n env ρ Str.empty (v₁ :: v₂ :: rest) P) : EV c n env ρ (.JoinedStr (v₁ :: v₂ :: rest) pos) P :=
  fun h₀ A s Q R S hQ => JoinedStr_many (h h₀ A s Q R S hQ)
theorem EV_fmtI {e : Expr} {pos : Pos} (h : EV c n env ρ e fun d => ∃ a, d = .int a ∧ a.natAbs < 2 ^ 1900 ∧ P (.str (Str.ofString (toString a)))) : EV c n env ρ (.FormattedValue e (-1) none pos) P := by
  intro h₀ A s Q R S hQ
  refine FormattedValue_plain (h h₀ A s _ R S fun v d s1 u1 r1 p1 => ?_)
  obtain ⟨a, rfl, ha, p1⟩ := p1
  obtain ⟨t, rfl⟩ := r1.int_inv
  exact formatField_int_small (log2_1920 ha) (hQ _ _ _ (u1.trans Up.tok) Rep.str p1)
theorem EV_fmtS {e : Expr} {pos : Pos} (h : EV c n env ρ e fun d => ∃ a, d = .str a ∧ a.length ≤ 100000 ∧ P (.str a)) : EV c n env ρ (.FormattedValue e (-1) none pos) P := by
  intro h₀ A s Q R S hQ
  refine FormattedValue_plain (h h₀ A s _ R S fun v d s1 u1 r1 p1 => ?_)
  obtain ⟨a, rfl, ha, p1⟩ := p1
  obtain ⟨t, rfl⟩ := r1.str_inv
  exact formatField_str (fun t' tk => hQ _ _ _ (u1.trans Up.tok) Rep.str p1) (by rw [sizeLine_eq]; omega)

theorem rep_strValues {h : Heap} : ∀ (l : List (Str × Tok)), RepL h (l.map fun p => D.str p.1) (strValues l)
  | [] => RepL.nil
  | p :: l => RepL.cons Rep.str (rep_strValues l)
theorem EV_split {o e : Expr} {apos pos : Pos} (hbase : attributeBase o (Str.ofString "split") env (eval o env) = eval o env) (hline : (apos.endLine == pos.line) = true)
    (h : EV c n env ρ o fun a => ∃ x, a = .str x ∧ x.length ≤ 100000 ∧ EV c n env ρ e fun b => ∃ y, b = .str y ∧ (y.length == 0) = false ∧
      (Builtin.Str.partsBetween x (Builtin.Str.occurrences x y 0 x.length (x.length + 1)) y.length).length ≤ 200000 ∧ P (.lst ((Txt.split x y).map .str)))
    (hs : starEach [e] env = [(false, eval e env)] := by rfl) : EV c n env ρ (.Call (.Attribute o (Str.ofString "split") apos) [e] [] pos) P := by
  intro h₀ A s Q R S hQ
  refine PySem.Call_method1 hbase hs hline (h h₀ A s _ R S fun v d s1 u1 r1 p1 => ?_)
  obtain ⟨x, rfl, hx, p1⟩ := p1
  obtain ⟨t, rfl⟩ := r1.str_inv
  refine SBG.split1 (Fm := fun s' => Up c s s') (fun s' ob k u => u.trans Up.push) (p1 h₀ A s1 _ R (S.keeps u1.keep) fun v d s2 u2 r2 p2 => ?_) (by rw [sizeLine_eq]; omega)
  obtain ⟨y, rfl, hy, hp, p2⟩ := p2
  obtain ⟨u, rfl⟩ := r2.str_inv
  refine ⟨y, u, rfl, hy, u1.trans u2, by rw [sizeLine_eq]; omega, fun Dl l s3 hl u3 hL => ?_⟩
  have rl := rep_strValues (h := s3.heap) l
  have e : (l.map fun p => D.str p.1) = (Txt.split x y).map .str := by rw [← hl, List.map_map]; rfl
  rw [e] at rl
  exact hQ _ _ _ u3 (Rep.lst hL rl) p2

/-! equality of pairs of ints -/
theorem CMP_eqT {a b a' b' : Int} {P : Bool → Prop} (h : P (decide (a = a' ∧ b = b'))) : CMP c n .Eq (.tup [.int a, .int b]) (.tup [.int a', .int b']) P := by
  intro A s Q x y R G rx ry hQ
  obtain ⟨p, vs, rfl, ht, rl⟩ := rx.tup_inv
  obtain ⟨v1, r1, rfl, ra, rl⟩ := rl.cons_inv
  obtain ⟨v2, r2, rfl, rb, rl⟩ := rl.cons_inv
  obtain rfl := rl.nil_inv
  obtain ⟨q, ws, rfl, ht', rl⟩ := ry.tup_inv
  obtain ⟨w1, r1, rfl, ra', rl⟩ := rl.cons_inv
  obtain ⟨w2, r2, rfl, rb', rl⟩ := rl.cons_inv
  obtain rfl := rl.nil_inv
  obtain ⟨t1, rfl⟩ := ra.int_inv
  obtain ⟨t2, rfl⟩ := rb.int_inv
  obtain ⟨t3, rfl⟩ := ra'.int_inv
  obtain ⟨t4, rfl⟩ := rb'.int_inv
  refine SeqAt.eq_tupleAt (e := fun j => match j with | 0 => a == a' | _ => b == b') ht ht' (by have := R.units; omega) (fun j h1 h2 => ?_) ?_
  · match j, h1 with
    | 0, _ => exact SeqAt.EqAt.int_int _ _ _ _
    | 1, _ => exact SeqAt.EqAt.int_int _ _ _ _
  · have e : ((List.range (min [Value.int a t1, Value.int b t2].toArray.size [Value.int a' t3, Value.int b' t4].toArray.size)).all (fun j => match j with | 0 => a == a' | _ => b == b') && [Value.int a t1, Value.int b t2].toArray.size == [Value.int a' t3, Value.int b' t4].toArray.size) = decide (a = a' ∧ b = b') := by
      show ((List.range 2).all (fun j => match j with | 0 => a == a' | _ => b == b') && true) = _
      simp [List.range_succ]
      cases h1 : (a == a') <;> cases h2 : (b == b') <;> simp_all
    rw [e]
    exact hQ _ _ _ Up.refl Rep.bool ⟨_, rfl, h⟩

/-! a list of the call's own -/
theorem EX_ownList {x : Str} {px lp pos : Pos} {elts : List Expr} {rest : List Stmt} {P : Fl → Loc → Prop}
    (h : TVs c n env ρ (spliced (backTo lp (starEach elts env))) fun ds => ds.length ≤ 1000 ∧ EX c n mu env ((x, .own, .lst ds) :: ρ) rest P) (hx : StOk env x)
    (hs : swapsWith (.List elts lp) (some (.Name x px)) pos.line env = pure false := by rfl) : EX c n mu env ρ (.Assign [.Name x px] (.List elts lp) pos :: rest) P := by
  intro h₀ A s Q R Fe S hQ
  refine wpAny_execs_cons (wpAny_Assign_Name (wpAny_List_spliced (h h₀ A s _ R S fun vs ds s1 u r p => ?_)) hs)
  have up := u.trans (Up.push (o := { cls := .type "list", data := .seq vs.toArray }) (n := s1.toks))
  refine ⟨by rw [r.length, sizeLine_eq]; have := p.1; omega, ?_⟩
  have S2 := S.keeps up.keep
  refine St.store (s := { s1 with heap := s1.heap.push { cls := .type "list", data := .seq vs.toArray } }) (mu := mu) .own S2 Fe hx (Rep.lst ⟨_, Heap.get?_push_size _ rfl, rfl, _, rfl⟩ (r.keeps (.of fun _ _ e => Heap.get?_push_of_some _ e))) (fun h => by cases h)
    (fun _ => ⟨_, vs.toArray, 0, rfl, ?_, Heap.get?_push_size _ rfl⟩) fun s2 a b d2 => ?_
  · exact (S.keeps u.keep).keep.noneOf (get_none_of_size (Nat.le_refl _))
  · exact seq_step (fl := .next) R Fe hQ (up.sim.trans a) ((KP.up up.keep.to).trans b) d2 rfl p.2

theorem EX_ownCopy {x y : Str} {px p pos cp : Pos} {e : Expr} {rest : List Stmt} {P : Fl → Loc → Prop} (h0 : c.mg y = none) (hb : c.mb y = some (.type "list")) (hy : env.kindOf y = some .globalImplicit)
    (h : EV c n env ρ e fun d => ∃ ds, d = .lst ds ∧ ds.length ≤ 100000 ∧ EX c n mu env ((x, .own, .lst ds) :: ρ) rest P) (hx : StOk env x) (T : TopEnv env)
    (he : starEach [e] env = (false, eval e env) :: starEach [] env := by rfl)
    (hd : (y == ("__debug__" : Str)) = false := by decide)
    (hs : swapsWith (.Call (.Name y p) [e] [] cp) (some (.Name x px)) pos.line env = pure false := by rfl) : EX c n mu env ρ (.Assign [.Name x px] (.Call (.Name y p) [e] [] cp) pos :: rest) P := by
  intro h₀ A s Q R Fe S hQ
  refine wpAny_execs_cons (wpAny_Assign_Name ?_ hs)
  refine Call_ (Name_function_global T.kind hy (loadGlobal_builtin (by rw [T.g]; exact S.g.top.g) h0 (by rw [T.b]; exact S.g.top.b) hb ?_) hd)
  refine PyProof.Rows.callWith_type1 (spliced_more (h h₀ A s _ R S fun v d s1 u1 r1 p1 => spliced_none ?_) he) he rfl
  obtain ⟨ds, rfl, hl, p1⟩ := p1
  obtain ⟨a, vs, rfl, ⟨o, ho, hc, m, hd⟩, rl⟩ := r1.lst_inv
  refine call_list_seq a (.inl rfl) ho hc hd (fun h' c' hk hn => ?_) (by have := rl.length; rw [sizeLine_eq]; simp; omega)
  have up := u1.trans (Up.heap (n := s1.toks) hk)
  have S2 := S.keeps up.keep
  refine St.store (s := { s1 with heap := h' }) (mu := mu) .own S2 Fe hx (Rep.lst ⟨_, hn, rfl, _, rfl⟩ (rl.keeps (.of hk))) (fun h => by cases h) (fun _ => ⟨_, vs.toArray, c', rfl, ?_, hn⟩) fun s2 a b d2 => ?_
  · exact (S.keeps u1.keep).keep.noneOf (get_none_of_size (Nat.le_refl _))
  · exact seq_step (fl := .next) R Fe hQ (up.sim.trans a) ((KP.up up.keep.to).trans b) d2 rfl p1

/-- which names stay where a list of the call's own changes -/
def Kept (x : Str) (ρ' ρ : Loc) : Prop := ∀ y t d, ρ'.lookup y = some (t, d) → y ≠ x ∧ ρ.lookup y = some (t, d) ∧ (t = .old ∨ (t = .new ∧ d.flat = true))
theorem Kept.of {x : Str} {ρ' ρ : Loc} (h : ∀ p ∈ ρ', (p.1 == x) = false ∧ ρ.lookup p.1 = some p.2 ∧ (p.2.1 = .old ∨ (p.2.1 = .new ∧ p.2.2.flat = true))) : Kept x ρ' ρ := by
  intro y t d e
  obtain ⟨a, b, k⟩ := h (y, (t, d)) (mem_of_lookup e)
  exact ⟨beq_eq_false_iff_ne.mp a, b, k⟩

/-- the state behind a change of the list that x holds -/
theorem own_change {h₀ : Heap} {s s' : Shared} {x : Str} {l l' : List D} {a : Addr} {its its' : Array Value} {k k' : Nat} {m : Str → Option Value} (S : St c A env h₀ ρ s.heap) (hm : s.heap.Ns env.locals m)
    (hv : ∀ y t d, ρ.lookup y = some (t, d) → ∃ v, Held env m h₀ s.heap y t d v) (hx : Held env m h₀ s.heap x .own (.lst l) (.ref a)) (ha : s.heap.get? a = some (listOf its k)) (h0 : h₀.get? a = none)
    (hs : Heap.SameBut a s.heap s'.heap) (ha' : s'.heap.get? a = some (listOf its' k')) (fl : flats l' = true) (rl : RepL s.heap l' its'.toList) (K : Kept x ρ' ρ) :
    St c A env h₀ ((x, .own, .lst l') :: ρ') s'.heap := by
  have ne : ∀ b o, s.heap.get? b = some o → (∀ vs n, o.data ≠ .seq vs n) → s'.heap.get? b = some o := fun b o e f => (hs.2 b (fun z => by subst z; rw [ha] at e; cases e; exact f _ _ rfl)).trans e
  have tp : ∀ b o, s.heap.get? b = some o → o.cls = .type "tuple" → s'.heap.get? b = some o := fun b o e f => (hs.2 b (fun z => by subst z; rw [ha] at e; cases e; exact absurd (show Value.type "list" = Value.type "tuple" from f) (by decide))).trans e
  have kp : Le c h₀ s'.heap := S.keep.but S.base h0 (fun b o q e => (hs.2 b q).trans e)
  have hol : ∀ {y v}, Holds env m s.heap y v → Holds env m s'.heap y v := fun H => by
    rcases H with H | ⟨p, q, b, o, ho, hd⟩
    · exact .inl H
    · exact .inr ⟨p, q, b, o, ne _ _ ho (fun _ _ f => by rw [hd] at f; cases f), hd⟩
  refine ⟨S.base, S.frs, kp, S.above, fun y q e => ?_, m, ?_, fun y t d e => ?_⟩
  · obtain ⟨p, v, o, ho, hd⟩ := S.cel y q e
    exact ⟨p, v, o, ne _ _ ho (fun _ _ f => by rw [hd] at f; cases f), hd⟩
  · obtain ⟨oL, es, ep, hL, hLd, r⟩ := hm
    exact ⟨oL, es, ep, ne _ _ hL (fun _ _ f => by rw [hLd] at f; cases f), hLd, r⟩
  · rw [List.lookup_cons] at e
    by_cases hy : y = x
    · subst hy
      simp only [beq_self_eq_true] at e
      cases e
      exact ⟨.ref a, hol hx.holds, Rep.lst ⟨_, ha', rfl, k', by simp⟩ (rl.flatKeeps tp fl), (fun z => by cases z), (fun _ => ⟨a, its', k', rfl, h0, ha'⟩)⟩
    · rw [beq_eq_false_iff_ne.mpr hy] at e
      obtain ⟨_, e', ht⟩ := K y t d e
      obtain ⟨v, H⟩ := hv y t d e'
      refine ⟨v, hol H.holds, ?_, H.old, fun z => ?_⟩
      · rcases ht with rfl | ⟨rfl, hf⟩
        · exact (H.old rfl).keeps kp.to
        · exact H.rep.flatKeeps tp hf
      · rcases ht with rfl | ⟨rfl, _⟩ <;> cases z

theorem EX_append {x : Str} {xp apos cp pos : Pos} {e : Expr} {rest : List Stmt} {P : Fl → Loc → Prop} {l : List D} (hx : ρ.lookup x = some (.own, .lst l)) (fl : flats l = true) (hlen : l.length ≤ 100000)
    (h : EV c n env ρ e fun d => d.flat = true ∧ ∃ ρ', Kept x ρ' ρ ∧ EX c n true env ((x, .own, .lst (l ++ [d])) :: ρ') rest P)
    (hline : (apos.endLine == cp.line) = true := by rfl)
    (htrees : backTo cp (starEach [e] env) = [(false, eval e env)] := by rfl)
    (hi : interactive env = false := by rfl) (hs : swapsWith (.Call (.Attribute (.Name x xp) (Str.ofString "append") apos) [e] [] cp) none pos.line env = pure false := by rfl)
    (hd : (x == ("__debug__" : Str)) = false := by decide) (hd' : (x == ("__classdict__" : Str)) = false := by decide) :
    EX c n true env ρ (.Expr (.Call (.Attribute (.Name x xp) (Str.ofString "append") apos) [e] [] cp) pos :: rest) P := by
  intro h₀ A s Q R Fe S hQ
  have hk := Fe.kind
  refine wpAny_execs_cons (wpAny_Expr ?_ hi hs)
  obtain ⟨m, hm, hv⟩ := id S.val
  obtain ⟨v, H⟩ := hv x _ _ hx
  obtain ⟨a, its, k, rfl, h0, ha⟩ := H.own rfl
  have key : ∀ (Q : Value → Shared → Prop), Q (.ref a) s → wpAny (model c.prog c.w) A (eval (.Name x xp) env) Q (fun _ _ => False) s := by
    intro Q q
    refine wpAny_Name ?_ hd
    rcases H.holds with ⟨p, b⟩ | ⟨p, q', b, t⟩
    · exact wpAny_loadName_local hk p hm b q
    · rcases p with p | p
      · exact wpAny_loadName_cell hk p b t q
      · exact wpAny_loadName_free hk p b t q hd'
  refine wpAny_Call_append (elt := e) rfl (by rw [htrees]; rfl) hline htrees (key _ ⟨a, its, rfl, ⟨_, k, ha, rfl, rfl, rfl⟩, h h₀ A s _ R S fun v d s1 u1 r1 p1 => ?_⟩)
  have S1 := S.keeps u1.keep
  have ha1 := u1.keep.nd _ _ ha (.seq rfl)
  obtain ⟨a', vs, e', ⟨o', ho', _, mm, hd1⟩, rl⟩ := H.rep.lst_inv
  cases e'
  rw [ha] at ho'; cases ho'; cases hd1
  refine call_meets slot_list_append ⟨_, ha1, rfl⟩ entry_list_append (args_list_append _ _) (list_append a vs.toArray k v (by have := rl.length; rw [sizeLine_eq]; simp; omega)) ⟨ha1, ?_⟩
  obtain ⟨pf, ρ', K, p1⟩ := p1
  have ha2 := IsL.update (n := k) ha1 (·.push v)
  have S2 := own_change (s := s1) (s' := { s1 with heap := s1.heap.update a (Obj.mapSeq fun z => z.push v) }) (l' := l ++ [d]) S1 (u1.keep.ns hm) (fun y t d e => let ⟨v, H⟩ := hv y t d e; ⟨v, H.holds.keeps u1.keep.to, H.rep.keeps u1.keep.to, H.old, fun z => let ⟨i, j, q, e1, e2, e3⟩ := H.own z; ⟨i, j, q, e1, e2, u1.keep.nd _ _ e3 (.seq rfl)⟩⟩)
    ⟨H.holds.keeps u1.keep.to, H.rep.keeps u1.keep.to, H.old, fun z => let ⟨i, j, q, e1, e2, e3⟩ := H.own z; ⟨i, j, q, e1, e2, u1.keep.nd _ _ e3 (.seq rfl)⟩⟩ ha1 h0 (Heap.SameBut.update ..) ha2 (flats_append fl (by unfold flats; rw [pf]; rfl)) (by simpa using (rl.keeps u1.keep.to).append (RepL.one r1)) K
  have kp : KP true env h₀ s.heap (s1.heap.update a (Obj.mapSeq fun z => z.push v)) := fun q o e h1 h2 h3 => by
    refine (Heap.get?_update_ne _ _ _ _ (fun z => ?_)).trans (u1.keep.nd q o e h1)
    subst z; rw [ha] at e; cases e
    exact h3 rfl h0 rfl
  show wpAny _ A (execs rest env) Q _ _
  exact p1 h₀ A _ Q R Fe S2 fun f fl ρ'' s3 a3 b3 d3 e3 p3 => hQ f fl ρ'' s3 ((u1.sim.trans ⟨rfl⟩).trans a3) (kp.trans b3) d3 e3 p3

theorem RepL.set {h : Heap} : ∀ {l : List D} {vs : List Value} {i : Nat} {d : D} {v : Value}, RepL h l vs → Rep h d v → RepL h (l.set i d) (vs.set i v)
  | [], _, _, _, _, r, _ => by rw [r.nil_inv]; simpa using RepL.nil
  | _ :: _, _, 0, _, _, r, rv => by
    obtain ⟨w, r', rfl, _, rl⟩ := r.cons_inv
    exact RepL.cons rv rl
  | _ :: _, _, i + 1, _, _, r, rv => by
    obtain ⟨w, r', rfl, rw', rl⟩ := r.cons_inv
    exact RepL.cons rw' (RepL.set rl rv)
theorem flats_set : ∀ {l : List D} {i : Nat} {d : D}, flats l = true → d.flat = true → flats (l.set i d) = true
  | [], _, _, h, _ => by simpa using h
  | a :: l, 0, _, h, k => by
    unfold flats at h
    rw [Bool.and_eq_true] at h
    show (_ && _) = true
    rw [k, h.2]; rfl
  | a :: l, i + 1, _, h, k => by
    unfold flats at h
    rw [Bool.and_eq_true] at h
    show (_ && _) = true
    rw [h.1, flats_set h.2 k]; rfl

theorem EX_setitem {x : Str} {xp sp pos : Pos} {i value : Expr} {rest : List Stmt} {P : Fl → Loc → Prop} {l : List D} (hx : ρ.lookup x = some (.own, .lst l)) (fl : flats l = true)
    (h : EV c n env ρ value fun d => d.flat = true ∧ EV c n env ρ i fun e => ∃ k : Int, e = .int k ∧ 0 ≤ k ∧ k < l.length ∧ k < 1000 ∧ ∃ ρ', Kept x ρ' ρ ∧ EX c n true env ((x, .own, .lst (l.set k.toNat d)) :: ρ') rest P)
    (hs : swapsWithSole [.Subscript (.Name x xp) i sp] value pos.line env = pure false := by rfl) (hw : swappedStores [.Subscript (.Name x xp) i sp] value env = pure none := by rfl)
    (hd : (x == ("__debug__" : Str)) = false := by decide) (hd' : (x == ("__classdict__" : Str)) = false := by decide) :
    EX c n true env ρ (.Assign [.Subscript (.Name x xp) i sp] value pos :: rest) P := by
  intro h₀ A s Q R Fe S hQ
  have hk := Fe.kind
  refine wpAny_execs_cons (wpAny_Assign_stores (h h₀ A s _ R S fun v d s1 u1 r1 p1 => ?_) hs hw)
  show wpAny _ A (do
    let ov ← holding [v] (eval (.Name x xp) env)
    let iv ← holding [v, ov] (eval i env)
    standAt sp
    holding [v, ov, iv] (setItem ov iv v)
    release (match (generalizing := false) i with | .Slice _ _ none _ => [iv, v, ov] | _ => [v, ov, iv]) []) _ _ s1
  have S1 := S.keeps u1.keep
  obtain ⟨m, hm, hv⟩ := id S.val
  obtain ⟨w, H⟩ := hv x _ _ hx
  obtain ⟨a, its, k, rfl, h0, ha⟩ := H.own rfl
  have key : ∀ (Q : Value → Shared → Prop), Q (.ref a) s1 → wpAny (model c.prog c.w) A (eval (.Name x xp) env) Q (fun _ _ => False) s1 := by
    intro Q q
    refine wpAny_Name ?_ hd
    rcases H.holds with ⟨p, b⟩ | ⟨p, q', b, t⟩
    · exact wpAny_loadName_local hk p (u1.keep.ns hm) b q
    · rcases p with p | p
      · exact wpAny_loadName_cell hk p b (u1.keep.to.cell t) q
      · exact wpAny_loadName_free hk p b (u1.keep.to.cell t) q hd'
  refine wpAny_bind (wpAny_holding (key _ (wpAny_bind (wpAny_holding (p1.2 h₀ A s1 _ R S1 fun vi e s2 u2 r2 p2 => wpAny_bind (wpAny_standAt (wpAny_bind (wpAny_holding ?_))))))))
  obtain ⟨kk, rfl, k0, kl, kf, ρ', K, p2⟩ := p2
  obtain ⟨t, rfl⟩ := r2.int_inv
  have up := u1.trans u2
  have S2 := S.keeps up.keep
  have ha2 := up.keep.nd _ _ ha (.seq rfl)
  obtain ⟨a', vs, e', ⟨o', ho', _, mm, hd1⟩, rl⟩ := H.rep.lst_inv
  cases e'
  rw [ha] at ho'; cases ho'; cases hd1
  have hlen := rl.length
  refine ki_setAt ha2 k0 (by omega) (by simp; omega) ?_
  have ha3 := IsL.update (n := k) ha2 (·.setIfInBounds kk.toNat v)
  have H2 : ∀ y t d v, Held env m h₀ s.heap y t d v → Held env m h₀ s2.heap y t d v := fun y t d v H => ⟨H.holds.keeps up.keep.to, H.rep.keeps up.keep.to, H.old, fun z => let ⟨i, j, q, e1, e2, e3⟩ := H.own z; ⟨i, j, q, e1, e2, up.keep.nd _ _ e3 (.seq rfl)⟩⟩
  have S3 := own_change (s := s2) (s' := { s2 with heap := s2.heap.update a (Obj.mapSeq fun z => z.setIfInBounds kk.toNat v) }) (l' := l.set kk.toNat d) S2 (up.keep.ns hm) (fun y t d e => (hv y t d e).elim fun v H => ⟨v, H2 _ _ _ _ H⟩)
    (H2 _ _ _ _ H) ha2 h0 (Heap.SameBut.update ..) ha3 (flats_set fl p1.1) (by simpa using RepL.set (i := kk.toNat) (rl.keeps up.keep.to) (r1.keeps u2.keep.to)) K
  have kp : KP true env h₀ s.heap (s2.heap.update a (Obj.mapSeq fun z => z.setIfInBounds kk.toNat v)) := fun q o e h1 h2 h3 => by
    refine (Heap.get?_update_ne _ _ _ _ (fun z => ?_)).trans (up.keep.nd q o e h1)
    subst z; rw [ha] at e; cases e
    exact h3 rfl h0 rfl
  refine wpAny_release' ?_
  show wpAny _ A (execs rest env) Q _ _
  exact p2 h₀ A _ Q R Fe S3 fun f fl ρ'' s3 a3 b3 d3 e3 p3 => hQ f fl ρ'' s3 ((up.sim.trans ⟨rfl⟩).trans a3) (kp.trans b3) d3 e3 p3
end
end Mine
end
section
open PySem PySem.W PySem.Calls PyProof.Rows
namespace Mine
theorem own_init : (classOwn (.type "Exception") "__init__" : Sem _) = pure (some (.builtin "Exception.__init__")) := by kernel_rfl
theorem ty_init : typeOf (.builtin "Exception.__init__") = pure (.type "wrapper_descriptor") := by kernel_rfl
theorem slot_wget : Slot "wrapper_descriptor" "__get__" "wrapper_descriptor.__get__" := .of (owner := "wrapper_descriptor") (n := "__get__") (by rw [typeLookup_type, builtinLookup_eq_fast]; kernel_rfl) (by decide +kernel) (by decide +kernel) (by decide +kernel)
  (by first | exact .inl (by decide +kernel) | exact .inr (by decide +kernel)) (by rw [isSubtype_type]; kernel_rfl)
theorem entry_wget : entryFor table "wrapper_descriptor.__get__" = some Builtin.«wrapper_descriptor.__get__» := entryFor_of_tree (by kernel_rfl)
theorem args_wget (a b c : Value) : argsOk "wrapper_descriptor.__get__" ⟨[a, b, c], []⟩ := by unfold argsOk; kernel_rfl
theorem check_wget (b c : Value) : checkBuiltinCall "wrapper_descriptor.__get__" ⟨[.builtin "Exception.__init__", b, c], []⟩ = pure () := by kernel_rfl
section
variable {prog : Program} {w : World} {A : Around} {E : Value → Shared → Prop} {h : Heap} {g : Array GenState} {d : Drawn} {t : Nat} {os : OsState}
variable {nm q : Str} {C N x so : Addr} {bs : List Value} {hdct : Bool} {sn : List Str} {sub : List Value} {ab : Bool} {col : Option Bool} {dd : Option Addr} {k0 k1 k2 k3 k5 : Option Value} {newId : String}

abbrev bmX : List Value := [.type "Exception", .type "BaseException", .type "object"]
theorem super_ga {tk : Tok} {Q : Fin → Shared → Prop} {ox : Obj} (hC : h.get? C = some (excClassObj nm q C N bs bmX hdct sn sub ab col dd k0 k1 k2 k3 k5 newId)) (hx : h.get? x = some ox) (hxc : ox.cls = .ref C)
    (hso : h.get? so = some { cls := .type "super", dict := none, data := .fields #[.ref C, .ref x, .ref C], slots := #[] }) (hno : Looks (model prog w) h (opaqueClassAbove (.ref C)) none) (hxC : x ≠ C)
    (hq : Q (.done (.ret (.ref h.objs.size))) ⟨h.push { cls := .type "method-wrapper", data := .fields #[.builtin "Exception.__init__", .ref x] }, g, d, t, os⟩) :
    wpAny (model prog w) A (Builtin.«super.__getattribute__» ⟨[.ref so, .str "__init__" tk], []⟩) Q E ⟨h, g, d, t, os⟩ := by
  have hn : (("__init__" : Str) == ("__class__" : Str)) = false := by decide
  have hne : (Value.ref x == Value.ref C) = false := by simp [hxC]
  have hdt : ({ cls := .type "super", dict := none, data := .fields #[.ref C, .ref x, .ref C], slots := #[] } : Obj).data = .fields #[.ref C, .ref x, .ref C] := rfl
  have f0 : (#[.ref C, .ref x, .ref C] : Array Value)[0]? = some (.ref C) := rfl
  have f1 : (#[.ref C, .ref x, .ref C] : Array Value)[1]? = some (.ref x) := rfl
  have f2 : (#[.ref C, .ref x, .ref C] : Array Value)[2]? = some (.ref C) := rfl
  have hl : (([.ref C, .type "Exception", .type "BaseException", .type "object"] : List Value).dropWhile (· != .ref C)).drop 1 = bmX := by simp [List.dropWhile]
  unfold Builtin.«super.__getattribute__»
  repeat (first
    | (with_reducible refine wpAny_field hso hdt f0 ?_) | (with_reducible refine wpAny_field hso hdt f1 ?_) | (with_reducible refine wpAny_field hso hdt f2 ?_)
    | (with_reducible refine ks_wpAny_notOpaque hno ?_)
    | (with_reducible refine wpAny_mroOf_exc hC ?_; rw [hl])
    | (rw [List.forIn_cons]; refine wpAny_bind (wpAny_bind (wpAny_of_eq own_init ?_)); refine wpAny_bind (wpAny_of_eq ty_init ?_); refine wpAny_bind (wpAny_of_eq slot_wget.lookup ?_); dsimp only)
    | (simp only [hn, hne, Bool.or_false, Bool.false_eq_true, if_false])
    | wp_step
    | dsimp only)
  refine codeAny_call_builtin (by decide +kernel) entry_wget (wpAny_of_eq (check_wget _ _) ?_)
  unfold Builtin.«wrapper_descriptor.__get__»
  repeat (first | (with_reducible refine wpAny_loadPart_at hx ?_; rw [hxc]) | (with_reducible refine wpAny_isSubtype_exc hC ?_) | wp_step)
  exact hq
theorem super_getMethod {pl : Sem Bool} {Q : Value × List Value → Shared → Prop} {ox : Obj} (hC : h.get? C = some (excClassObj nm q C N bs bmX hdct sn sub ab col dd k0 k1 k2 k3 k5 newId)) (hx : h.get? x = some ox) (hxc : ox.cls = .ref C)
    (hso : h.get? so = some { cls := .type "super", dict := none, data := .fields #[.ref C, .ref x, .ref C], slots := #[] }) (hno : Looks (model prog w) h (opaqueClassAbove (.ref C)) none) (hxC : x ≠ C)
    (hq : Q (.ref h.objs.size, []) ⟨h.push { cls := .type "method-wrapper", data := .fields #[.builtin "Exception.__init__", .ref x] }, g, d, t + 1, os⟩) :
    wpAny (model prog w) A (getMethod (.ref so) "__init__" pl) Q E ⟨h, g, d, t, os⟩ := by
  have hlk := F.ks_slot_super_ga.lookup
  have hcan := F.ks_canon_super_ga
  have hT : ∀ t', (⟨h, g, d, t', os⟩ : Shared).TypeIs (.ref so) "super" := fun _ => ⟨_, hso, rfl⟩
  unfold getMethod
  refine wpAny_bind (wpAny_specialOf (hT _) hlk ?_)
  show wpAny _ _ (if (Manifest.canonical "super.__getattribute__" != "object.__getattribute__") = true then _ else _) _ _ _
  rw [if_pos hcan]
  unfold getAttr getAttrBy
  refine wpAny_bind (wpAny_bind (wpAny_mkText (wpAny_holding (wpAny_bind (wpAny_typeOf (hT _) (wpAny_bind (wpAny_of_eq hlk ?_)))))))
  show wpAny _ _ (getAttrByItsOwn (.ref so) (.str "__init__" t) (.type "super") (.builtin "super.__getattribute__") true false) _ _ _
  unfold getAttrByItsOwn hookBefore callGetattribute boundAndCalled
  refine wpAny_bind (wpAny_of_eq (show (if onTheHeap (.type "super") then typeLookup (.type "super") "__getattr__" else pure none) = pure none from rfl) ?_)
  refine wpAny_bind (wpAny_attempt (wpAny_holding ?_))
  show wpAny _ _ (bindSpecial (.builtin "super.__getattribute__") (.ref so) >>= _) _ _ _
  refine wpAny_bind (wpAny_of_eq (F.ks_slot_super_ga.bind _) ?_)
  refine wpAny_mono (Q := fun v s' => v = .ref h.objs.size ∧ s' = ⟨h.push { cls := .type "method-wrapper", data := .fields #[.builtin "Exception.__init__", .ref x] }, g, d, t + 1, os⟩) (E := fun _ _ => False)
    (wpAny_call_entry F.ks_slot_super_ga (hT _) F.ks_entry_super_ga (super_ga hC hx hxc hso hno hxC ⟨_, rfl, rfl, rfl⟩) (F.ks_gaArgs_super _ _)) (fun v s' hv => ?_) fun _ _ z => z.elim
  obtain ⟨rfl, rfl⟩ := hv
  exact wpAny_pure (wpAny_pure hq)

end
end Mine
end
section
open PySem PySem.W PySem.Calls PyProof.Rows
namespace Mine
section
variable {prog : Program} {w : World} {A : Around} {E : Value → Shared → Prop} {h : Heap} {g : Array GenState} {d : Drawn} {t : Nat} {os : OsState}
variable {nm q : Str} {C N x so : Addr} {bs : List Value} {hdct : Bool} {sn : List Str} {sub : List Value} {ab : Bool} {col : Option Bool} {dd : Option Addr} {k0 k1 k2 k3 k5 : Option Value} {newId : String}
/-- super().__init__ 's call -/
theorem call_wrapper {v : Value} {b : Addr} {Q : Value → Shared → Prop} {ox : Obj} {vs : Array Value} {t0 : Addr} (hC : h.get? C = some (excClassObj nm q C N bs bmX hdct sn sub ab col dd k0 k1 k2 k3 k5 newId)) (hx : h.get? x = some ox) (hxc : ox.cls = .ref C)
    (hxd : ox.data = .fields vs) (hv0 : vs[0]? = some (.ref t0))
    (hb : h.get? b = some { cls := .type "method-wrapper", data := .fields #[.builtin "Exception.__init__", .ref x] })
    (hq : Q .none ⟨(h.push { cls := .type "tuple", data := .seq #[v] }).update x (Obj.mapFields (·.setIfInBounds 0 (.ref h.objs.size))), g, d, t, os⟩) :
    wpAny (model prog w) A (call (.ref b) [v]) Q E ⟨h, g, d, t, os⟩ := by
  refine wpAny_call (codeAny_of_tree ?_)
  show wpAny _ A.in1 (callAny (.ref b) _) _ _ _
  unfold callAny checkBoundCall
  repeat (first | (with_reducible refine wpAny_loadPart_at hx ?_; rw [hxc]) | (with_reducible refine wpAny_isSubtype_exc hC ?_) | (with_reducible refine wpAny_load hb ?_)  | wp_step)
  refine ⟨plainId_quiet F.excBase_Exception.init.plain _, codeAny_builtin F.excBase_Exception.initEntry ?_⟩
  show wpAny _ _ (Builtin.«BaseException.__init__» ⟨[.ref x, v], []⟩) _ _ _
  unfold Builtin.«BaseException.__init__»
  dsimp only
  rw [if_neg (by simp)]
  unfold newTuple Builtin.BaseException.bexcPut
  have hvs : 0 < vs.size := (Array.getElem?_eq_some_iff.mp hv0).1
  have he₁ := Heap.get?_push_of_some (h := h) { cls := .type "tuple", data := .seq #[v] } hx
  refine wpAny_bind (wpAny_newObj_type (wpAny_bind (wpAny_bind (wpAny_field he₁ hxd hv0 (wpAny_bind (wpAny_setField he₁ hxd hvs ?_))))) (by show (#[v] : Array Value).size ≤ sizeLine; rw [sizeLine_eq]; simp))
  refine wpAny_letGo ?_
  exact wpAny_pure hq
end
end Mine
end
section
open PySem PySem.W PySem.Calls PyProof.Rows
namespace Mine
theorem bm_what : typeLookup (.type "Exception") "what" = pure none := by rw [typeLookup_type, builtinLookup_eq_fast]; kernel_rfl

def initScope : Scope := { kind := .function, names := [(Str.ofString "self", .local), (Str.ofString "what", .local), (Str.ofString "__class__", .free), (Str.ofString "super", .globalImplicit)], isGenerator := false, isCoroutine := false }
abbrev initBody : List Stmt :=
  [.Expr (.Call (.Attribute (.Call (.Name "super" { line := 5, col := 8, endLine := 5, endCol := 13 }) [] [] { line := 5, col := 8, endLine := 5, endCol := 15 }) "__init__" { line := 5, col := 8, endLine := 5, endCol := 24 }) [.Name "what" { line := 5, col := 25, endLine := 5, endCol := 29 }] [] { line := 5, col := 8, endLine := 5, endCol := 30 }) { line := 5, col := 8, endLine := 5, endCol := 30 }, .Assign [.Attribute (.Name "self" { line := 6, col := 8, endLine := 6, endCol := 12 }) "what" { line := 6, col := 8, endLine := 6, endCol := 17 }] (.Name "what" { line := 6, col := 20, endLine := 6, endCol := 24 }) { line := 6, col := 8, endLine := 6, endCol := 24 }]
abbrev initParams : Arguments := { posonlyargs := [], args := [{ arg := Str.ofString "self", annotation := none, pos := { line := 4, col := 17, endLine := 4, endCol := 21 } }, { arg := Str.ofString "what", annotation := none, pos := { line := 4, col := 23, endLine := 4, endCol := 27 } }], vararg := none, kwonlyargs := [], kw_defaults := [], kwarg := none, defaults := [] }

theorem callWith_wrap {M : Model} {A : Around} {E : Value → Shared → Prop} {s : Shared} {env : Env} {pos : Pos} {b : Addr} {f g : Value} {e : Expr} {rest : List Expr} {Q : Value → Shared → Prop}
    (h : wpAny M A (spliced (backTo pos (starEach (e :: rest) env))) (fun vs s₁ => s₁.heap.get? b = some { cls := .type "method-wrapper", data := .fields #[f, g] } ∧ wpAny M A (call (.ref b) vs) Q E s₁) E s)
    (he : starEach (e :: rest) env = (false, eval e env) :: starEach rest env := by rfl)
    (hplain : (backTo pos (starEach rest env)).any (·.1) = false := by rfl) :
    wpAny M A (callWith pos (.ref b) [] (backTo pos (starEach (e :: rest) env)) []) Q E s := by
  rw [he] at h ⊢
  unfold callWith
  refine wpAny_bind (wpAny_holding (evalArgs_plain (wpAny_mono h (fun vs s₁ h₁ => ?_) fun _ _ x => x)))
  obtain ⟨hb, h₁⟩ := h₁
  refine wpAny_bind (wpAny_standAt ?_)
  have hp : ((backTo pos ((false, eval e env) :: starEach rest env)).any (·.1) || ([] : List (Option Str × Sem Value)).any (·.1.isNone)) = false := by
    show (false || (backTo pos (starEach rest env)).any (·.1) || false) = false
    rw [hplain]; rfl
  unfold keeperOf
  repeat (first | (with_reducible refine wpAny_load hb ?_) | wp_step)
  rw [hp]
  exact wpAny_bind (wpAny_mono h₁ (fun r s₂ h₂ => wpAny_bind (wpAny_holding (wpAny_point (wpAny_pure h₂)))) fun _ _ x => x)

/-- the class SmtError in the ground -/
structure Smt (c : Cx) (C N fI cc cda : Addr) (mN : Str → Option Value) (qual : Str) (doc pm ct : Value) : Prop where
  name : c.mg "SmtError" = some (.ref C)
  cls : ∃ nm q bs sn sub ab col dd k0 k1 k2 k3 k5, c.base.get? C = some (excClassObj nm q C N bs bmX true sn sub ab col dd k0 k1 k2 k3 k5 "Exception.__new__")
  ns : c.base.Ns N mN
  init : mN "__init__" = some (.ref fI)
  what : mN "what" = none
  sa : mN "__setattr__" = none
  fn : ∃ o, c.base.get? fI = some o ∧ o.data = .func (fnX "__init__" qual initParams initBody initScope [(Str.ofString "__class__", cc)] .none .none doc pm none (.ref cda) ct) ∧ o.cls = .type "function"
  crec : c.base.CodeRec (.ref cda) qual
  cell : c.base.IsCell cc (some (.ref C))
  file : ∃ o vs file tf, c.base.get? cda = some o ∧ o.data = .fields vs ∧ vs[2]? = some (.str file tf) ∧ ((c.prog.main.file : Str) == file) = true
  opq : Looks (model c.prog c.w) c.base (opaqueClassAbove (.ref C)) none
  top : (c.prog.main.scope.names.lookup ("super" : Str)).isSome = false
  noSuper : c.mg "super" = none
  isSuper : c.mb "super" = some (.type "super")

section
variable {c : Cx} {C N fI cc cda : Addr} {mN : Str → Option Value} {qual : Str} {doc pm ct : Value}
theorem init_run (H : Smt c C N fI cc cda mN qual  doc pm ct) {A : Around} {h : Heap} {g : Array GenState} {d : Drawn} {t : Nat} {os : OsState} {x t0 : Addr} {v : Value} {ox : Obj} {vs : Array Value} {R : Result → Shared → Prop}
    (hroom : A.depth < recursionLimit) (hG : c.base.StaysIn h) (hK : c.B c.base) (hx : h.get? x = some ox) (hx0 : c.base.get? x = none) (hxc : ox.cls = .ref C) (hxd : ox.data = .fields vs) (hv0 : vs[0]? = some (.ref t0)) (hxn : ox.dict = none)
    (hR : ∀ h' tk, (∀ b o, b ≠ x → h.get? b = some o → h'.get? b = some o) → (∃ o' tp, h'.get? x = some o' ∧ o'.cls = .ref C ∧ o'.data = .fields (vs.setIfInBounds 0 (.ref tp))) → R (.ok (.ret .none)) ⟨h', g, d, tk, os⟩) :
    codeAny (model c.prog c.w) A (.call (.ref fI) ⟨[.ref x, v], []⟩) R ⟨h, g, d, t, os⟩ := by
  obtain ⟨nm, q, bs, sn, sub, ab, col, dd, k0, k1, k2, k3, k5, hC⟩ := H.cls
  obtain ⟨oF, hF, hFd, _⟩ := H.fn
  obtain ⟨oc, cvs, file, tf, hcc, hcd, hc2, hcf⟩ := H.file
  have hxC : x ≠ C := fun z => by rw [z, hC] at hx0; cases hx0
  refine ks_codeAny_call_defAt (binds := [(Str.ofString "self", .ref x), (Str.ofString "what", v)]) hroom (hG _ _ hF) hFd (hK.top.nolimit.keeps hG) (H.crec.keeps hG) rfl (BindsTo.of_eq rfl) (show ∀ x ∈ initScope.names, x.2 ≠ .cell by decide) (locs rfl) (fun h₀ hns hk₀ => ?_)
  have hG₀ : c.base.StaysIn h₀ := fun b o e => hk₀ b o (hG b o e)
  have T₀ := hK.top
  have ns_self : (fun y => (([(Str.ofString "self", Value.ref x), (Str.ofString "what", v)] : List (Str × Value)).reverse).lookup y) (Str.ofString "self") = some (.ref x) := by rfl
  have ns_what : (fun y => (([(Str.ofString "self", Value.ref x), (Str.ofString "what", v)] : List (Str × Value)).reverse).lookup y) (Str.ofString "what") = some v := by rfl
  refine ks_wpAt_execs_cons (ks_wpAt_Expr_any (ks_wpAt_MethodCall ?_ (by rfl)) (by rfl) (by rfl))
  refine ks_wpAt_super_base (f := fI) (cc := cda) (by rfl) (by rfl) (by decide) rfl (hG₀ _ _ hF) hFd rfl rfl (hG₀ _ _ hcc) hcd hc2 hcf H.top ?_
  refine ks_loadName_global rfl (by rfl) (loadGlobal_builtin (T₀.g.keeps hG₀) H.noSuper (T₀.b.keeps hG₀) H.isSuper ⟨rfl, ?_⟩)
  refine wpAny_loadName_free rfl (by rfl) (by rfl) (H.cell.keeps hG₀) ?_
  refine wpAny_loadName_local rfl (by rfl) hns ns_self ?_
  refine ks_wpAny_isType_cls (hG₀ _ _ hC) rfl ⟨rfl, ?_⟩
  have hx₀ := hk₀ _ _ hx
  have hcC : (Value.ref C :: bmX).contains (.ref C) = true := by simp
  have hsub : Looks (model c.prog c.w) h₀ (isSubtype (.ref C) (.ref C)) true := fun A Q E s k q => by
    obtain ⟨hp, g, d, t, os⟩ := s
    refine wpAny_isSubtype_exc (k _ _ (hG₀ _ _ hC)) ?_
    rw [hcC]; exact q
  refine ks_wpAny_call_super (hG₀ _ _ hC) rfl hx₀ hxc (fun cd e => by rw [hxd] at e; cases e) hsub fun h₁ hso hk₁ => ?_
  refine super_getMethod (hk₁ _ _ (hG₀ _ _ hC)) (hk₁ _ _ hx₀) hxc hso ((H.opq.keeps hG₀).keeps hk₁) hxC ?_
  generalize hH : h₁.push { cls := Value.type "method-wrapper", data := Data.fields #[Value.builtin "Exception.__init__", Value.ref x] } = H1
  have k1 : ∀ b o, h₁.get? b = some o → H1.get? b = some o := fun b o e => hH ▸ Heap.get?_push_of_some _ e
  have hw : H1.get? h₁.objs.size = some { cls := Value.type "method-wrapper", data := Data.fields #[Value.builtin "Exception.__init__", Value.ref x] } := hH ▸ Heap.get?_push_size _ rfl
  have k01 : ∀ b o, h₀.get? b = some o → H1.get? b = some o := fun b o e => k1 b o (hk₁ b o e)
  refine callWith_wrap (PyProof.Rows.args_cons (wpAny_Name (wpAny_loadName_local rfl (by rfl) (hns.keeps k01) ns_what (PyProof.Rows.args_nil ⟨hw, ?_⟩)) (by decide)))
  refine call_wrapper (k01 _ _ (hG₀ _ _ hC)) (k01 _ _ hx₀) hxc hxd hv0 hw ?_
  generalize hH2 : (H1.push { cls := Value.type "tuple", data := Data.seq #[v] }).update x (Obj.mapFields fun y => y.setIfInBounds 0 (Value.ref H1.objs.size)) = H2
  have k12 : ∀ b o, b ≠ x → H1.get? b = some o → H2.get? b = some o := fun b o hb e => hH2 ▸ (Heap.get?_update_ne _ _ _ _ hb).trans (Heap.get?_push_of_some _ e)
  have hx2 : H2.get? x = some (Obj.mapFields (fun y => y.setIfInBounds 0 (Value.ref H1.objs.size)) ox) := by
    rw [← hH2]
    exact Heap.get?_update_self _ (Heap.get?_push_of_some _ (k01 _ _ hx₀)) (Obj.isFreed_of_fields (Obj.data_mapFields hxd _))
  have hxc2 := (Obj.cls_mapFields ox (fun y => y.setIfInBounds 0 (Value.ref H1.objs.size))).trans hxc
  have hxd2 := Obj.data_mapFields hxd (fun y => y.setIfInBounds 0 (Value.ref H1.objs.size))
  have hLx : h.objs.size ≠ x := Nat.ne_of_gt (Heap.lt_size hx)
  have hG2 : c.base.StaysIn H2 := fun b o e => k12 b o (fun z => by rw [z, hx0] at e; cases e) (k01 _ _ (hG₀ _ _ e))
  have hns2 : H2.Ns h.objs.size (fun y => (([(Str.ofString "self", Value.ref x), (Str.ofString "what", v)] : List (Str × Value)).reverse).lookup y) := by
    obtain ⟨o, es, ep, ho, r⟩ := hns
    exact ⟨o, es, ep, k12 _ _ hLx (k01 _ _ ho), r⟩
  refine ks_wpAt_execs_cons (ks_wpAt_Assign_Attr ?_ (by rfl))
  refine wpAt_of_wpAny (wpAny_Name (wpAny_loadName_local rfl (by rfl) hns2 ns_what ?_) (by decide))
  refine wpAny_Name (wpAny_loadName_local rfl (by rfl) hns2 ns_self ?_) (by decide)
  have hn : (Obj.mapFields (fun y => y.setIfInBounds 0 (Value.ref H1.objs.size)) ox).dict = none := by
    unfold Obj.mapFields
    split <;> exact hxn
  refine store_attr (mA := fun _ => none) PySem.F.store_Exception (hG2 _ _ hC) (H.ns.keeps hG2) H.sa H.what bm_what hxC ⟨_, hx2, hxc2, (fun cd e => by rw [hxd2] at e; cases e), .inl ⟨hn, fun _ => rfl⟩⟩ (fun h' tk' I' hk' hs' => ?_)
  obtain ⟨o₁, e1, e2, e3, _⟩ := hs' _ hx2
  refine wpAt_of_wpAny (wpAny_execs_nil ?_)
  refine hR h' _ (fun b o hb e => hk' b o hb (fun o₀ dx q1 q2 => ?_) (k12 b o hb (k01 _ _ (hk₀ _ _ e)))) ⟨o₁, _, e1, e2.trans hxc2, e3.trans hxd2⟩
  rw [hx2] at q1; cases q1
  rw [hn] at q2; cases q2
end
end Mine
end
section
open PySem PySem.W PySem.Calls PyProof.Rows
namespace Mine
abbrev pw : Program := PySem.Challenge.pw_no0004_01
abbrev qS (x : String) : Str := Str.ofString x
def clsBody : List Stmt := match (pw.main.body[1]? : Option Stmt) with
  | some (.ClassDef _ _ _ b _ _ _ _ _ _ _) => b
  | _ => []
/-- the parts of the def at i of the text; from 100 on those of the class -/
def defAt (i : Nat) : Option Stmt := if Nat.ble 100 i then clsBody[i - 100]? else pw.main.body[i]?
def pA (i : Nat) : Arguments := match defAt i with
  | some (.FunctionDef _ a _ _ _ _ _ _ _ _) => a
  | _ => ⟨[], [], none, [], [], none, []⟩
def pB (i : Nat) : List Stmt := match defAt i with
  | some (.FunctionDef _ _ b _ _ _ _ _ _ _) => b
  | _ => []
def pS (i : Nat) : Scope := match defAt i with
  | some (.FunctionDef _ _ _ _ _ _ s _ _ _) => s
  | _ => ⟨.module, [], false, false, []⟩
def env0 : Env := { scope := pw.main.scope, locals := mainNs, globals := mainNs, cells := [], code := .ref 13, frame := some 14 }
def bodyC : Code := .body (behindTheImports pw) env0
abbrev frames0 : List Frame := [topFrame ⟨0, 0, 0, 0⟩]
def grp (a k : Nat) : List Stmt := ((behindTheImports pw).drop a).take k
noncomputable def o11 (P : Params) : Obj := ⟨(.type "tuple"), none, (.seq ⟨[]⟩ 0), ⟨[]⟩⟩
noncomputable def o12 (P : Params) : Obj := ⟨.none, none, (.fields ⟨[]⟩), ⟨[]⟩⟩
noncomputable def o13 (P : Params) : Obj := ⟨(.type "code"), none, (.fields ⟨[(.str (qS "<module>") 182), (.str (qS "<module>") 183), (.str (qS "/claim/cut.py") 184), (.int 1 0), (.int 0 0), (.int 0 0), (.int 0 0), (.int 0 0), (.ref 11), (.bool false), (.int 181 0), (.ref 12), .none, .none, .none, .none, (.int 185 0), (.int 1 0), (.str (qS "/claim/cut.py") 186)]⟩), ⟨[]⟩⟩
noncomputable def o14 (P : Params) : Obj := ⟨(.type "frame"), none, .plain, ⟨[(some (.ref 13)), (some (.ref 3)), (some (.ref 3)), none, (some (.str (qS "__main__") 164)), none, (some (.ref 0))]⟩⟩
noncomputable def hpA (P : Params) : Heap := ⟨⟨[boot_o_0 P, boot_o_1 P, boot_o_2 P, boot_o_3 P, boot_o_4 P, boot_o_5 P, boot_o_6 P, boot_o_7 P, boot_o_8 P, boot_o_9 P, boot_o_10 P, o11 P, o12 P, o13 P, o14 P]⟩, {}⟩
noncomputable def tr0 (P : Params) : BT := (.node (boot_o_0 P) (.node (boot_o_1 P) (.node (boot_o_3 P) (.node (boot_o_7 P) .nil .nil) (.node (o11 P) .nil .nil)) (.node (boot_o_5 P) (.node (boot_o_9 P) .nil .nil) (.node (o13 P) .nil .nil))) (.node (boot_o_2 P) (.node (boot_o_4 P) (.node (boot_o_8 P) .nil .nil) (.node (o12 P) .nil .nil)) (.node (boot_o_6 P) (.node (boot_o_10 P) .nil .nil) (.node (o14 P) .nil .nil))))
noncomputable def o3v1 (P : Params) : Obj := ⟨(.type "dict"), none, (.dict ⟨[⟨(PyData.keyHash P (qS "__name__")), (.str (qS "__name__") 165), (.str (qS "minismt.errors") 187)⟩, ⟨(PyData.keyHash P (qS "__doc__")), (.str (qS "__doc__") 166), .none⟩, ⟨(PyData.keyHash P (qS "__package__")), (.str (qS "__package__") 167), .none⟩, ⟨(PyData.keyHash P (qS "__loader__")), (.str (qS "__loader__") 168), (.builtin "__main__.__loader__#opaque")⟩, ⟨(PyData.keyHash P (qS "__spec__")), (.str (qS "__spec__") 169), .none⟩, ⟨(PyData.keyHash P (qS "__annotations__")), (.str (qS "__annotations__") 170), (.ref 6)⟩, ⟨(PyData.keyHash P (qS "__builtins__")), (.str (qS "__builtins__") 171), (.ref 4)⟩, ⟨(PyData.keyHash P (qS "__file__")), (.str (qS "__file__") 173), (.str (qS "/claim/cut.py") 172)⟩, ⟨(PyData.keyHash P (qS "__cached__")), (.str (qS "__cached__") 174), .none⟩]⟩ 9), ⟨[]⟩⟩
noncomputable def tr1 (P : Params) : BT := (.node (boot_o_0 P) (.node (boot_o_1 P) (.node (o3v1 P) (.node (boot_o_7 P) .nil .nil) (.node (o11 P) .nil .nil)) (.node (boot_o_5 P) (.node (boot_o_9 P) .nil .nil) (.node (o13 P) .nil .nil))) (.node (boot_o_2 P) (.node (boot_o_4 P) (.node (boot_o_8 P) .nil .nil) (.node (o12 P) .nil .nil)) (.node (boot_o_6 P) (.node (boot_o_10 P) .nil .nil) (.node (o14 P) .nil .nil))))
noncomputable def o2v1 (P : Params) : Obj := ⟨.none, none, (.dict ⟨[⟨(PyData.keyHash P (qS "type.__subclasses__.Exception.0")), (.str (qS "type.__subclasses__.Exception.0") 223), (.int 40 0)⟩, ⟨(PyData.keyHash P (qS "type.__subclasses__.Exception.n")), (.str (qS "type.__subclasses__.Exception.n") 224), (.int 1 0)⟩]⟩ 2), ⟨[]⟩⟩
noncomputable def o3v2 (P : Params) : Obj := ⟨(.type "dict"), none, (.dict ⟨[⟨(PyData.keyHash P (qS "__name__")), (.str (qS "__name__") 165), (.str (qS "minismt.errors") 187)⟩, ⟨(PyData.keyHash P (qS "__doc__")), (.str (qS "__doc__") 166), .none⟩, ⟨(PyData.keyHash P (qS "__package__")), (.str (qS "__package__") 167), .none⟩, ⟨(PyData.keyHash P (qS "__loader__")), (.str (qS "__loader__") 168), (.builtin "__main__.__loader__#opaque")⟩, ⟨(PyData.keyHash P (qS "__spec__")), (.str (qS "__spec__") 169), .none⟩, ⟨(PyData.keyHash P (qS "__annotations__")), (.str (qS "__annotations__") 170), (.ref 6)⟩, ⟨(PyData.keyHash P (qS "__builtins__")), (.str (qS "__builtins__") 171), (.ref 4)⟩, ⟨(PyData.keyHash P (qS "__file__")), (.str (qS "__file__") 173), (.str (qS "/claim/cut.py") 172)⟩, ⟨(PyData.keyHash P (qS "__cached__")), (.str (qS "__cached__") 174), .none⟩, ⟨(PyData.keyHash P (qS "SmtError")), (.str (qS "SmtError") 226), (.ref 40)⟩]⟩ 10), ⟨[]⟩⟩
noncomputable def o12v1 (P : Params) : Obj := ⟨.none, none, (.fields ⟨[(.int 2 0), (.int 0 0), (.ref 21)]⟩), ⟨[]⟩⟩
noncomputable def o15 (P : Params) : Obj := ⟨(.type "tuple"), none, (.seq ⟨[(.type "Exception")]⟩ 0), ⟨[]⟩⟩
noncomputable def o16 (P : Params) : Obj := ⟨(.type "builtin_function_or_method"), none, (.fields ⟨[(.builtin "type.__prepare__"), (.type "type")]⟩), ⟨[]⟩⟩
noncomputable def o17 (P : Params) : Obj := ⟨(.type "dict"), none, (.dict ⟨[⟨(PyData.keyHash P (qS "__module__")), (.str (qS "__module__") 196), (.str (qS "minismt.errors") 187)⟩, ⟨(PyData.keyHash P (qS "__qualname__")), (.str (qS "__qualname__") 198), (.str (qS "SmtError") 197)⟩, ⟨(PyData.keyHash P (qS "__firstlineno__")), (.str (qS "__firstlineno__") 200), (.int 2 199)⟩, ⟨(PyData.keyHash P (qS "__init__")), (.str (qS "__init__") 209), (.ref 30)⟩, ⟨(PyData.keyHash P (qS "told")), (.str (qS "told") 216), (.ref 37)⟩, ⟨(PyData.keyHash P (qS "__static_attributes__")), (.str (qS "__static_attributes__") 218), (.ref 38)⟩, ⟨(PyData.keyHash P (qS "__classcell__")), (.str (qS "__classcell__") 219), (.ref 18)⟩]⟩ 7), ⟨[]⟩⟩
noncomputable def o18 (P : Params) : Obj := ⟨(.type "cell"), none, (.cell (some (.ref 40))), ⟨[]⟩⟩
noncomputable def o19 (P : Params) : Obj := ⟨(.type "tuple"), none, (.seq ⟨[]⟩ 0), ⟨[]⟩⟩
noncomputable def o20 (P : Params) : Obj := ⟨.none, none, (.fields ⟨[(.int 4 0), (.int 4 0), (.ref 29), (.int 8 0), (.int 4 0), (.ref 36)]⟩), ⟨[]⟩⟩
noncomputable def o21 (P : Params) : Obj := ⟨(.type "code"), none, (.fields ⟨[(.str (qS "SmtError") 191), (.str (qS "SmtError") 192), (.str (qS "/claim/cut.py") 193), (.int 2 0), (.int 0 0), (.int 0 0), (.int 0 0), (.int 0 0), (.ref 19), (.bool false), (.int 181 0), (.ref 20), .none, .none, .none, .none, (.int 194 0), (.int 2 0), (.str (qS "/claim/cut.py") 195)]⟩), ⟨[]⟩⟩
noncomputable def o22 (P : Params) : Obj := ⟨(.type "frame"), none, .plain, ⟨[(some (.ref 21)), (some (.ref 3)), (some (.ref 17)), none, (some (.str (qS "minismt.errors") 187)), none, (some (.ref 0))]⟩⟩
noncomputable def o23 (P : Params) : Obj := ⟨(.type "tuple"), none, (.seq ⟨[(.ref 18)]⟩ 0), ⟨[]⟩⟩
noncomputable def o24 (P : Params) : Obj := ⟨(.type "tuple"), none, (.seq ⟨[(.str (qS "__class__") 204)]⟩ 0), ⟨[]⟩⟩
noncomputable def o25 (P : Params) : Obj := ⟨.none, none, (.fields ⟨[]⟩), ⟨[]⟩⟩
noncomputable def o26 (P : Params) : Obj := ⟨(.type "tuple"), none, (.seq ⟨[(.str (qS "self") 205), (.str (qS "what") 206)]⟩ 0), ⟨[]⟩⟩
noncomputable def o27 (P : Params) : Obj := ⟨(.type "tuple"), none, (.seq ⟨[]⟩ 0), ⟨[]⟩⟩
noncomputable def o28 (P : Params) : Obj := ⟨.none, none, (.func ⟨(qS "__init__"), (qS "SmtError.__init__"), pA (100 + 0), .stmts (pB (100 + 0)), pS (100 + 0), 0, [], .none, .none, .none, .none, none, .none, .none, 0⟩), ⟨[]⟩⟩
noncomputable def o29 (P : Params) : Obj := ⟨(.type "code"), none, (.fields ⟨[(.str (qS "__init__") 201), (.str (qS "SmtError.__init__") 202), (.str (qS "/claim/cut.py") 203), (.int 4 0), (.int 2 0), (.int 0 0), (.int 0 0), (.int 3 0), (.ref 24), (.bool true), (.int 181 0), (.ref 25), .none, (.ref 26), (.ref 27), (.ref 28), (.int 207 0), (.int 4 0), (.str (qS "/claim/cut.py") 208)]⟩), ⟨[]⟩⟩
noncomputable def o30 (P : Params) : Obj := ⟨(.type "function"), none, (.func ⟨(qS "__init__"), (qS "SmtError.__init__"), pA (100 + 0), .stmts (pB (100 + 0)), pS (100 + 0), 3, [((qS "__class__"), 18)], .none, .none, .none, (.str (qS "minismt.errors") 187), none, (.ref 29), (.ref 23), 0⟩), ⟨[]⟩⟩
noncomputable def o31 (P : Params) : Obj := ⟨(.type "tuple"), none, (.seq ⟨[]⟩ 0), ⟨[]⟩⟩
noncomputable def o32 (P : Params) : Obj := ⟨.none, none, (.fields ⟨[]⟩), ⟨[]⟩⟩
noncomputable def o33 (P : Params) : Obj := ⟨(.type "tuple"), none, (.seq ⟨[(.str (qS "self") 213)]⟩ 0), ⟨[]⟩⟩
noncomputable def o34 (P : Params) : Obj := ⟨(.type "tuple"), none, (.seq ⟨[]⟩ 0), ⟨[]⟩⟩
noncomputable def o35 (P : Params) : Obj := ⟨.none, none, (.func ⟨(qS "told"), (qS "SmtError.told"), pA (100 + 1), .stmts (pB (100 + 1)), pS (100 + 1), 0, [], .none, .none, .none, .none, none, .none, .none, 0⟩), ⟨[]⟩⟩
noncomputable def o36 (P : Params) : Obj := ⟨(.type "code"), none, (.fields ⟨[(.str (qS "told") 210), (.str (qS "SmtError.told") 211), (.str (qS "/claim/cut.py") 212), (.int 8 0), (.int 1 0), (.int 0 0), (.int 0 0), (.int 3 0), (.ref 31), (.bool true), (.int 181 0), (.ref 32), .none, (.ref 33), (.ref 34), (.ref 35), (.int 214 0), (.int 8 0), (.str (qS "/claim/cut.py") 215)]⟩), ⟨[]⟩⟩
noncomputable def o37 (P : Params) : Obj := ⟨(.type "function"), none, (.func ⟨(qS "told"), (qS "SmtError.told"), pA (100 + 1), .stmts (pB (100 + 1)), pS (100 + 1), 3, [], .none, .none, .none, (.str (qS "minismt.errors") 187), none, (.ref 36), .none, 0⟩), ⟨[]⟩⟩
noncomputable def o38 (P : Params) : Obj := ⟨(.type "tuple"), none, (.seq ⟨[(.str (qS "what") 217)]⟩ 0), ⟨[]⟩⟩
noncomputable def o39 (P : Params) : Obj := ⟨(.type "dict"), none, (.dict ⟨[⟨(PyData.keyHash P (qS "__module__")), (.str (qS "__module__") 196), (.str (qS "minismt.errors") 187)⟩, ⟨(PyData.keyHash P (qS "__firstlineno__")), (.str (qS "__firstlineno__") 200), (.int 2 199)⟩, ⟨(PyData.keyHash P (qS "__init__")), (.str (qS "__init__") 209), (.ref 30)⟩, ⟨(PyData.keyHash P (qS "told")), (.str (qS "told") 216), (.ref 37)⟩, ⟨(PyData.keyHash P (qS "__static_attributes__")), (.str (qS "__static_attributes__") 218), (.ref 38)⟩, ⟨(PyData.keyHash P (qS "__weakref__")), (.str (qS "__weakref__") 221), (.ref 41)⟩, ⟨(PyData.keyHash P (qS "__doc__")), (.str (qS "__doc__") 222), .none⟩]⟩ 4), ⟨[]⟩⟩
noncomputable def o40 (P : Params) : Obj := ⟨(.type "type"), none, (.cls ⟨(qS "SmtError"), [(.type "Exception")], [(.ref 40), (.type "Exception"), (.type "BaseException"), (.type "object")], 39, (qS "SmtError"), true, [], [], false, none, false⟩), ⟨[(some (.ref 15)), none, (some (.str (qS "SmtError") 189)), (some (.str (qS "SmtError") 197)), (some (.builtin "Exception.__new__")), (some (.bool true))]⟩⟩
noncomputable def o41 (P : Params) : Obj := ⟨(.type "getset_descriptor"), none, (.fields ⟨[(.str (qS "__weakref__") 220), (.ref 40), (.builtin "ExceptionGroup.__weakref__"), .none]⟩), ⟨[]⟩⟩
noncomputable def o42 (P : Params) : Obj := ⟨(.type "super"), none, (.fields ⟨[(.ref 40), (.ref 40), (.ref 40)]⟩), ⟨[]⟩⟩
noncomputable def o43 (P : Params) : Obj := ⟨(.type "builtin_function_or_method"), none, (.fields ⟨[(.builtin "object.__init_subclass__"), (.ref 40)]⟩), ⟨[]⟩⟩
noncomputable def tr2 (P : Params) : BT := (.node (boot_o_0 P) (.node (boot_o_1 P) (.node (o3v2 P) (.node (boot_o_7 P) (.node (o15 P) (.node (o31 P) .nil .nil) .nil) (.node (o23 P) (.node (o39 P) .nil .nil) .nil)) (.node (o11 P) (.node (o19 P) (.node (o35 P) .nil .nil) .nil) (.node (o27 P) (.node (o43 P) .nil .nil) .nil))) (.node (boot_o_5 P) (.node (boot_o_9 P) (.node (o17 P) (.node (o33 P) .nil .nil) .nil) (.node (o25 P) (.node (o41 P) .nil .nil) .nil)) (.node (o13 P) (.node (o21 P) (.node (o37 P) .nil .nil) .nil) (.node (o29 P) .nil .nil)))) (.node (o2v1 P) (.node (boot_o_4 P) (.node (boot_o_8 P) (.node (o16 P) (.node (o32 P) .nil .nil) .nil) (.node (o24 P) (.node (o40 P) .nil .nil) .nil)) (.node (o12v1 P) (.node (o20 P) (.node (o36 P) .nil .nil) .nil) (.node (o28 P) .nil .nil))) (.node (boot_o_6 P) (.node (boot_o_10 P) (.node (o18 P) (.node (o34 P) .nil .nil) .nil) (.node (o26 P) (.node (o42 P) .nil .nil) .nil)) (.node (o14 P) (.node (o22 P) (.node (o38 P) .nil .nil) .nil) (.node (o30 P) .nil .nil)))))
noncomputable def o3v3 (P : Params) : Obj := ⟨(.type "dict"), none, (.dict ⟨[⟨(PyData.keyHash P (qS "__name__")), (.str (qS "__name__") 165), (.str (qS "minismt.ratios") 227)⟩, ⟨(PyData.keyHash P (qS "__doc__")), (.str (qS "__doc__") 166), .none⟩, ⟨(PyData.keyHash P (qS "__package__")), (.str (qS "__package__") 167), .none⟩, ⟨(PyData.keyHash P (qS "__loader__")), (.str (qS "__loader__") 168), (.builtin "__main__.__loader__#opaque")⟩, ⟨(PyData.keyHash P (qS "__spec__")), (.str (qS "__spec__") 169), .none⟩, ⟨(PyData.keyHash P (qS "__annotations__")), (.str (qS "__annotations__") 170), (.ref 6)⟩, ⟨(PyData.keyHash P (qS "__builtins__")), (.str (qS "__builtins__") 171), (.ref 4)⟩, ⟨(PyData.keyHash P (qS "__file__")), (.str (qS "__file__") 173), (.str (qS "/claim/cut.py") 172)⟩, ⟨(PyData.keyHash P (qS "__cached__")), (.str (qS "__cached__") 174), .none⟩, ⟨(PyData.keyHash P (qS "SmtError")), (.str (qS "SmtError") 226), (.ref 40)⟩, ⟨(PyData.keyHash P (qS "ZERO")), (.str (qS "ZERO") 231), (.ref 44)⟩, ⟨(PyData.keyHash P (qS "ONE")), (.str (qS "ONE") 234), (.ref 45)⟩, ⟨(PyData.keyHash P (qS "MINUS_ONE")), (.str (qS "MINUS_ONE") 238), (.ref 46)⟩, ⟨(PyData.keyHash P (qS "gcd_of")), (.str (qS "gcd_of") 246), (.ref 53)⟩, ⟨(PyData.keyHash P (qS "gcd_all")), (.str (qS "gcd_all") 255), (.ref 60)⟩, ⟨(PyData.keyHash P (qS "lcm_of")), (.str (qS "lcm_of") 263), (.ref 67)⟩, ⟨(PyData.keyHash P (qS "ratio")), (.str (qS "ratio") 272), (.ref 74)⟩]⟩ 17), ⟨[]⟩⟩
noncomputable def o12v2 (P : Params) : Obj := ⟨.none, none, (.fields ⟨[(.int 2 0), (.int 0 0), (.ref 21), (.int 14 0), (.int 0 0), (.ref 52), (.int 19 0), (.int 0 0), (.ref 59), (.int 26 0), (.int 0 0), (.ref 66), (.int 28 0), (.int 0 0), (.ref 73)]⟩), ⟨[]⟩⟩
noncomputable def o44 (P : Params) : Obj := ⟨(.type "tuple"), none, (.seq ⟨[(.int 0 229), (.int 1 230)]⟩ 0), ⟨[]⟩⟩
noncomputable def o45 (P : Params) : Obj := ⟨(.type "tuple"), none, (.seq ⟨[(.int 1 232), (.int 1 233)]⟩ 0), ⟨[]⟩⟩
noncomputable def o46 (P : Params) : Obj := ⟨(.type "tuple"), none, (.seq ⟨[(.int (-1) 236), (.int 1 237)]⟩ 0), ⟨[]⟩⟩
noncomputable def o47 (P : Params) : Obj := ⟨(.type "tuple"), none, (.seq ⟨[]⟩ 0), ⟨[]⟩⟩
noncomputable def o48 (P : Params) : Obj := ⟨.none, none, (.fields ⟨[]⟩), ⟨[]⟩⟩
noncomputable def o49 (P : Params) : Obj := ⟨(.type "tuple"), none, (.seq ⟨[(.str (qS "a") 242), (.str (qS "b") 243)]⟩ 0), ⟨[]⟩⟩
noncomputable def o50 (P : Params) : Obj := ⟨(.type "tuple"), none, (.seq ⟨[]⟩ 0), ⟨[]⟩⟩
noncomputable def o51 (P : Params) : Obj := ⟨.none, none, (.func ⟨(qS "gcd_of"), (qS "gcd_of"), pA 6, .stmts (pB 6), pS 6, 0, [], .none, .none, .none, .none, none, .none, .none, 0⟩), ⟨[]⟩⟩
noncomputable def o52 (P : Params) : Obj := ⟨(.type "code"), none, (.fields ⟨[(.str (qS "gcd_of") 239), (.str (qS "gcd_of") 240), (.str (qS "/claim/cut.py") 241), (.int 14 0), (.int 2 0), (.int 0 0), (.int 0 0), (.int 3 0), (.ref 47), (.bool true), (.int 181 0), (.ref 48), .none, (.ref 49), (.ref 50), (.ref 51), (.int 244 0), (.int 14 0), (.str (qS "/claim/cut.py") 245)]⟩), ⟨[]⟩⟩
noncomputable def o53 (P : Params) : Obj := ⟨(.type "function"), none, (.func ⟨(qS "gcd_of"), (qS "gcd_of"), pA 6, .stmts (pB 6), pS 6, 3, [], .none, .none, .none, (.str (qS "minismt.ratios") 227), none, (.ref 52), .none, 0⟩), ⟨[]⟩⟩
noncomputable def o54 (P : Params) : Obj := ⟨(.type "tuple"), none, (.seq ⟨[]⟩ 0), ⟨[]⟩⟩
noncomputable def o55 (P : Params) : Obj := ⟨.none, none, (.fields ⟨[]⟩), ⟨[]⟩⟩
noncomputable def o56 (P : Params) : Obj := ⟨(.type "tuple"), none, (.seq ⟨[(.str (qS "numbers") 250), (.str (qS "found") 251), (.str (qS "one") 252)]⟩ 0), ⟨[]⟩⟩
noncomputable def o57 (P : Params) : Obj := ⟨(.type "tuple"), none, (.seq ⟨[]⟩ 0), ⟨[]⟩⟩
noncomputable def o58 (P : Params) : Obj := ⟨.none, none, (.func ⟨(qS "gcd_all"), (qS "gcd_all"), pA 7, .stmts (pB 7), pS 7, 0, [], .none, .none, .none, .none, none, .none, .none, 0⟩), ⟨[]⟩⟩
noncomputable def o59 (P : Params) : Obj := ⟨(.type "code"), none, (.fields ⟨[(.str (qS "gcd_all") 247), (.str (qS "gcd_all") 248), (.str (qS "/claim/cut.py") 249), (.int 19 0), (.int 1 0), (.int 0 0), (.int 0 0), (.int 3 0), (.ref 54), (.bool true), (.int 181 0), (.ref 55), .none, (.ref 56), (.ref 57), (.ref 58), (.int 253 0), (.int 19 0), (.str (qS "/claim/cut.py") 254)]⟩), ⟨[]⟩⟩
noncomputable def o60 (P : Params) : Obj := ⟨(.type "function"), none, (.func ⟨(qS "gcd_all"), (qS "gcd_all"), pA 7, .stmts (pB 7), pS 7, 3, [], .none, .none, .none, (.str (qS "minismt.ratios") 227), none, (.ref 59), .none, 0⟩), ⟨[]⟩⟩
noncomputable def o61 (P : Params) : Obj := ⟨(.type "tuple"), none, (.seq ⟨[]⟩ 0), ⟨[]⟩⟩
noncomputable def o62 (P : Params) : Obj := ⟨.none, none, (.fields ⟨[]⟩), ⟨[]⟩⟩
noncomputable def o63 (P : Params) : Obj := ⟨(.type "tuple"), none, (.seq ⟨[(.str (qS "a") 259), (.str (qS "b") 260)]⟩ 0), ⟨[]⟩⟩
noncomputable def o64 (P : Params) : Obj := ⟨(.type "tuple"), none, (.seq ⟨[]⟩ 0), ⟨[]⟩⟩
noncomputable def o65 (P : Params) : Obj := ⟨.none, none, (.func ⟨(qS "lcm_of"), (qS "lcm_of"), pA 8, .stmts (pB 8), pS 8, 0, [], .none, .none, .none, .none, none, .none, .none, 0⟩), ⟨[]⟩⟩
noncomputable def o66 (P : Params) : Obj := ⟨(.type "code"), none, (.fields ⟨[(.str (qS "lcm_of") 256), (.str (qS "lcm_of") 257), (.str (qS "/claim/cut.py") 258), (.int 26 0), (.int 2 0), (.int 0 0), (.int 0 0), (.int 3 0), (.ref 61), (.bool true), (.int 181 0), (.ref 62), .none, (.ref 63), (.ref 64), (.ref 65), (.int 261 0), (.int 26 0), (.str (qS "/claim/cut.py") 262)]⟩), ⟨[]⟩⟩
noncomputable def o67 (P : Params) : Obj := ⟨(.type "function"), none, (.func ⟨(qS "lcm_of"), (qS "lcm_of"), pA 8, .stmts (pB 8), pS 8, 3, [], .none, .none, .none, (.str (qS "minismt.ratios") 227), none, (.ref 66), .none, 0⟩), ⟨[]⟩⟩
noncomputable def o68 (P : Params) : Obj := ⟨(.type "tuple"), none, (.seq ⟨[]⟩ 0), ⟨[]⟩⟩
noncomputable def o69 (P : Params) : Obj := ⟨.none, none, (.fields ⟨[]⟩), ⟨[]⟩⟩
noncomputable def o70 (P : Params) : Obj := ⟨(.type "tuple"), none, (.seq ⟨[(.str (qS "top") 267), (.str (qS "bottom") 268), (.str (qS "common") 269)]⟩ 0), ⟨[]⟩⟩
noncomputable def o71 (P : Params) : Obj := ⟨(.type "tuple"), none, (.seq ⟨[]⟩ 0), ⟨[]⟩⟩
noncomputable def o72 (P : Params) : Obj := ⟨.none, none, (.func ⟨(qS "ratio"), (qS "ratio"), pA 9, .stmts (pB 9), pS 9, 0, [], .none, .none, .none, .none, none, .none, .none, 0⟩), ⟨[]⟩⟩
noncomputable def o73 (P : Params) : Obj := ⟨(.type "code"), none, (.fields ⟨[(.str (qS "ratio") 264), (.str (qS "ratio") 265), (.str (qS "/claim/cut.py") 266), (.int 28 0), (.int 2 0), (.int 0 0), (.int 0 0), (.int 3 0), (.ref 68), (.bool true), (.int 181 0), (.ref 69), .none, (.ref 70), (.ref 71), (.ref 72), (.int 270 0), (.int 28 0), (.str (qS "/claim/cut.py") 271)]⟩), ⟨[]⟩⟩
noncomputable def o74 (P : Params) : Obj := ⟨(.type "function"), none, (.func ⟨(qS "ratio"), (qS "ratio"), pA 9, .stmts (pB 9), pS 9, 3, [], .none, .none, .none, (.str (qS "minismt.ratios") 227), none, (.ref 73), .none, 0⟩), ⟨[]⟩⟩
noncomputable def tr3 (P : Params) : BT := (.node (boot_o_0 P) (.node (boot_o_1 P) (.node (o3v3 P) (.node (boot_o_7 P) (.node (o15 P) (.node (o31 P) (.node (o63 P) .nil .nil) .nil) (.node (o47 P) .nil .nil)) (.node (o23 P) (.node (o39 P) (.node (o71 P) .nil .nil) .nil) (.node (o55 P) .nil .nil))) (.node (o11 P) (.node (o19 P) (.node (o35 P) (.node (o67 P) .nil .nil) .nil) (.node (o51 P) .nil .nil)) (.node (o27 P) (.node (o43 P) .nil .nil) (.node (o59 P) .nil .nil)))) (.node (boot_o_5 P) (.node (boot_o_9 P) (.node (o17 P) (.node (o33 P) (.node (o65 P) .nil .nil) .nil) (.node (o49 P) .nil .nil)) (.node (o25 P) (.node (o41 P) (.node (o73 P) .nil .nil) .nil) (.node (o57 P) .nil .nil))) (.node (o13 P) (.node (o21 P) (.node (o37 P) (.node (o69 P) .nil .nil) .nil) (.node (o53 P) .nil .nil)) (.node (o29 P) (.node (o45 P) .nil .nil) (.node (o61 P) .nil .nil))))) (.node (o2v1 P) (.node (boot_o_4 P) (.node (boot_o_8 P) (.node (o16 P) (.node (o32 P) (.node (o64 P) .nil .nil) .nil) (.node (o48 P) .nil .nil)) (.node (o24 P) (.node (o40 P) (.node (o72 P) .nil .nil) .nil) (.node (o56 P) .nil .nil))) (.node (o12v2 P) (.node (o20 P) (.node (o36 P) (.node (o68 P) .nil .nil) .nil) (.node (o52 P) .nil .nil)) (.node (o28 P) (.node (o44 P) .nil .nil) (.node (o60 P) .nil .nil)))) (.node (boot_o_6 P) (.node (boot_o_10 P) (.node (o18 P) (.node (o34 P) (.node (o66 P) .nil .nil) .nil) (.node (o50 P) .nil .nil)) (.node (o26 P) (.node (o42 P) (.node (o74 P) .nil .nil) .nil) (.node (o58 P) .nil .nil))) (.node (o14 P) (.node (o22 P) (.node (o38 P) (.node (o70 P) .nil .nil) .nil) (.node (o54 P) .nil .nil)) (.node (o30 P) (.node (o46 P) .nil .nil) (.node (o62 P) .nil .nil))))))
noncomputable def o3v4 (P : Params) : Obj := ⟨(.type "dict"), none, (.dict ⟨[⟨(PyData.keyHash P (qS "__name__")), (.str (qS "__name__") 165), (.str (qS "minismt.ratios") 227)⟩, ⟨(PyData.keyHash P (qS "__doc__")), (.str (qS "__doc__") 166), .none⟩, ⟨(PyData.keyHash P (qS "__package__")), (.str (qS "__package__") 167), .none⟩, ⟨(PyData.keyHash P (qS "__loader__")), (.str (qS "__loader__") 168), (.builtin "__main__.__loader__#opaque")⟩, ⟨(PyData.keyHash P (qS "__spec__")), (.str (qS "__spec__") 169), .none⟩, ⟨(PyData.keyHash P (qS "__annotations__")), (.str (qS "__annotations__") 170), (.ref 6)⟩, ⟨(PyData.keyHash P (qS "__builtins__")), (.str (qS "__builtins__") 171), (.ref 4)⟩, ⟨(PyData.keyHash P (qS "__file__")), (.str (qS "__file__") 173), (.str (qS "/claim/cut.py") 172)⟩, ⟨(PyData.keyHash P (qS "__cached__")), (.str (qS "__cached__") 174), .none⟩, ⟨(PyData.keyHash P (qS "SmtError")), (.str (qS "SmtError") 226), (.ref 40)⟩, ⟨(PyData.keyHash P (qS "ZERO")), (.str (qS "ZERO") 231), (.ref 44)⟩, ⟨(PyData.keyHash P (qS "ONE")), (.str (qS "ONE") 234), (.ref 45)⟩, ⟨(PyData.keyHash P (qS "MINUS_ONE")), (.str (qS "MINUS_ONE") 238), (.ref 46)⟩, ⟨(PyData.keyHash P (qS "gcd_of")), (.str (qS "gcd_of") 246), (.ref 53)⟩, ⟨(PyData.keyHash P (qS "gcd_all")), (.str (qS "gcd_all") 255), (.ref 60)⟩, ⟨(PyData.keyHash P (qS "lcm_of")), (.str (qS "lcm_of") 263), (.ref 67)⟩, ⟨(PyData.keyHash P (qS "ratio")), (.str (qS "ratio") 272), (.ref 74)⟩, ⟨(PyData.keyHash P (qS "whole")), (.str (qS "whole") 279), (.ref 81)⟩, ⟨(PyData.keyHash P (qS "add")), (.str (qS "add") 287), (.ref 88)⟩, ⟨(PyData.keyHash P (qS "neg")), (.str (qS "neg") 294), (.ref 95)⟩, ⟨(PyData.keyHash P (qS "sub")), (.str (qS "sub") 302), (.ref 102)⟩, ⟨(PyData.keyHash P (qS "mul")), (.str (qS "mul") 310), (.ref 109)⟩, ⟨(PyData.keyHash P (qS "div")), (.str (qS "div") 318), (.ref 116)⟩]⟩ 23), ⟨[]⟩⟩
noncomputable def o12v3 (P : Params) : Obj := ⟨.none, none, (.fields ⟨[(.int 2 0), (.int 0 0), (.ref 21), (.int 14 0), (.int 0 0), (.ref 52), (.int 19 0), (.int 0 0), (.ref 59), (.int 26 0), (.int 0 0), (.ref 66), (.int 28 0), (.int 0 0), (.ref 73), (.int 35 0), (.int 0 0), (.ref 80), (.int 37 0), (.int 0 0), (.ref 87), (.int 41 0), (.int 0 0), (.ref 94), (.int 43 0), (.int 0 0), (.ref 101), (.int 45 0), (.int 0 0), (.ref 108), (.int 49 0), (.int 0 0), (.ref 115)]⟩), ⟨[]⟩⟩
noncomputable def o75 (P : Params) : Obj := ⟨(.type "tuple"), none, (.seq ⟨[]⟩ 0), ⟨[]⟩⟩
noncomputable def o76 (P : Params) : Obj := ⟨.none, none, (.fields ⟨[]⟩), ⟨[]⟩⟩
noncomputable def o77 (P : Params) : Obj := ⟨(.type "tuple"), none, (.seq ⟨[(.str (qS "number") 276)]⟩ 0), ⟨[]⟩⟩
noncomputable def o78 (P : Params) : Obj := ⟨(.type "tuple"), none, (.seq ⟨[]⟩ 0), ⟨[]⟩⟩
noncomputable def o79 (P : Params) : Obj := ⟨.none, none, (.func ⟨(qS "whole"), (qS "whole"), pA 10, .stmts (pB 10), pS 10, 0, [], .none, .none, .none, .none, none, .none, .none, 0⟩), ⟨[]⟩⟩
noncomputable def o80 (P : Params) : Obj := ⟨(.type "code"), none, (.fields ⟨[(.str (qS "whole") 273), (.str (qS "whole") 274), (.str (qS "/claim/cut.py") 275), (.int 35 0), (.int 1 0), (.int 0 0), (.int 0 0), (.int 3 0), (.ref 75), (.bool true), (.int 181 0), (.ref 76), .none, (.ref 77), (.ref 78), (.ref 79), (.int 277 0), (.int 35 0), (.str (qS "/claim/cut.py") 278)]⟩), ⟨[]⟩⟩
noncomputable def o81 (P : Params) : Obj := ⟨(.type "function"), none, (.func ⟨(qS "whole"), (qS "whole"), pA 10, .stmts (pB 10), pS 10, 3, [], .none, .none, .none, (.str (qS "minismt.ratios") 227), none, (.ref 80), .none, 0⟩), ⟨[]⟩⟩
noncomputable def o82 (P : Params) : Obj := ⟨(.type "tuple"), none, (.seq ⟨[]⟩ 0), ⟨[]⟩⟩
noncomputable def o83 (P : Params) : Obj := ⟨.none, none, (.fields ⟨[]⟩), ⟨[]⟩⟩
noncomputable def o84 (P : Params) : Obj := ⟨(.type "tuple"), none, (.seq ⟨[(.str (qS "a") 283), (.str (qS "b") 284)]⟩ 0), ⟨[]⟩⟩
noncomputable def o85 (P : Params) : Obj := ⟨(.type "tuple"), none, (.seq ⟨[]⟩ 0), ⟨[]⟩⟩
noncomputable def o86 (P : Params) : Obj := ⟨.none, none, (.func ⟨(qS "add"), (qS "add"), pA 11, .stmts (pB 11), pS 11, 0, [], .none, .none, .none, .none, none, .none, .none, 0⟩), ⟨[]⟩⟩
noncomputable def o87 (P : Params) : Obj := ⟨(.type "code"), none, (.fields ⟨[(.str (qS "add") 280), (.str (qS "add") 281), (.str (qS "/claim/cut.py") 282), (.int 37 0), (.int 2 0), (.int 0 0), (.int 0 0), (.int 3 0), (.ref 82), (.bool true), (.int 181 0), (.ref 83), .none, (.ref 84), (.ref 85), (.ref 86), (.int 285 0), (.int 37 0), (.str (qS "/claim/cut.py") 286)]⟩), ⟨[]⟩⟩
noncomputable def o88 (P : Params) : Obj := ⟨(.type "function"), none, (.func ⟨(qS "add"), (qS "add"), pA 11, .stmts (pB 11), pS 11, 3, [], .none, .none, .none, (.str (qS "minismt.ratios") 227), none, (.ref 87), .none, 0⟩), ⟨[]⟩⟩
noncomputable def o89 (P : Params) : Obj := ⟨(.type "tuple"), none, (.seq ⟨[]⟩ 0), ⟨[]⟩⟩
noncomputable def o90 (P : Params) : Obj := ⟨.none, none, (.fields ⟨[]⟩), ⟨[]⟩⟩
noncomputable def o91 (P : Params) : Obj := ⟨(.type "tuple"), none, (.seq ⟨[(.str (qS "a") 291)]⟩ 0), ⟨[]⟩⟩
noncomputable def o92 (P : Params) : Obj := ⟨(.type "tuple"), none, (.seq ⟨[]⟩ 0), ⟨[]⟩⟩
noncomputable def o93 (P : Params) : Obj := ⟨.none, none, (.func ⟨(qS "neg"), (qS "neg"), pA 12, .stmts (pB 12), pS 12, 0, [], .none, .none, .none, .none, none, .none, .none, 0⟩), ⟨[]⟩⟩
noncomputable def o94 (P : Params) : Obj := ⟨(.type "code"), none, (.fields ⟨[(.str (qS "neg") 288), (.str (qS "neg") 289), (.str (qS "/claim/cut.py") 290), (.int 41 0), (.int 1 0), (.int 0 0), (.int 0 0), (.int 3 0), (.ref 89), (.bool true), (.int 181 0), (.ref 90), .none, (.ref 91), (.ref 92), (.ref 93), (.int 292 0), (.int 41 0), (.str (qS "/claim/cut.py") 293)]⟩), ⟨[]⟩⟩
noncomputable def o95 (P : Params) : Obj := ⟨(.type "function"), none, (.func ⟨(qS "neg"), (qS "neg"), pA 12, .stmts (pB 12), pS 12, 3, [], .none, .none, .none, (.str (qS "minismt.ratios") 227), none, (.ref 94), .none, 0⟩), ⟨[]⟩⟩
noncomputable def o96 (P : Params) : Obj := ⟨(.type "tuple"), none, (.seq ⟨[]⟩ 0), ⟨[]⟩⟩
noncomputable def o97 (P : Params) : Obj := ⟨.none, none, (.fields ⟨[]⟩), ⟨[]⟩⟩
noncomputable def o98 (P : Params) : Obj := ⟨(.type "tuple"), none, (.seq ⟨[(.str (qS "a") 298), (.str (qS "b") 299)]⟩ 0), ⟨[]⟩⟩
noncomputable def o99 (P : Params) : Obj := ⟨(.type "tuple"), none, (.seq ⟨[]⟩ 0), ⟨[]⟩⟩
noncomputable def o100 (P : Params) : Obj := ⟨.none, none, (.func ⟨(qS "sub"), (qS "sub"), pA 13, .stmts (pB 13), pS 13, 0, [], .none, .none, .none, .none, none, .none, .none, 0⟩), ⟨[]⟩⟩
noncomputable def o101 (P : Params) : Obj := ⟨(.type "code"), none, (.fields ⟨[(.str (qS "sub") 295), (.str (qS "sub") 296), (.str (qS "/claim/cut.py") 297), (.int 43 0), (.int 2 0), (.int 0 0), (.int 0 0), (.int 3 0), (.ref 96), (.bool true), (.int 181 0), (.ref 97), .none, (.ref 98), (.ref 99), (.ref 100), (.int 300 0), (.int 43 0), (.str (qS "/claim/cut.py") 301)]⟩), ⟨[]⟩⟩
noncomputable def o102 (P : Params) : Obj := ⟨(.type "function"), none, (.func ⟨(qS "sub"), (qS "sub"), pA 13, .stmts (pB 13), pS 13, 3, [], .none, .none, .none, (.str (qS "minismt.ratios") 227), none, (.ref 101), .none, 0⟩), ⟨[]⟩⟩
noncomputable def o103 (P : Params) : Obj := ⟨(.type "tuple"), none, (.seq ⟨[]⟩ 0), ⟨[]⟩⟩
noncomputable def o104 (P : Params) : Obj := ⟨.none, none, (.fields ⟨[]⟩), ⟨[]⟩⟩
noncomputable def o105 (P : Params) : Obj := ⟨(.type "tuple"), none, (.seq ⟨[(.str (qS "a") 306), (.str (qS "b") 307)]⟩ 0), ⟨[]⟩⟩
noncomputable def o106 (P : Params) : Obj := ⟨(.type "tuple"), none, (.seq ⟨[]⟩ 0), ⟨[]⟩⟩
noncomputable def o107 (P : Params) : Obj := ⟨.none, none, (.func ⟨(qS "mul"), (qS "mul"), pA 14, .stmts (pB 14), pS 14, 0, [], .none, .none, .none, .none, none, .none, .none, 0⟩), ⟨[]⟩⟩
noncomputable def o108 (P : Params) : Obj := ⟨(.type "code"), none, (.fields ⟨[(.str (qS "mul") 303), (.str (qS "mul") 304), (.str (qS "/claim/cut.py") 305), (.int 45 0), (.int 2 0), (.int 0 0), (.int 0 0), (.int 3 0), (.ref 103), (.bool true), (.int 181 0), (.ref 104), .none, (.ref 105), (.ref 106), (.ref 107), (.int 308 0), (.int 45 0), (.str (qS "/claim/cut.py") 309)]⟩), ⟨[]⟩⟩
noncomputable def o109 (P : Params) : Obj := ⟨(.type "function"), none, (.func ⟨(qS "mul"), (qS "mul"), pA 14, .stmts (pB 14), pS 14, 3, [], .none, .none, .none, (.str (qS "minismt.ratios") 227), none, (.ref 108), .none, 0⟩), ⟨[]⟩⟩
noncomputable def o110 (P : Params) : Obj := ⟨(.type "tuple"), none, (.seq ⟨[]⟩ 0), ⟨[]⟩⟩
noncomputable def o111 (P : Params) : Obj := ⟨.none, none, (.fields ⟨[]⟩), ⟨[]⟩⟩
noncomputable def o112 (P : Params) : Obj := ⟨(.type "tuple"), none, (.seq ⟨[(.str (qS "a") 314), (.str (qS "b") 315)]⟩ 0), ⟨[]⟩⟩
noncomputable def o113 (P : Params) : Obj := ⟨(.type "tuple"), none, (.seq ⟨[]⟩ 0), ⟨[]⟩⟩
noncomputable def o114 (P : Params) : Obj := ⟨.none, none, (.func ⟨(qS "div"), (qS "div"), pA 15, .stmts (pB 15), pS 15, 0, [], .none, .none, .none, .none, none, .none, .none, 0⟩), ⟨[]⟩⟩
noncomputable def o115 (P : Params) : Obj := ⟨(.type "code"), none, (.fields ⟨[(.str (qS "div") 311), (.str (qS "div") 312), (.str (qS "/claim/cut.py") 313), (.int 49 0), (.int 2 0), (.int 0 0), (.int 0 0), (.int 3 0), (.ref 110), (.bool true), (.int 181 0), (.ref 111), .none, (.ref 112), (.ref 113), (.ref 114), (.int 316 0), (.int 49 0), (.str (qS "/claim/cut.py") 317)]⟩), ⟨[]⟩⟩
noncomputable def o116 (P : Params) : Obj := ⟨(.type "function"), none, (.func ⟨(qS "div"), (qS "div"), pA 15, .stmts (pB 15), pS 15, 3, [], .none, .none, .none, (.str (qS "minismt.ratios") 227), none, (.ref 115), .none, 0⟩), ⟨[]⟩⟩
noncomputable def tr4 (P : Params) : BT := (.node (boot_o_0 P) (.node (boot_o_1 P) (.node (o3v4 P) (.node (boot_o_7 P) (.node (o15 P) (.node (o31 P) (.node (o63 P) .nil .nil) (.node (o95 P) .nil .nil)) (.node (o47 P) (.node (o79 P) .nil .nil) (.node (o111 P) .nil .nil))) (.node (o23 P) (.node (o39 P) (.node (o71 P) .nil .nil) (.node (o103 P) .nil .nil)) (.node (o55 P) (.node (o87 P) .nil .nil) .nil))) (.node (o11 P) (.node (o19 P) (.node (o35 P) (.node (o67 P) .nil .nil) (.node (o99 P) .nil .nil)) (.node (o51 P) (.node (o83 P) .nil .nil) (.node (o115 P) .nil .nil))) (.node (o27 P) (.node (o43 P) (.node (o75 P) .nil .nil) (.node (o107 P) .nil .nil)) (.node (o59 P) (.node (o91 P) .nil .nil) .nil)))) (.node (boot_o_5 P) (.node (boot_o_9 P) (.node (o17 P) (.node (o33 P) (.node (o65 P) .nil .nil) (.node (o97 P) .nil .nil)) (.node (o49 P) (.node (o81 P) .nil .nil) (.node (o113 P) .nil .nil))) (.node (o25 P) (.node (o41 P) (.node (o73 P) .nil .nil) (.node (o105 P) .nil .nil)) (.node (o57 P) (.node (o89 P) .nil .nil) .nil))) (.node (o13 P) (.node (o21 P) (.node (o37 P) (.node (o69 P) .nil .nil) (.node (o101 P) .nil .nil)) (.node (o53 P) (.node (o85 P) .nil .nil) .nil)) (.node (o29 P) (.node (o45 P) (.node (o77 P) .nil .nil) (.node (o109 P) .nil .nil)) (.node (o61 P) (.node (o93 P) .nil .nil) .nil))))) (.node (o2v1 P) (.node (boot_o_4 P) (.node (boot_o_8 P) (.node (o16 P) (.node (o32 P) (.node (o64 P) .nil .nil) (.node (o96 P) .nil .nil)) (.node (o48 P) (.node (o80 P) .nil .nil) (.node (o112 P) .nil .nil))) (.node (o24 P) (.node (o40 P) (.node (o72 P) .nil .nil) (.node (o104 P) .nil .nil)) (.node (o56 P) (.node (o88 P) .nil .nil) .nil))) (.node (o12v3 P) (.node (o20 P) (.node (o36 P) (.node (o68 P) .nil .nil) (.node (o100 P) .nil .nil)) (.node (o52 P) (.node (o84 P) .nil .nil) (.node (o116 P) .nil .nil))) (.node (o28 P) (.node (o44 P) (.node (o76 P) .nil .nil) (.node (o108 P) .nil .nil)) (.node (o60 P) (.node (o92 P) .nil .nil) .nil)))) (.node (boot_o_6 P) (.node (boot_o_10 P) (.node (o18 P) (.node (o34 P) (.node (o66 P) .nil .nil) (.node (o98 P) .nil .nil)) (.node (o50 P) (.node (o82 P) .nil .nil) (.node (o114 P) .nil .nil))) (.node (o26 P) (.node (o42 P) (.node (o74 P) .nil .nil) (.node (o106 P) .nil .nil)) (.node (o58 P) (.node (o90 P) .nil .nil) .nil))) (.node (o14 P) (.node (o22 P) (.node (o38 P) (.node (o70 P) .nil .nil) (.node (o102 P) .nil .nil)) (.node (o54 P) (.node (o86 P) .nil .nil) .nil)) (.node (o30 P) (.node (o46 P) (.node (o78 P) .nil .nil) (.node (o110 P) .nil .nil)) (.node (o62 P) (.node (o94 P) .nil .nil) .nil))))))
noncomputable def o3v5 (P : Params) : Obj := ⟨(.type "dict"), none, (.dict ⟨[⟨(PyData.keyHash P (qS "__name__")), (.str (qS "__name__") 165), (.str (qS "minismt.ratios") 227)⟩, ⟨(PyData.keyHash P (qS "__doc__")), (.str (qS "__doc__") 166), .none⟩, ⟨(PyData.keyHash P (qS "__package__")), (.str (qS "__package__") 167), .none⟩, ⟨(PyData.keyHash P (qS "__loader__")), (.str (qS "__loader__") 168), (.builtin "__main__.__loader__#opaque")⟩, ⟨(PyData.keyHash P (qS "__spec__")), (.str (qS "__spec__") 169), .none⟩, ⟨(PyData.keyHash P (qS "__annotations__")), (.str (qS "__annotations__") 170), (.ref 6)⟩, ⟨(PyData.keyHash P (qS "__builtins__")), (.str (qS "__builtins__") 171), (.ref 4)⟩, ⟨(PyData.keyHash P (qS "__file__")), (.str (qS "__file__") 173), (.str (qS "/claim/cut.py") 172)⟩, ⟨(PyData.keyHash P (qS "__cached__")), (.str (qS "__cached__") 174), .none⟩, ⟨(PyData.keyHash P (qS "SmtError")), (.str (qS "SmtError") 226), (.ref 40)⟩, ⟨(PyData.keyHash P (qS "ZERO")), (.str (qS "ZERO") 231), (.ref 44)⟩, ⟨(PyData.keyHash P (qS "ONE")), (.str (qS "ONE") 234), (.ref 45)⟩, ⟨(PyData.keyHash P (qS "MINUS_ONE")), (.str (qS "MINUS_ONE") 238), (.ref 46)⟩, ⟨(PyData.keyHash P (qS "gcd_of")), (.str (qS "gcd_of") 246), (.ref 53)⟩, ⟨(PyData.keyHash P (qS "gcd_all")), (.str (qS "gcd_all") 255), (.ref 60)⟩, ⟨(PyData.keyHash P (qS "lcm_of")), (.str (qS "lcm_of") 263), (.ref 67)⟩, ⟨(PyData.keyHash P (qS "ratio")), (.str (qS "ratio") 272), (.ref 74)⟩, ⟨(PyData.keyHash P (qS "whole")), (.str (qS "whole") 279), (.ref 81)⟩, ⟨(PyData.keyHash P (qS "add")), (.str (qS "add") 287), (.ref 88)⟩, ⟨(PyData.keyHash P (qS "neg")), (.str (qS "neg") 294), (.ref 95)⟩, ⟨(PyData.keyHash P (qS "sub")), (.str (qS "sub") 302), (.ref 102)⟩, ⟨(PyData.keyHash P (qS "mul")), (.str (qS "mul") 310), (.ref 109)⟩, ⟨(PyData.keyHash P (qS "div")), (.str (qS "div") 318), (.ref 116)⟩, ⟨(PyData.keyHash P (qS "sign_of")), (.str (qS "sign_of") 325), (.ref 123)⟩, ⟨(PyData.keyHash P (qS "compare")), (.str (qS "compare") 335), (.ref 130)⟩, ⟨(PyData.keyHash P (qS "floor_of")), (.str (qS "floor_of") 342), (.ref 137)⟩, ⟨(PyData.keyHash P (qS "ceil_of")), (.str (qS "ceil_of") 349), (.ref 144)⟩, ⟨(PyData.keyHash P (qS "is_whole")), (.str (qS "is_whole") 356), (.ref 151)⟩, ⟨(PyData.keyHash P (qS "common_bottom")), (.str (qS "common_bottom") 365), (.ref 158)⟩]⟩ 29), ⟨[]⟩⟩
noncomputable def o12v4 (P : Params) : Obj := ⟨.none, none, (.fields ⟨[(.int 2 0), (.int 0 0), (.ref 21), (.int 14 0), (.int 0 0), (.ref 52), (.int 19 0), (.int 0 0), (.ref 59), (.int 26 0), (.int 0 0), (.ref 66), (.int 28 0), (.int 0 0), (.ref 73), (.int 35 0), (.int 0 0), (.ref 80), (.int 37 0), (.int 0 0), (.ref 87), (.int 41 0), (.int 0 0), (.ref 94), (.int 43 0), (.int 0 0), (.ref 101), (.int 45 0), (.int 0 0), (.ref 108), (.int 49 0), (.int 0 0), (.ref 115), (.int 53 0), (.int 0 0), (.ref 122), (.int 55 0), (.int 0 0), (.ref 129), (.int 58 0), (.int 0 0), (.ref 136), (.int 60 0), (.int 0 0), (.ref 143), (.int 62 0), (.int 0 0), (.ref 150), (.int 64 0), (.int 0 0), (.ref 157)]⟩), ⟨[]⟩⟩
noncomputable def o117 (P : Params) : Obj := ⟨(.type "tuple"), none, (.seq ⟨[]⟩ 0), ⟨[]⟩⟩
noncomputable def o118 (P : Params) : Obj := ⟨.none, none, (.fields ⟨[]⟩), ⟨[]⟩⟩
noncomputable def o119 (P : Params) : Obj := ⟨(.type "tuple"), none, (.seq ⟨[(.str (qS "a") 322)]⟩ 0), ⟨[]⟩⟩
noncomputable def o120 (P : Params) : Obj := ⟨(.type "tuple"), none, (.seq ⟨[]⟩ 0), ⟨[]⟩⟩
noncomputable def o121 (P : Params) : Obj := ⟨.none, none, (.func ⟨(qS "sign_of"), (qS "sign_of"), pA 16, .stmts (pB 16), pS 16, 0, [], .none, .none, .none, .none, none, .none, .none, 0⟩), ⟨[]⟩⟩
noncomputable def o122 (P : Params) : Obj := ⟨(.type "code"), none, (.fields ⟨[(.str (qS "sign_of") 319), (.str (qS "sign_of") 320), (.str (qS "/claim/cut.py") 321), (.int 53 0), (.int 1 0), (.int 0 0), (.int 0 0), (.int 3 0), (.ref 117), (.bool true), (.int 181 0), (.ref 118), .none, (.ref 119), (.ref 120), (.ref 121), (.int 323 0), (.int 53 0), (.str (qS "/claim/cut.py") 324)]⟩), ⟨[]⟩⟩
noncomputable def o123 (P : Params) : Obj := ⟨(.type "function"), none, (.func ⟨(qS "sign_of"), (qS "sign_of"), pA 16, .stmts (pB 16), pS 16, 3, [], .none, .none, .none, (.str (qS "minismt.ratios") 227), none, (.ref 122), .none, 0⟩), ⟨[]⟩⟩
noncomputable def o124 (P : Params) : Obj := ⟨(.type "tuple"), none, (.seq ⟨[]⟩ 0), ⟨[]⟩⟩
noncomputable def o125 (P : Params) : Obj := ⟨.none, none, (.fields ⟨[]⟩), ⟨[]⟩⟩
noncomputable def o126 (P : Params) : Obj := ⟨(.type "tuple"), none, (.seq ⟨[(.str (qS "a") 329), (.str (qS "b") 330), (.str (qS "left") 331), (.str (qS "right") 332)]⟩ 0), ⟨[]⟩⟩
noncomputable def o127 (P : Params) : Obj := ⟨(.type "tuple"), none, (.seq ⟨[]⟩ 0), ⟨[]⟩⟩
noncomputable def o128 (P : Params) : Obj := ⟨.none, none, (.func ⟨(qS "compare"), (qS "compare"), pA 17, .stmts (pB 17), pS 17, 0, [], .none, .none, .none, .none, none, .none, .none, 0⟩), ⟨[]⟩⟩
noncomputable def o129 (P : Params) : Obj := ⟨(.type "code"), none, (.fields ⟨[(.str (qS "compare") 326), (.str (qS "compare") 327), (.str (qS "/claim/cut.py") 328), (.int 55 0), (.int 2 0), (.int 0 0), (.int 0 0), (.int 3 0), (.ref 124), (.bool true), (.int 181 0), (.ref 125), .none, (.ref 126), (.ref 127), (.ref 128), (.int 333 0), (.int 55 0), (.str (qS "/claim/cut.py") 334)]⟩), ⟨[]⟩⟩
noncomputable def o130 (P : Params) : Obj := ⟨(.type "function"), none, (.func ⟨(qS "compare"), (qS "compare"), pA 17, .stmts (pB 17), pS 17, 3, [], .none, .none, .none, (.str (qS "minismt.ratios") 227), none, (.ref 129), .none, 0⟩), ⟨[]⟩⟩
noncomputable def o131 (P : Params) : Obj := ⟨(.type "tuple"), none, (.seq ⟨[]⟩ 0), ⟨[]⟩⟩
noncomputable def o132 (P : Params) : Obj := ⟨.none, none, (.fields ⟨[]⟩), ⟨[]⟩⟩
noncomputable def o133 (P : Params) : Obj := ⟨(.type "tuple"), none, (.seq ⟨[(.str (qS "a") 339)]⟩ 0), ⟨[]⟩⟩
noncomputable def o134 (P : Params) : Obj := ⟨(.type "tuple"), none, (.seq ⟨[]⟩ 0), ⟨[]⟩⟩
noncomputable def o135 (P : Params) : Obj := ⟨.none, none, (.func ⟨(qS "floor_of"), (qS "floor_of"), pA 18, .stmts (pB 18), pS 18, 0, [], .none, .none, .none, .none, none, .none, .none, 0⟩), ⟨[]⟩⟩
noncomputable def o136 (P : Params) : Obj := ⟨(.type "code"), none, (.fields ⟨[(.str (qS "floor_of") 336), (.str (qS "floor_of") 337), (.str (qS "/claim/cut.py") 338), (.int 58 0), (.int 1 0), (.int 0 0), (.int 0 0), (.int 3 0), (.ref 131), (.bool true), (.int 181 0), (.ref 132), .none, (.ref 133), (.ref 134), (.ref 135), (.int 340 0), (.int 58 0), (.str (qS "/claim/cut.py") 341)]⟩), ⟨[]⟩⟩
noncomputable def o137 (P : Params) : Obj := ⟨(.type "function"), none, (.func ⟨(qS "floor_of"), (qS "floor_of"), pA 18, .stmts (pB 18), pS 18, 3, [], .none, .none, .none, (.str (qS "minismt.ratios") 227), none, (.ref 136), .none, 0⟩), ⟨[]⟩⟩
noncomputable def o138 (P : Params) : Obj := ⟨(.type "tuple"), none, (.seq ⟨[]⟩ 0), ⟨[]⟩⟩
noncomputable def o139 (P : Params) : Obj := ⟨.none, none, (.fields ⟨[]⟩), ⟨[]⟩⟩
noncomputable def o140 (P : Params) : Obj := ⟨(.type "tuple"), none, (.seq ⟨[(.str (qS "a") 346)]⟩ 0), ⟨[]⟩⟩
noncomputable def o141 (P : Params) : Obj := ⟨(.type "tuple"), none, (.seq ⟨[]⟩ 0), ⟨[]⟩⟩
noncomputable def o142 (P : Params) : Obj := ⟨.none, none, (.func ⟨(qS "ceil_of"), (qS "ceil_of"), pA 19, .stmts (pB 19), pS 19, 0, [], .none, .none, .none, .none, none, .none, .none, 0⟩), ⟨[]⟩⟩
noncomputable def o143 (P : Params) : Obj := ⟨(.type "code"), none, (.fields ⟨[(.str (qS "ceil_of") 343), (.str (qS "ceil_of") 344), (.str (qS "/claim/cut.py") 345), (.int 60 0), (.int 1 0), (.int 0 0), (.int 0 0), (.int 3 0), (.ref 138), (.bool true), (.int 181 0), (.ref 139), .none, (.ref 140), (.ref 141), (.ref 142), (.int 347 0), (.int 60 0), (.str (qS "/claim/cut.py") 348)]⟩), ⟨[]⟩⟩
noncomputable def o144 (P : Params) : Obj := ⟨(.type "function"), none, (.func ⟨(qS "ceil_of"), (qS "ceil_of"), pA 19, .stmts (pB 19), pS 19, 3, [], .none, .none, .none, (.str (qS "minismt.ratios") 227), none, (.ref 143), .none, 0⟩), ⟨[]⟩⟩
noncomputable def o145 (P : Params) : Obj := ⟨(.type "tuple"), none, (.seq ⟨[]⟩ 0), ⟨[]⟩⟩
noncomputable def o146 (P : Params) : Obj := ⟨.none, none, (.fields ⟨[]⟩), ⟨[]⟩⟩
noncomputable def o147 (P : Params) : Obj := ⟨(.type "tuple"), none, (.seq ⟨[(.str (qS "a") 353)]⟩ 0), ⟨[]⟩⟩
noncomputable def o148 (P : Params) : Obj := ⟨(.type "tuple"), none, (.seq ⟨[]⟩ 0), ⟨[]⟩⟩
noncomputable def o149 (P : Params) : Obj := ⟨.none, none, (.func ⟨(qS "is_whole"), (qS "is_whole"), pA 20, .stmts (pB 20), pS 20, 0, [], .none, .none, .none, .none, none, .none, .none, 0⟩), ⟨[]⟩⟩
noncomputable def o150 (P : Params) : Obj := ⟨(.type "code"), none, (.fields ⟨[(.str (qS "is_whole") 350), (.str (qS "is_whole") 351), (.str (qS "/claim/cut.py") 352), (.int 62 0), (.int 1 0), (.int 0 0), (.int 0 0), (.int 3 0), (.ref 145), (.bool true), (.int 181 0), (.ref 146), .none, (.ref 147), (.ref 148), (.ref 149), (.int 354 0), (.int 62 0), (.str (qS "/claim/cut.py") 355)]⟩), ⟨[]⟩⟩
noncomputable def o151 (P : Params) : Obj := ⟨(.type "function"), none, (.func ⟨(qS "is_whole"), (qS "is_whole"), pA 20, .stmts (pB 20), pS 20, 3, [], .none, .none, .none, (.str (qS "minismt.ratios") 227), none, (.ref 150), .none, 0⟩), ⟨[]⟩⟩
noncomputable def o152 (P : Params) : Obj := ⟨(.type "tuple"), none, (.seq ⟨[]⟩ 0), ⟨[]⟩⟩
noncomputable def o153 (P : Params) : Obj := ⟨.none, none, (.fields ⟨[]⟩), ⟨[]⟩⟩
noncomputable def o154 (P : Params) : Obj := ⟨(.type "tuple"), none, (.seq ⟨[(.str (qS "ratios") 360), (.str (qS "found") 361), (.str (qS "one") 362)]⟩ 0), ⟨[]⟩⟩
noncomputable def o155 (P : Params) : Obj := ⟨(.type "tuple"), none, (.seq ⟨[]⟩ 0), ⟨[]⟩⟩
noncomputable def o156 (P : Params) : Obj := ⟨.none, none, (.func ⟨(qS "common_bottom"), (qS "common_bottom"), pA 21, .stmts (pB 21), pS 21, 0, [], .none, .none, .none, .none, none, .none, .none, 0⟩), ⟨[]⟩⟩
noncomputable def o157 (P : Params) : Obj := ⟨(.type "code"), none, (.fields ⟨[(.str (qS "common_bottom") 357), (.str (qS "common_bottom") 358), (.str (qS "/claim/cut.py") 359), (.int 64 0), (.int 1 0), (.int 0 0), (.int 0 0), (.int 3 0), (.ref 152), (.bool true), (.int 181 0), (.ref 153), .none, (.ref 154), (.ref 155), (.ref 156), (.int 363 0), (.int 64 0), (.str (qS "/claim/cut.py") 364)]⟩), ⟨[]⟩⟩
noncomputable def o158 (P : Params) : Obj := ⟨(.type "function"), none, (.func ⟨(qS "common_bottom"), (qS "common_bottom"), pA 21, .stmts (pB 21), pS 21, 3, [], .none, .none, .none, (.str (qS "minismt.ratios") 227), none, (.ref 157), .none, 0⟩), ⟨[]⟩⟩
noncomputable def tr5 (P : Params) : BT := (.node (boot_o_0 P) (.node (boot_o_1 P) (.node (o3v5 P) (.node (boot_o_7 P) (.node (o15 P) (.node (o31 P) (.node (o63 P) (.node (o127 P) .nil .nil) .nil) (.node (o95 P) .nil .nil)) (.node (o47 P) (.node (o79 P) (.node (o143 P) .nil .nil) .nil) (.node (o111 P) .nil .nil))) (.node (o23 P) (.node (o39 P) (.node (o71 P) (.node (o135 P) .nil .nil) .nil) (.node (o103 P) .nil .nil)) (.node (o55 P) (.node (o87 P) (.node (o151 P) .nil .nil) .nil) (.node (o119 P) .nil .nil)))) (.node (o11 P) (.node (o19 P) (.node (o35 P) (.node (o67 P) (.node (o131 P) .nil .nil) .nil) (.node (o99 P) .nil .nil)) (.node (o51 P) (.node (o83 P) (.node (o147 P) .nil .nil) .nil) (.node (o115 P) .nil .nil))) (.node (o27 P) (.node (o43 P) (.node (o75 P) (.node (o139 P) .nil .nil) .nil) (.node (o107 P) .nil .nil)) (.node (o59 P) (.node (o91 P) (.node (o155 P) .nil .nil) .nil) (.node (o123 P) .nil .nil))))) (.node (boot_o_5 P) (.node (boot_o_9 P) (.node (o17 P) (.node (o33 P) (.node (o65 P) (.node (o129 P) .nil .nil) .nil) (.node (o97 P) .nil .nil)) (.node (o49 P) (.node (o81 P) (.node (o145 P) .nil .nil) .nil) (.node (o113 P) .nil .nil))) (.node (o25 P) (.node (o41 P) (.node (o73 P) (.node (o137 P) .nil .nil) .nil) (.node (o105 P) .nil .nil)) (.node (o57 P) (.node (o89 P) (.node (o153 P) .nil .nil) .nil) (.node (o121 P) .nil .nil)))) (.node (o13 P) (.node (o21 P) (.node (o37 P) (.node (o69 P) (.node (o133 P) .nil .nil) .nil) (.node (o101 P) .nil .nil)) (.node (o53 P) (.node (o85 P) (.node (o149 P) .nil .nil) .nil) (.node (o117 P) .nil .nil))) (.node (o29 P) (.node (o45 P) (.node (o77 P) (.node (o141 P) .nil .nil) .nil) (.node (o109 P) .nil .nil)) (.node (o61 P) (.node (o93 P) (.node (o157 P) .nil .nil) .nil) (.node (o125 P) .nil .nil)))))) (.node (o2v1 P) (.node (boot_o_4 P) (.node (boot_o_8 P) (.node (o16 P) (.node (o32 P) (.node (o64 P) (.node (o128 P) .nil .nil) .nil) (.node (o96 P) .nil .nil)) (.node (o48 P) (.node (o80 P) (.node (o144 P) .nil .nil) .nil) (.node (o112 P) .nil .nil))) (.node (o24 P) (.node (o40 P) (.node (o72 P) (.node (o136 P) .nil .nil) .nil) (.node (o104 P) .nil .nil)) (.node (o56 P) (.node (o88 P) (.node (o152 P) .nil .nil) .nil) (.node (o120 P) .nil .nil)))) (.node (o12v4 P) (.node (o20 P) (.node (o36 P) (.node (o68 P) (.node (o132 P) .nil .nil) .nil) (.node (o100 P) .nil .nil)) (.node (o52 P) (.node (o84 P) (.node (o148 P) .nil .nil) .nil) (.node (o116 P) .nil .nil))) (.node (o28 P) (.node (o44 P) (.node (o76 P) (.node (o140 P) .nil .nil) .nil) (.node (o108 P) .nil .nil)) (.node (o60 P) (.node (o92 P) (.node (o156 P) .nil .nil) .nil) (.node (o124 P) .nil .nil))))) (.node (boot_o_6 P) (.node (boot_o_10 P) (.node (o18 P) (.node (o34 P) (.node (o66 P) (.node (o130 P) .nil .nil) .nil) (.node (o98 P) .nil .nil)) (.node (o50 P) (.node (o82 P) (.node (o146 P) .nil .nil) .nil) (.node (o114 P) .nil .nil))) (.node (o26 P) (.node (o42 P) (.node (o74 P) (.node (o138 P) .nil .nil) .nil) (.node (o106 P) .nil .nil)) (.node (o58 P) (.node (o90 P) (.node (o154 P) .nil .nil) .nil) (.node (o122 P) .nil .nil)))) (.node (o14 P) (.node (o22 P) (.node (o38 P) (.node (o70 P) (.node (o134 P) .nil .nil) .nil) (.node (o102 P) .nil .nil)) (.node (o54 P) (.node (o86 P) (.node (o150 P) .nil .nil) .nil) (.node (o118 P) .nil .nil))) (.node (o30 P) (.node (o46 P) (.node (o78 P) (.node (o142 P) .nil .nil) .nil) (.node (o110 P) .nil .nil)) (.node (o62 P) (.node (o94 P) (.node (o158 P) .nil .nil) .nil) (.node (o126 P) .nil .nil)))))))
noncomputable def o3v6 (P : Params) : Obj := ⟨(.type "dict"), none, (.dict ⟨[⟨(PyData.keyHash P (qS "__name__")), (.str (qS "__name__") 165), (.str (qS "minismt.ratios") 227)⟩, ⟨(PyData.keyHash P (qS "__doc__")), (.str (qS "__doc__") 166), .none⟩, ⟨(PyData.keyHash P (qS "__package__")), (.str (qS "__package__") 167), .none⟩, ⟨(PyData.keyHash P (qS "__loader__")), (.str (qS "__loader__") 168), (.builtin "__main__.__loader__#opaque")⟩, ⟨(PyData.keyHash P (qS "__spec__")), (.str (qS "__spec__") 169), .none⟩, ⟨(PyData.keyHash P (qS "__annotations__")), (.str (qS "__annotations__") 170), (.ref 6)⟩, ⟨(PyData.keyHash P (qS "__builtins__")), (.str (qS "__builtins__") 171), (.ref 4)⟩, ⟨(PyData.keyHash P (qS "__file__")), (.str (qS "__file__") 173), (.str (qS "/claim/cut.py") 172)⟩, ⟨(PyData.keyHash P (qS "__cached__")), (.str (qS "__cached__") 174), .none⟩, ⟨(PyData.keyHash P (qS "SmtError")), (.str (qS "SmtError") 226), (.ref 40)⟩, ⟨(PyData.keyHash P (qS "ZERO")), (.str (qS "ZERO") 231), (.ref 44)⟩, ⟨(PyData.keyHash P (qS "ONE")), (.str (qS "ONE") 234), (.ref 45)⟩, ⟨(PyData.keyHash P (qS "MINUS_ONE")), (.str (qS "MINUS_ONE") 238), (.ref 46)⟩, ⟨(PyData.keyHash P (qS "gcd_of")), (.str (qS "gcd_of") 246), (.ref 53)⟩, ⟨(PyData.keyHash P (qS "gcd_all")), (.str (qS "gcd_all") 255), (.ref 60)⟩, ⟨(PyData.keyHash P (qS "lcm_of")), (.str (qS "lcm_of") 263), (.ref 67)⟩, ⟨(PyData.keyHash P (qS "ratio")), (.str (qS "ratio") 272), (.ref 74)⟩, ⟨(PyData.keyHash P (qS "whole")), (.str (qS "whole") 279), (.ref 81)⟩, ⟨(PyData.keyHash P (qS "add")), (.str (qS "add") 287), (.ref 88)⟩, ⟨(PyData.keyHash P (qS "neg")), (.str (qS "neg") 294), (.ref 95)⟩, ⟨(PyData.keyHash P (qS "sub")), (.str (qS "sub") 302), (.ref 102)⟩, ⟨(PyData.keyHash P (qS "mul")), (.str (qS "mul") 310), (.ref 109)⟩, ⟨(PyData.keyHash P (qS "div")), (.str (qS "div") 318), (.ref 116)⟩, ⟨(PyData.keyHash P (qS "sign_of")), (.str (qS "sign_of") 325), (.ref 123)⟩, ⟨(PyData.keyHash P (qS "compare")), (.str (qS "compare") 335), (.ref 130)⟩, ⟨(PyData.keyHash P (qS "floor_of")), (.str (qS "floor_of") 342), (.ref 137)⟩, ⟨(PyData.keyHash P (qS "ceil_of")), (.str (qS "ceil_of") 349), (.ref 144)⟩, ⟨(PyData.keyHash P (qS "is_whole")), (.str (qS "is_whole") 356), (.ref 151)⟩, ⟨(PyData.keyHash P (qS "common_bottom")), (.str (qS "common_bottom") 365), (.ref 158)⟩, ⟨(PyData.keyHash P (qS "ratio_of_decimal")), (.str (qS "ratio_of_decimal") 374), (.ref 165)⟩, ⟨(PyData.keyHash P (qS "signed_text")), (.str (qS "signed_text") 382), (.ref 172)⟩, ⟨(PyData.keyHash P (qS "ratio_text")), (.str (qS "ratio_text") 390), (.ref 179)⟩, ⟨(PyData.keyHash P (qS "real_text")), (.str (qS "real_text") 398), (.ref 186)⟩, ⟨(PyData.keyHash P (qS "d_make")), (.str (qS "d_make") 405), (.ref 193)⟩, ⟨(PyData.keyHash P (qS "d_below")), (.str (qS "d_below") 412), (.ref 200)⟩]⟩ 35), ⟨[]⟩⟩
noncomputable def o12v5 (P : Params) : Obj := ⟨.none, none, (.fields ⟨[(.int 2 0), (.int 0 0), (.ref 21), (.int 14 0), (.int 0 0), (.ref 52), (.int 19 0), (.int 0 0), (.ref 59), (.int 26 0), (.int 0 0), (.ref 66), (.int 28 0), (.int 0 0), (.ref 73), (.int 35 0), (.int 0 0), (.ref 80), (.int 37 0), (.int 0 0), (.ref 87), (.int 41 0), (.int 0 0), (.ref 94), (.int 43 0), (.int 0 0), (.ref 101), (.int 45 0), (.int 0 0), (.ref 108), (.int 49 0), (.int 0 0), (.ref 115), (.int 53 0), (.int 0 0), (.ref 122), (.int 55 0), (.int 0 0), (.ref 129), (.int 58 0), (.int 0 0), (.ref 136), (.int 60 0), (.int 0 0), (.ref 143), (.int 62 0), (.int 0 0), (.ref 150), (.int 64 0), (.int 0 0), (.ref 157), (.int 69 0), (.int 0 0), (.ref 164), (.int 72 0), (.int 0 0), (.ref 171), (.int 74 0), (.int 0 0), (.ref 178), (.int 77 0), (.int 0 0), (.ref 185), (.int 80 0), (.int 0 0), (.ref 192), (.int 82 0), (.int 0 0), (.ref 199)]⟩), ⟨[]⟩⟩
noncomputable def o159 (P : Params) : Obj := ⟨(.type "tuple"), none, (.seq ⟨[]⟩ 0), ⟨[]⟩⟩
noncomputable def o160 (P : Params) : Obj := ⟨.none, none, (.fields ⟨[]⟩), ⟨[]⟩⟩
noncomputable def o161 (P : Params) : Obj := ⟨(.type "tuple"), none, (.seq ⟨[(.str (qS "ahead") 369), (.str (qS "behind") 370), (.str (qS "scale") 371)]⟩ 0), ⟨[]⟩⟩
noncomputable def o162 (P : Params) : Obj := ⟨(.type "tuple"), none, (.seq ⟨[]⟩ 0), ⟨[]⟩⟩
noncomputable def o163 (P : Params) : Obj := ⟨.none, none, (.func ⟨(qS "ratio_of_decimal"), (qS "ratio_of_decimal"), pA 22, .stmts (pB 22), pS 22, 0, [], .none, .none, .none, .none, none, .none, .none, 0⟩), ⟨[]⟩⟩
noncomputable def o164 (P : Params) : Obj := ⟨(.type "code"), none, (.fields ⟨[(.str (qS "ratio_of_decimal") 366), (.str (qS "ratio_of_decimal") 367), (.str (qS "/claim/cut.py") 368), (.int 69 0), (.int 2 0), (.int 0 0), (.int 0 0), (.int 3 0), (.ref 159), (.bool true), (.int 181 0), (.ref 160), .none, (.ref 161), (.ref 162), (.ref 163), (.int 372 0), (.int 69 0), (.str (qS "/claim/cut.py") 373)]⟩), ⟨[]⟩⟩
noncomputable def o165 (P : Params) : Obj := ⟨(.type "function"), none, (.func ⟨(qS "ratio_of_decimal"), (qS "ratio_of_decimal"), pA 22, .stmts (pB 22), pS 22, 3, [], .none, .none, .none, (.str (qS "minismt.ratios") 227), none, (.ref 164), .none, 0⟩), ⟨[]⟩⟩
noncomputable def o166 (P : Params) : Obj := ⟨(.type "tuple"), none, (.seq ⟨[]⟩ 0), ⟨[]⟩⟩
noncomputable def o167 (P : Params) : Obj := ⟨.none, none, (.fields ⟨[]⟩), ⟨[]⟩⟩
noncomputable def o168 (P : Params) : Obj := ⟨(.type "tuple"), none, (.seq ⟨[(.str (qS "text") 378), (.str (qS "is_below") 379)]⟩ 0), ⟨[]⟩⟩
noncomputable def o169 (P : Params) : Obj := ⟨(.type "tuple"), none, (.seq ⟨[]⟩ 0), ⟨[]⟩⟩
noncomputable def o170 (P : Params) : Obj := ⟨.none, none, (.func ⟨(qS "signed_text"), (qS "signed_text"), pA 23, .stmts (pB 23), pS 23, 0, [], .none, .none, .none, .none, none, .none, .none, 0⟩), ⟨[]⟩⟩
noncomputable def o171 (P : Params) : Obj := ⟨(.type "code"), none, (.fields ⟨[(.str (qS "signed_text") 375), (.str (qS "signed_text") 376), (.str (qS "/claim/cut.py") 377), (.int 72 0), (.int 2 0), (.int 0 0), (.int 0 0), (.int 3 0), (.ref 166), (.bool true), (.int 181 0), (.ref 167), .none, (.ref 168), (.ref 169), (.ref 170), (.int 380 0), (.int 72 0), (.str (qS "/claim/cut.py") 381)]⟩), ⟨[]⟩⟩
noncomputable def o172 (P : Params) : Obj := ⟨(.type "function"), none, (.func ⟨(qS "signed_text"), (qS "signed_text"), pA 23, .stmts (pB 23), pS 23, 3, [], .none, .none, .none, (.str (qS "minismt.ratios") 227), none, (.ref 171), .none, 0⟩), ⟨[]⟩⟩
noncomputable def o173 (P : Params) : Obj := ⟨(.type "tuple"), none, (.seq ⟨[]⟩ 0), ⟨[]⟩⟩
noncomputable def o174 (P : Params) : Obj := ⟨.none, none, (.fields ⟨[]⟩), ⟨[]⟩⟩
noncomputable def o175 (P : Params) : Obj := ⟨(.type "tuple"), none, (.seq ⟨[(.str (qS "a") 386), (.str (qS "text") 387)]⟩ 0), ⟨[]⟩⟩
noncomputable def o176 (P : Params) : Obj := ⟨(.type "tuple"), none, (.seq ⟨[]⟩ 0), ⟨[]⟩⟩
noncomputable def o177 (P : Params) : Obj := ⟨.none, none, (.func ⟨(qS "ratio_text"), (qS "ratio_text"), pA 24, .stmts (pB 24), pS 24, 0, [], .none, .none, .none, .none, none, .none, .none, 0⟩), ⟨[]⟩⟩
noncomputable def o178 (P : Params) : Obj := ⟨(.type "code"), none, (.fields ⟨[(.str (qS "ratio_text") 383), (.str (qS "ratio_text") 384), (.str (qS "/claim/cut.py") 385), (.int 74 0), (.int 1 0), (.int 0 0), (.int 0 0), (.int 3 0), (.ref 173), (.bool true), (.int 181 0), (.ref 174), .none, (.ref 175), (.ref 176), (.ref 177), (.int 388 0), (.int 74 0), (.str (qS "/claim/cut.py") 389)]⟩), ⟨[]⟩⟩
noncomputable def o179 (P : Params) : Obj := ⟨(.type "function"), none, (.func ⟨(qS "ratio_text"), (qS "ratio_text"), pA 24, .stmts (pB 24), pS 24, 3, [], .none, .none, .none, (.str (qS "minismt.ratios") 227), none, (.ref 178), .none, 0⟩), ⟨[]⟩⟩
noncomputable def o180 (P : Params) : Obj := ⟨(.type "tuple"), none, (.seq ⟨[]⟩ 0), ⟨[]⟩⟩
noncomputable def o181 (P : Params) : Obj := ⟨.none, none, (.fields ⟨[]⟩), ⟨[]⟩⟩
noncomputable def o182 (P : Params) : Obj := ⟨(.type "tuple"), none, (.seq ⟨[(.str (qS "a") 394), (.str (qS "text") 395)]⟩ 0), ⟨[]⟩⟩
noncomputable def o183 (P : Params) : Obj := ⟨(.type "tuple"), none, (.seq ⟨[]⟩ 0), ⟨[]⟩⟩
noncomputable def o184 (P : Params) : Obj := ⟨.none, none, (.func ⟨(qS "real_text"), (qS "real_text"), pA 25, .stmts (pB 25), pS 25, 0, [], .none, .none, .none, .none, none, .none, .none, 0⟩), ⟨[]⟩⟩
noncomputable def o185 (P : Params) : Obj := ⟨(.type "code"), none, (.fields ⟨[(.str (qS "real_text") 391), (.str (qS "real_text") 392), (.str (qS "/claim/cut.py") 393), (.int 77 0), (.int 1 0), (.int 0 0), (.int 0 0), (.int 3 0), (.ref 180), (.bool true), (.int 181 0), (.ref 181), .none, (.ref 182), (.ref 183), (.ref 184), (.int 396 0), (.int 77 0), (.str (qS "/claim/cut.py") 397)]⟩), ⟨[]⟩⟩
noncomputable def o186 (P : Params) : Obj := ⟨(.type "function"), none, (.func ⟨(qS "real_text"), (qS "real_text"), pA 25, .stmts (pB 25), pS 25, 3, [], .none, .none, .none, (.str (qS "minismt.ratios") 227), none, (.ref 185), .none, 0⟩), ⟨[]⟩⟩
noncomputable def o187 (P : Params) : Obj := ⟨(.type "tuple"), none, (.seq ⟨[]⟩ 0), ⟨[]⟩⟩
noncomputable def o188 (P : Params) : Obj := ⟨.none, none, (.fields ⟨[]⟩), ⟨[]⟩⟩
noncomputable def o189 (P : Params) : Obj := ⟨(.type "tuple"), none, (.seq ⟨[(.str (qS "r") 402)]⟩ 0), ⟨[]⟩⟩
noncomputable def o190 (P : Params) : Obj := ⟨(.type "tuple"), none, (.seq ⟨[]⟩ 0), ⟨[]⟩⟩
noncomputable def o191 (P : Params) : Obj := ⟨.none, none, (.func ⟨(qS "d_make"), (qS "d_make"), pA 26, .stmts (pB 26), pS 26, 0, [], .none, .none, .none, .none, none, .none, .none, 0⟩), ⟨[]⟩⟩
noncomputable def o192 (P : Params) : Obj := ⟨(.type "code"), none, (.fields ⟨[(.str (qS "d_make") 399), (.str (qS "d_make") 400), (.str (qS "/claim/cut.py") 401), (.int 80 0), (.int 1 0), (.int 0 0), (.int 0 0), (.int 3 0), (.ref 187), (.bool true), (.int 181 0), (.ref 188), .none, (.ref 189), (.ref 190), (.ref 191), (.int 403 0), (.int 80 0), (.str (qS "/claim/cut.py") 404)]⟩), ⟨[]⟩⟩
noncomputable def o193 (P : Params) : Obj := ⟨(.type "function"), none, (.func ⟨(qS "d_make"), (qS "d_make"), pA 26, .stmts (pB 26), pS 26, 3, [], .none, .none, .none, (.str (qS "minismt.ratios") 227), none, (.ref 192), .none, 0⟩), ⟨[]⟩⟩
noncomputable def o194 (P : Params) : Obj := ⟨(.type "tuple"), none, (.seq ⟨[]⟩ 0), ⟨[]⟩⟩
noncomputable def o195 (P : Params) : Obj := ⟨.none, none, (.fields ⟨[]⟩), ⟨[]⟩⟩
noncomputable def o196 (P : Params) : Obj := ⟨(.type "tuple"), none, (.seq ⟨[(.str (qS "r") 409)]⟩ 0), ⟨[]⟩⟩
noncomputable def o197 (P : Params) : Obj := ⟨(.type "tuple"), none, (.seq ⟨[]⟩ 0), ⟨[]⟩⟩
noncomputable def o198 (P : Params) : Obj := ⟨.none, none, (.func ⟨(qS "d_below"), (qS "d_below"), pA 27, .stmts (pB 27), pS 27, 0, [], .none, .none, .none, .none, none, .none, .none, 0⟩), ⟨[]⟩⟩
noncomputable def o199 (P : Params) : Obj := ⟨(.type "code"), none, (.fields ⟨[(.str (qS "d_below") 406), (.str (qS "d_below") 407), (.str (qS "/claim/cut.py") 408), (.int 82 0), (.int 1 0), (.int 0 0), (.int 0 0), (.int 3 0), (.ref 194), (.bool true), (.int 181 0), (.ref 195), .none, (.ref 196), (.ref 197), (.ref 198), (.int 410 0), (.int 82 0), (.str (qS "/claim/cut.py") 411)]⟩), ⟨[]⟩⟩
noncomputable def o200 (P : Params) : Obj := ⟨(.type "function"), none, (.func ⟨(qS "d_below"), (qS "d_below"), pA 27, .stmts (pB 27), pS 27, 3, [], .none, .none, .none, (.str (qS "minismt.ratios") 227), none, (.ref 199), .none, 0⟩), ⟨[]⟩⟩
noncomputable def tr6 (P : Params) : BT := (.node (boot_o_0 P) (.node (boot_o_1 P) (.node (o3v6 P) (.node (boot_o_7 P) (.node (o15 P) (.node (o31 P) (.node (o63 P) (.node (o127 P) .nil .nil) (.node (o191 P) .nil .nil)) (.node (o95 P) (.node (o159 P) .nil .nil) .nil)) (.node (o47 P) (.node (o79 P) (.node (o143 P) .nil .nil) .nil) (.node (o111 P) (.node (o175 P) .nil .nil) .nil))) (.node (o23 P) (.node (o39 P) (.node (o71 P) (.node (o135 P) .nil .nil) (.node (o199 P) .nil .nil)) (.node (o103 P) (.node (o167 P) .nil .nil) .nil)) (.node (o55 P) (.node (o87 P) (.node (o151 P) .nil .nil) .nil) (.node (o119 P) (.node (o183 P) .nil .nil) .nil)))) (.node (o11 P) (.node (o19 P) (.node (o35 P) (.node (o67 P) (.node (o131 P) .nil .nil) (.node (o195 P) .nil .nil)) (.node (o99 P) (.node (o163 P) .nil .nil) .nil)) (.node (o51 P) (.node (o83 P) (.node (o147 P) .nil .nil) .nil) (.node (o115 P) (.node (o179 P) .nil .nil) .nil))) (.node (o27 P) (.node (o43 P) (.node (o75 P) (.node (o139 P) .nil .nil) .nil) (.node (o107 P) (.node (o171 P) .nil .nil) .nil)) (.node (o59 P) (.node (o91 P) (.node (o155 P) .nil .nil) .nil) (.node (o123 P) (.node (o187 P) .nil .nil) .nil))))) (.node (boot_o_5 P) (.node (boot_o_9 P) (.node (o17 P) (.node (o33 P) (.node (o65 P) (.node (o129 P) .nil .nil) (.node (o193 P) .nil .nil)) (.node (o97 P) (.node (o161 P) .nil .nil) .nil)) (.node (o49 P) (.node (o81 P) (.node (o145 P) .nil .nil) .nil) (.node (o113 P) (.node (o177 P) .nil .nil) .nil))) (.node (o25 P) (.node (o41 P) (.node (o73 P) (.node (o137 P) .nil .nil) .nil) (.node (o105 P) (.node (o169 P) .nil .nil) .nil)) (.node (o57 P) (.node (o89 P) (.node (o153 P) .nil .nil) .nil) (.node (o121 P) (.node (o185 P) .nil .nil) .nil)))) (.node (o13 P) (.node (o21 P) (.node (o37 P) (.node (o69 P) (.node (o133 P) .nil .nil) (.node (o197 P) .nil .nil)) (.node (o101 P) (.node (o165 P) .nil .nil) .nil)) (.node (o53 P) (.node (o85 P) (.node (o149 P) .nil .nil) .nil) (.node (o117 P) (.node (o181 P) .nil .nil) .nil))) (.node (o29 P) (.node (o45 P) (.node (o77 P) (.node (o141 P) .nil .nil) .nil) (.node (o109 P) (.node (o173 P) .nil .nil) .nil)) (.node (o61 P) (.node (o93 P) (.node (o157 P) .nil .nil) .nil) (.node (o125 P) (.node (o189 P) .nil .nil) .nil)))))) (.node (o2v1 P) (.node (boot_o_4 P) (.node (boot_o_8 P) (.node (o16 P) (.node (o32 P) (.node (o64 P) (.node (o128 P) .nil .nil) (.node (o192 P) .nil .nil)) (.node (o96 P) (.node (o160 P) .nil .nil) .nil)) (.node (o48 P) (.node (o80 P) (.node (o144 P) .nil .nil) .nil) (.node (o112 P) (.node (o176 P) .nil .nil) .nil))) (.node (o24 P) (.node (o40 P) (.node (o72 P) (.node (o136 P) .nil .nil) (.node (o200 P) .nil .nil)) (.node (o104 P) (.node (o168 P) .nil .nil) .nil)) (.node (o56 P) (.node (o88 P) (.node (o152 P) .nil .nil) .nil) (.node (o120 P) (.node (o184 P) .nil .nil) .nil)))) (.node (o12v5 P) (.node (o20 P) (.node (o36 P) (.node (o68 P) (.node (o132 P) .nil .nil) (.node (o196 P) .nil .nil)) (.node (o100 P) (.node (o164 P) .nil .nil) .nil)) (.node (o52 P) (.node (o84 P) (.node (o148 P) .nil .nil) .nil) (.node (o116 P) (.node (o180 P) .nil .nil) .nil))) (.node (o28 P) (.node (o44 P) (.node (o76 P) (.node (o140 P) .nil .nil) .nil) (.node (o108 P) (.node (o172 P) .nil .nil) .nil)) (.node (o60 P) (.node (o92 P) (.node (o156 P) .nil .nil) .nil) (.node (o124 P) (.node (o188 P) .nil .nil) .nil))))) (.node (boot_o_6 P) (.node (boot_o_10 P) (.node (o18 P) (.node (o34 P) (.node (o66 P) (.node (o130 P) .nil .nil) (.node (o194 P) .nil .nil)) (.node (o98 P) (.node (o162 P) .nil .nil) .nil)) (.node (o50 P) (.node (o82 P) (.node (o146 P) .nil .nil) .nil) (.node (o114 P) (.node (o178 P) .nil .nil) .nil))) (.node (o26 P) (.node (o42 P) (.node (o74 P) (.node (o138 P) .nil .nil) .nil) (.node (o106 P) (.node (o170 P) .nil .nil) .nil)) (.node (o58 P) (.node (o90 P) (.node (o154 P) .nil .nil) .nil) (.node (o122 P) (.node (o186 P) .nil .nil) .nil)))) (.node (o14 P) (.node (o22 P) (.node (o38 P) (.node (o70 P) (.node (o134 P) .nil .nil) (.node (o198 P) .nil .nil)) (.node (o102 P) (.node (o166 P) .nil .nil) .nil)) (.node (o54 P) (.node (o86 P) (.node (o150 P) .nil .nil) .nil) (.node (o118 P) (.node (o182 P) .nil .nil) .nil))) (.node (o30 P) (.node (o46 P) (.node (o78 P) (.node (o142 P) .nil .nil) .nil) (.node (o110 P) (.node (o174 P) .nil .nil) .nil)) (.node (o62 P) (.node (o94 P) (.node (o158 P) .nil .nil) .nil) (.node (o126 P) (.node (o190 P) .nil .nil) .nil)))))))
noncomputable def o3v7 (P : Params) : Obj := ⟨(.type "dict"), none, (.dict ⟨[⟨(PyData.keyHash P (qS "__name__")), (.str (qS "__name__") 165), (.str (qS "minismt.ratios") 227)⟩, ⟨(PyData.keyHash P (qS "__doc__")), (.str (qS "__doc__") 166), .none⟩, ⟨(PyData.keyHash P (qS "__package__")), (.str (qS "__package__") 167), .none⟩, ⟨(PyData.keyHash P (qS "__loader__")), (.str (qS "__loader__") 168), (.builtin "__main__.__loader__#opaque")⟩, ⟨(PyData.keyHash P (qS "__spec__")), (.str (qS "__spec__") 169), .none⟩, ⟨(PyData.keyHash P (qS "__annotations__")), (.str (qS "__annotations__") 170), (.ref 6)⟩, ⟨(PyData.keyHash P (qS "__builtins__")), (.str (qS "__builtins__") 171), (.ref 4)⟩, ⟨(PyData.keyHash P (qS "__file__")), (.str (qS "__file__") 173), (.str (qS "/claim/cut.py") 172)⟩, ⟨(PyData.keyHash P (qS "__cached__")), (.str (qS "__cached__") 174), .none⟩, ⟨(PyData.keyHash P (qS "SmtError")), (.str (qS "SmtError") 226), (.ref 40)⟩, ⟨(PyData.keyHash P (qS "ZERO")), (.str (qS "ZERO") 231), (.ref 44)⟩, ⟨(PyData.keyHash P (qS "ONE")), (.str (qS "ONE") 234), (.ref 45)⟩, ⟨(PyData.keyHash P (qS "MINUS_ONE")), (.str (qS "MINUS_ONE") 238), (.ref 46)⟩, ⟨(PyData.keyHash P (qS "gcd_of")), (.str (qS "gcd_of") 246), (.ref 53)⟩, ⟨(PyData.keyHash P (qS "gcd_all")), (.str (qS "gcd_all") 255), (.ref 60)⟩, ⟨(PyData.keyHash P (qS "lcm_of")), (.str (qS "lcm_of") 263), (.ref 67)⟩, ⟨(PyData.keyHash P (qS "ratio")), (.str (qS "ratio") 272), (.ref 74)⟩, ⟨(PyData.keyHash P (qS "whole")), (.str (qS "whole") 279), (.ref 81)⟩, ⟨(PyData.keyHash P (qS "add")), (.str (qS "add") 287), (.ref 88)⟩, ⟨(PyData.keyHash P (qS "neg")), (.str (qS "neg") 294), (.ref 95)⟩, ⟨(PyData.keyHash P (qS "sub")), (.str (qS "sub") 302), (.ref 102)⟩, ⟨(PyData.keyHash P (qS "mul")), (.str (qS "mul") 310), (.ref 109)⟩, ⟨(PyData.keyHash P (qS "div")), (.str (qS "div") 318), (.ref 116)⟩, ⟨(PyData.keyHash P (qS "sign_of")), (.str (qS "sign_of") 325), (.ref 123)⟩, ⟨(PyData.keyHash P (qS "compare")), (.str (qS "compare") 335), (.ref 130)⟩, ⟨(PyData.keyHash P (qS "floor_of")), (.str (qS "floor_of") 342), (.ref 137)⟩, ⟨(PyData.keyHash P (qS "ceil_of")), (.str (qS "ceil_of") 349), (.ref 144)⟩, ⟨(PyData.keyHash P (qS "is_whole")), (.str (qS "is_whole") 356), (.ref 151)⟩, ⟨(PyData.keyHash P (qS "common_bottom")), (.str (qS "common_bottom") 365), (.ref 158)⟩, ⟨(PyData.keyHash P (qS "ratio_of_decimal")), (.str (qS "ratio_of_decimal") 374), (.ref 165)⟩, ⟨(PyData.keyHash P (qS "signed_text")), (.str (qS "signed_text") 382), (.ref 172)⟩, ⟨(PyData.keyHash P (qS "ratio_text")), (.str (qS "ratio_text") 390), (.ref 179)⟩, ⟨(PyData.keyHash P (qS "real_text")), (.str (qS "real_text") 398), (.ref 186)⟩, ⟨(PyData.keyHash P (qS "d_make")), (.str (qS "d_make") 405), (.ref 193)⟩, ⟨(PyData.keyHash P (qS "d_below")), (.str (qS "d_below") 412), (.ref 200)⟩, ⟨(PyData.keyHash P (qS "d_above")), (.str (qS "d_above") 419), (.ref 207)⟩, ⟨(PyData.keyHash P (qS "d_add")), (.str (qS "d_add") 427), (.ref 214)⟩, ⟨(PyData.keyHash P (qS "d_sub")), (.str (qS "d_sub") 435), (.ref 221)⟩, ⟨(PyData.keyHash P (qS "d_scale")), (.str (qS "d_scale") 443), (.ref 228)⟩, ⟨(PyData.keyHash P (qS "d_compare")), (.str (qS "d_compare") 452), (.ref 235)⟩, ⟨(PyData.keyHash P (qS "d_at")), (.str (qS "d_at") 460), (.ref 242)⟩]⟩ 41), ⟨[]⟩⟩
noncomputable def o12v6 (P : Params) : Obj := ⟨.none, none, (.fields ⟨[(.int 2 0), (.int 0 0), (.ref 21), (.int 14 0), (.int 0 0), (.ref 52), (.int 19 0), (.int 0 0), (.ref 59), (.int 26 0), (.int 0 0), (.ref 66), (.int 28 0), (.int 0 0), (.ref 73), (.int 35 0), (.int 0 0), (.ref 80), (.int 37 0), (.int 0 0), (.ref 87), (.int 41 0), (.int 0 0), (.ref 94), (.int 43 0), (.int 0 0), (.ref 101), (.int 45 0), (.int 0 0), (.ref 108), (.int 49 0), (.int 0 0), (.ref 115), (.int 53 0), (.int 0 0), (.ref 122), (.int 55 0), (.int 0 0), (.ref 129), (.int 58 0), (.int 0 0), (.ref 136), (.int 60 0), (.int 0 0), (.ref 143), (.int 62 0), (.int 0 0), (.ref 150), (.int 64 0), (.int 0 0), (.ref 157), (.int 69 0), (.int 0 0), (.ref 164), (.int 72 0), (.int 0 0), (.ref 171), (.int 74 0), (.int 0 0), (.ref 178), (.int 77 0), (.int 0 0), (.ref 185), (.int 80 0), (.int 0 0), (.ref 192), (.int 82 0), (.int 0 0), (.ref 199), (.int 84 0), (.int 0 0), (.ref 206), (.int 86 0), (.int 0 0), (.ref 213), (.int 88 0), (.int 0 0), (.ref 220), (.int 90 0), (.int 0 0), (.ref 227), (.int 92 0), (.int 0 0), (.ref 234), (.int 95 0), (.int 0 0), (.ref 241)]⟩), ⟨[]⟩⟩
noncomputable def o201 (P : Params) : Obj := ⟨(.type "tuple"), none, (.seq ⟨[]⟩ 0), ⟨[]⟩⟩
noncomputable def o202 (P : Params) : Obj := ⟨.none, none, (.fields ⟨[]⟩), ⟨[]⟩⟩
noncomputable def o203 (P : Params) : Obj := ⟨(.type "tuple"), none, (.seq ⟨[(.str (qS "r") 416)]⟩ 0), ⟨[]⟩⟩
noncomputable def o204 (P : Params) : Obj := ⟨(.type "tuple"), none, (.seq ⟨[]⟩ 0), ⟨[]⟩⟩
noncomputable def o205 (P : Params) : Obj := ⟨.none, none, (.func ⟨(qS "d_above"), (qS "d_above"), pA 28, .stmts (pB 28), pS 28, 0, [], .none, .none, .none, .none, none, .none, .none, 0⟩), ⟨[]⟩⟩
noncomputable def o206 (P : Params) : Obj := ⟨(.type "code"), none, (.fields ⟨[(.str (qS "d_above") 413), (.str (qS "d_above") 414), (.str (qS "/claim/cut.py") 415), (.int 84 0), (.int 1 0), (.int 0 0), (.int 0 0), (.int 3 0), (.ref 201), (.bool true), (.int 181 0), (.ref 202), .none, (.ref 203), (.ref 204), (.ref 205), (.int 417 0), (.int 84 0), (.str (qS "/claim/cut.py") 418)]⟩), ⟨[]⟩⟩
noncomputable def o207 (P : Params) : Obj := ⟨(.type "function"), none, (.func ⟨(qS "d_above"), (qS "d_above"), pA 28, .stmts (pB 28), pS 28, 3, [], .none, .none, .none, (.str (qS "minismt.ratios") 227), none, (.ref 206), .none, 0⟩), ⟨[]⟩⟩
noncomputable def o208 (P : Params) : Obj := ⟨(.type "tuple"), none, (.seq ⟨[]⟩ 0), ⟨[]⟩⟩
noncomputable def o209 (P : Params) : Obj := ⟨.none, none, (.fields ⟨[]⟩), ⟨[]⟩⟩
noncomputable def o210 (P : Params) : Obj := ⟨(.type "tuple"), none, (.seq ⟨[(.str (qS "a") 423), (.str (qS "b") 424)]⟩ 0), ⟨[]⟩⟩
noncomputable def o211 (P : Params) : Obj := ⟨(.type "tuple"), none, (.seq ⟨[]⟩ 0), ⟨[]⟩⟩
noncomputable def o212 (P : Params) : Obj := ⟨.none, none, (.func ⟨(qS "d_add"), (qS "d_add"), pA 29, .stmts (pB 29), pS 29, 0, [], .none, .none, .none, .none, none, .none, .none, 0⟩), ⟨[]⟩⟩
noncomputable def o213 (P : Params) : Obj := ⟨(.type "code"), none, (.fields ⟨[(.str (qS "d_add") 420), (.str (qS "d_add") 421), (.str (qS "/claim/cut.py") 422), (.int 86 0), (.int 2 0), (.int 0 0), (.int 0 0), (.int 3 0), (.ref 208), (.bool true), (.int 181 0), (.ref 209), .none, (.ref 210), (.ref 211), (.ref 212), (.int 425 0), (.int 86 0), (.str (qS "/claim/cut.py") 426)]⟩), ⟨[]⟩⟩
noncomputable def o214 (P : Params) : Obj := ⟨(.type "function"), none, (.func ⟨(qS "d_add"), (qS "d_add"), pA 29, .stmts (pB 29), pS 29, 3, [], .none, .none, .none, (.str (qS "minismt.ratios") 227), none, (.ref 213), .none, 0⟩), ⟨[]⟩⟩
noncomputable def o215 (P : Params) : Obj := ⟨(.type "tuple"), none, (.seq ⟨[]⟩ 0), ⟨[]⟩⟩
noncomputable def o216 (P : Params) : Obj := ⟨.none, none, (.fields ⟨[]⟩), ⟨[]⟩⟩
noncomputable def o217 (P : Params) : Obj := ⟨(.type "tuple"), none, (.seq ⟨[(.str (qS "a") 431), (.str (qS "b") 432)]⟩ 0), ⟨[]⟩⟩
noncomputable def o218 (P : Params) : Obj := ⟨(.type "tuple"), none, (.seq ⟨[]⟩ 0), ⟨[]⟩⟩
noncomputable def o219 (P : Params) : Obj := ⟨.none, none, (.func ⟨(qS "d_sub"), (qS "d_sub"), pA 30, .stmts (pB 30), pS 30, 0, [], .none, .none, .none, .none, none, .none, .none, 0⟩), ⟨[]⟩⟩
noncomputable def o220 (P : Params) : Obj := ⟨(.type "code"), none, (.fields ⟨[(.str (qS "d_sub") 428), (.str (qS "d_sub") 429), (.str (qS "/claim/cut.py") 430), (.int 88 0), (.int 2 0), (.int 0 0), (.int 0 0), (.int 3 0), (.ref 215), (.bool true), (.int 181 0), (.ref 216), .none, (.ref 217), (.ref 218), (.ref 219), (.int 433 0), (.int 88 0), (.str (qS "/claim/cut.py") 434)]⟩), ⟨[]⟩⟩
noncomputable def o221 (P : Params) : Obj := ⟨(.type "function"), none, (.func ⟨(qS "d_sub"), (qS "d_sub"), pA 30, .stmts (pB 30), pS 30, 3, [], .none, .none, .none, (.str (qS "minismt.ratios") 227), none, (.ref 220), .none, 0⟩), ⟨[]⟩⟩
noncomputable def o222 (P : Params) : Obj := ⟨(.type "tuple"), none, (.seq ⟨[]⟩ 0), ⟨[]⟩⟩
noncomputable def o223 (P : Params) : Obj := ⟨.none, none, (.fields ⟨[]⟩), ⟨[]⟩⟩
noncomputable def o224 (P : Params) : Obj := ⟨(.type "tuple"), none, (.seq ⟨[(.str (qS "d") 439), (.str (qS "r") 440)]⟩ 0), ⟨[]⟩⟩
noncomputable def o225 (P : Params) : Obj := ⟨(.type "tuple"), none, (.seq ⟨[]⟩ 0), ⟨[]⟩⟩
noncomputable def o226 (P : Params) : Obj := ⟨.none, none, (.func ⟨(qS "d_scale"), (qS "d_scale"), pA 31, .stmts (pB 31), pS 31, 0, [], .none, .none, .none, .none, none, .none, .none, 0⟩), ⟨[]⟩⟩
noncomputable def o227 (P : Params) : Obj := ⟨(.type "code"), none, (.fields ⟨[(.str (qS "d_scale") 436), (.str (qS "d_scale") 437), (.str (qS "/claim/cut.py") 438), (.int 90 0), (.int 2 0), (.int 0 0), (.int 0 0), (.int 3 0), (.ref 222), (.bool true), (.int 181 0), (.ref 223), .none, (.ref 224), (.ref 225), (.ref 226), (.int 441 0), (.int 90 0), (.str (qS "/claim/cut.py") 442)]⟩), ⟨[]⟩⟩
noncomputable def o228 (P : Params) : Obj := ⟨(.type "function"), none, (.func ⟨(qS "d_scale"), (qS "d_scale"), pA 31, .stmts (pB 31), pS 31, 3, [], .none, .none, .none, (.str (qS "minismt.ratios") 227), none, (.ref 227), .none, 0⟩), ⟨[]⟩⟩
noncomputable def o229 (P : Params) : Obj := ⟨(.type "tuple"), none, (.seq ⟨[]⟩ 0), ⟨[]⟩⟩
noncomputable def o230 (P : Params) : Obj := ⟨.none, none, (.fields ⟨[]⟩), ⟨[]⟩⟩
noncomputable def o231 (P : Params) : Obj := ⟨(.type "tuple"), none, (.seq ⟨[(.str (qS "a") 447), (.str (qS "b") 448), (.str (qS "first") 449)]⟩ 0), ⟨[]⟩⟩
noncomputable def o232 (P : Params) : Obj := ⟨(.type "tuple"), none, (.seq ⟨[]⟩ 0), ⟨[]⟩⟩
noncomputable def o233 (P : Params) : Obj := ⟨.none, none, (.func ⟨(qS "d_compare"), (qS "d_compare"), pA 32, .stmts (pB 32), pS 32, 0, [], .none, .none, .none, .none, none, .none, .none, 0⟩), ⟨[]⟩⟩
noncomputable def o234 (P : Params) : Obj := ⟨(.type "code"), none, (.fields ⟨[(.str (qS "d_compare") 444), (.str (qS "d_compare") 445), (.str (qS "/claim/cut.py") 446), (.int 92 0), (.int 2 0), (.int 0 0), (.int 0 0), (.int 3 0), (.ref 229), (.bool true), (.int 181 0), (.ref 230), .none, (.ref 231), (.ref 232), (.ref 233), (.int 450 0), (.int 92 0), (.str (qS "/claim/cut.py") 451)]⟩), ⟨[]⟩⟩
noncomputable def o235 (P : Params) : Obj := ⟨(.type "function"), none, (.func ⟨(qS "d_compare"), (qS "d_compare"), pA 32, .stmts (pB 32), pS 32, 3, [], .none, .none, .none, (.str (qS "minismt.ratios") 227), none, (.ref 234), .none, 0⟩), ⟨[]⟩⟩
noncomputable def o236 (P : Params) : Obj := ⟨(.type "tuple"), none, (.seq ⟨[]⟩ 0), ⟨[]⟩⟩
noncomputable def o237 (P : Params) : Obj := ⟨.none, none, (.fields ⟨[]⟩), ⟨[]⟩⟩
noncomputable def o238 (P : Params) : Obj := ⟨(.type "tuple"), none, (.seq ⟨[(.str (qS "d") 456), (.str (qS "small") 457)]⟩ 0), ⟨[]⟩⟩
noncomputable def o239 (P : Params) : Obj := ⟨(.type "tuple"), none, (.seq ⟨[]⟩ 0), ⟨[]⟩⟩
noncomputable def o240 (P : Params) : Obj := ⟨.none, none, (.func ⟨(qS "d_at"), (qS "d_at"), pA 33, .stmts (pB 33), pS 33, 0, [], .none, .none, .none, .none, none, .none, .none, 0⟩), ⟨[]⟩⟩
noncomputable def o241 (P : Params) : Obj := ⟨(.type "code"), none, (.fields ⟨[(.str (qS "d_at") 453), (.str (qS "d_at") 454), (.str (qS "/claim/cut.py") 455), (.int 95 0), (.int 2 0), (.int 0 0), (.int 0 0), (.int 3 0), (.ref 236), (.bool true), (.int 181 0), (.ref 237), .none, (.ref 238), (.ref 239), (.ref 240), (.int 458 0), (.int 95 0), (.str (qS "/claim/cut.py") 459)]⟩), ⟨[]⟩⟩
noncomputable def o242 (P : Params) : Obj := ⟨(.type "function"), none, (.func ⟨(qS "d_at"), (qS "d_at"), pA 33, .stmts (pB 33), pS 33, 3, [], .none, .none, .none, (.str (qS "minismt.ratios") 227), none, (.ref 241), .none, 0⟩), ⟨[]⟩⟩
noncomputable def tr7 (P : Params) : BT := (.node (boot_o_0 P) (.node (boot_o_1 P) (.node (o3v7 P) (.node (boot_o_7 P) (.node (o15 P) (.node (o31 P) (.node (o63 P) (.node (o127 P) .nil .nil) (.node (o191 P) .nil .nil)) (.node (o95 P) (.node (o159 P) .nil .nil) (.node (o223 P) .nil .nil))) (.node (o47 P) (.node (o79 P) (.node (o143 P) .nil .nil) (.node (o207 P) .nil .nil)) (.node (o111 P) (.node (o175 P) .nil .nil) (.node (o239 P) .nil .nil)))) (.node (o23 P) (.node (o39 P) (.node (o71 P) (.node (o135 P) .nil .nil) (.node (o199 P) .nil .nil)) (.node (o103 P) (.node (o167 P) .nil .nil) (.node (o231 P) .nil .nil))) (.node (o55 P) (.node (o87 P) (.node (o151 P) .nil .nil) (.node (o215 P) .nil .nil)) (.node (o119 P) (.node (o183 P) .nil .nil) .nil)))) (.node (o11 P) (.node (o19 P) (.node (o35 P) (.node (o67 P) (.node (o131 P) .nil .nil) (.node (o195 P) .nil .nil)) (.node (o99 P) (.node (o163 P) .nil .nil) (.node (o227 P) .nil .nil))) (.node (o51 P) (.node (o83 P) (.node (o147 P) .nil .nil) (.node (o211 P) .nil .nil)) (.node (o115 P) (.node (o179 P) .nil .nil) .nil))) (.node (o27 P) (.node (o43 P) (.node (o75 P) (.node (o139 P) .nil .nil) (.node (o203 P) .nil .nil)) (.node (o107 P) (.node (o171 P) .nil .nil) (.node (o235 P) .nil .nil))) (.node (o59 P) (.node (o91 P) (.node (o155 P) .nil .nil) (.node (o219 P) .nil .nil)) (.node (o123 P) (.node (o187 P) .nil .nil) .nil))))) (.node (boot_o_5 P) (.node (boot_o_9 P) (.node (o17 P) (.node (o33 P) (.node (o65 P) (.node (o129 P) .nil .nil) (.node (o193 P) .nil .nil)) (.node (o97 P) (.node (o161 P) .nil .nil) (.node (o225 P) .nil .nil))) (.node (o49 P) (.node (o81 P) (.node (o145 P) .nil .nil) (.node (o209 P) .nil .nil)) (.node (o113 P) (.node (o177 P) .nil .nil) (.node (o241 P) .nil .nil)))) (.node (o25 P) (.node (o41 P) (.node (o73 P) (.node (o137 P) .nil .nil) (.node (o201 P) .nil .nil)) (.node (o105 P) (.node (o169 P) .nil .nil) (.node (o233 P) .nil .nil))) (.node (o57 P) (.node (o89 P) (.node (o153 P) .nil .nil) (.node (o217 P) .nil .nil)) (.node (o121 P) (.node (o185 P) .nil .nil) .nil)))) (.node (o13 P) (.node (o21 P) (.node (o37 P) (.node (o69 P) (.node (o133 P) .nil .nil) (.node (o197 P) .nil .nil)) (.node (o101 P) (.node (o165 P) .nil .nil) (.node (o229 P) .nil .nil))) (.node (o53 P) (.node (o85 P) (.node (o149 P) .nil .nil) (.node (o213 P) .nil .nil)) (.node (o117 P) (.node (o181 P) .nil .nil) .nil))) (.node (o29 P) (.node (o45 P) (.node (o77 P) (.node (o141 P) .nil .nil) (.node (o205 P) .nil .nil)) (.node (o109 P) (.node (o173 P) .nil .nil) (.node (o237 P) .nil .nil))) (.node (o61 P) (.node (o93 P) (.node (o157 P) .nil .nil) (.node (o221 P) .nil .nil)) (.node (o125 P) (.node (o189 P) .nil .nil) .nil)))))) (.node (o2v1 P) (.node (boot_o_4 P) (.node (boot_o_8 P) (.node (o16 P) (.node (o32 P) (.node (o64 P) (.node (o128 P) .nil .nil) (.node (o192 P) .nil .nil)) (.node (o96 P) (.node (o160 P) .nil .nil) (.node (o224 P) .nil .nil))) (.node (o48 P) (.node (o80 P) (.node (o144 P) .nil .nil) (.node (o208 P) .nil .nil)) (.node (o112 P) (.node (o176 P) .nil .nil) (.node (o240 P) .nil .nil)))) (.node (o24 P) (.node (o40 P) (.node (o72 P) (.node (o136 P) .nil .nil) (.node (o200 P) .nil .nil)) (.node (o104 P) (.node (o168 P) .nil .nil) (.node (o232 P) .nil .nil))) (.node (o56 P) (.node (o88 P) (.node (o152 P) .nil .nil) (.node (o216 P) .nil .nil)) (.node (o120 P) (.node (o184 P) .nil .nil) .nil)))) (.node (o12v6 P) (.node (o20 P) (.node (o36 P) (.node (o68 P) (.node (o132 P) .nil .nil) (.node (o196 P) .nil .nil)) (.node (o100 P) (.node (o164 P) .nil .nil) (.node (o228 P) .nil .nil))) (.node (o52 P) (.node (o84 P) (.node (o148 P) .nil .nil) (.node (o212 P) .nil .nil)) (.node (o116 P) (.node (o180 P) .nil .nil) .nil))) (.node (o28 P) (.node (o44 P) (.node (o76 P) (.node (o140 P) .nil .nil) (.node (o204 P) .nil .nil)) (.node (o108 P) (.node (o172 P) .nil .nil) (.node (o236 P) .nil .nil))) (.node (o60 P) (.node (o92 P) (.node (o156 P) .nil .nil) (.node (o220 P) .nil .nil)) (.node (o124 P) (.node (o188 P) .nil .nil) .nil))))) (.node (boot_o_6 P) (.node (boot_o_10 P) (.node (o18 P) (.node (o34 P) (.node (o66 P) (.node (o130 P) .nil .nil) (.node (o194 P) .nil .nil)) (.node (o98 P) (.node (o162 P) .nil .nil) (.node (o226 P) .nil .nil))) (.node (o50 P) (.node (o82 P) (.node (o146 P) .nil .nil) (.node (o210 P) .nil .nil)) (.node (o114 P) (.node (o178 P) .nil .nil) (.node (o242 P) .nil .nil)))) (.node (o26 P) (.node (o42 P) (.node (o74 P) (.node (o138 P) .nil .nil) (.node (o202 P) .nil .nil)) (.node (o106 P) (.node (o170 P) .nil .nil) (.node (o234 P) .nil .nil))) (.node (o58 P) (.node (o90 P) (.node (o154 P) .nil .nil) (.node (o218 P) .nil .nil)) (.node (o122 P) (.node (o186 P) .nil .nil) .nil)))) (.node (o14 P) (.node (o22 P) (.node (o38 P) (.node (o70 P) (.node (o134 P) .nil .nil) (.node (o198 P) .nil .nil)) (.node (o102 P) (.node (o166 P) .nil .nil) (.node (o230 P) .nil .nil))) (.node (o54 P) (.node (o86 P) (.node (o150 P) .nil .nil) (.node (o214 P) .nil .nil)) (.node (o118 P) (.node (o182 P) .nil .nil) .nil))) (.node (o30 P) (.node (o46 P) (.node (o78 P) (.node (o142 P) .nil .nil) (.node (o206 P) .nil .nil)) (.node (o110 P) (.node (o174 P) .nil .nil) (.node (o238 P) .nil .nil))) (.node (o62 P) (.node (o94 P) (.node (o158 P) .nil .nil) (.node (o222 P) .nil .nil)) (.node (o126 P) (.node (o190 P) .nil .nil) .nil)))))))
noncomputable def o3v8 (P : Params) : Obj := ⟨(.type "dict"), none, (.dict ⟨[⟨(PyData.keyHash P (qS "__name__")), (.str (qS "__name__") 165), (.str (qS "law_no0004_01") 471)⟩, ⟨(PyData.keyHash P (qS "__doc__")), (.str (qS "__doc__") 166), .none⟩, ⟨(PyData.keyHash P (qS "__package__")), (.str (qS "__package__") 167), .none⟩, ⟨(PyData.keyHash P (qS "__loader__")), (.str (qS "__loader__") 168), (.builtin "__main__.__loader__#opaque")⟩, ⟨(PyData.keyHash P (qS "__spec__")), (.str (qS "__spec__") 169), .none⟩, ⟨(PyData.keyHash P (qS "__annotations__")), (.str (qS "__annotations__") 170), (.ref 6)⟩, ⟨(PyData.keyHash P (qS "__builtins__")), (.str (qS "__builtins__") 171), (.ref 4)⟩, ⟨(PyData.keyHash P (qS "__file__")), (.str (qS "__file__") 173), (.str (qS "/claim/cut.py") 172)⟩, ⟨(PyData.keyHash P (qS "__cached__")), (.str (qS "__cached__") 174), .none⟩, ⟨(PyData.keyHash P (qS "SmtError")), (.str (qS "SmtError") 226), (.ref 40)⟩, ⟨(PyData.keyHash P (qS "ZERO")), (.str (qS "ZERO") 231), (.ref 44)⟩, ⟨(PyData.keyHash P (qS "ONE")), (.str (qS "ONE") 234), (.ref 45)⟩, ⟨(PyData.keyHash P (qS "MINUS_ONE")), (.str (qS "MINUS_ONE") 238), (.ref 46)⟩, ⟨(PyData.keyHash P (qS "gcd_of")), (.str (qS "gcd_of") 246), (.ref 53)⟩, ⟨(PyData.keyHash P (qS "gcd_all")), (.str (qS "gcd_all") 255), (.ref 60)⟩, ⟨(PyData.keyHash P (qS "lcm_of")), (.str (qS "lcm_of") 263), (.ref 67)⟩, ⟨(PyData.keyHash P (qS "ratio")), (.str (qS "ratio") 272), (.ref 74)⟩, ⟨(PyData.keyHash P (qS "whole")), (.str (qS "whole") 279), (.ref 81)⟩, ⟨(PyData.keyHash P (qS "add")), (.str (qS "add") 287), (.ref 88)⟩, ⟨(PyData.keyHash P (qS "neg")), (.str (qS "neg") 294), (.ref 95)⟩, ⟨(PyData.keyHash P (qS "sub")), (.str (qS "sub") 302), (.ref 102)⟩, ⟨(PyData.keyHash P (qS "mul")), (.str (qS "mul") 310), (.ref 109)⟩, ⟨(PyData.keyHash P (qS "div")), (.str (qS "div") 318), (.ref 116)⟩, ⟨(PyData.keyHash P (qS "sign_of")), (.str (qS "sign_of") 325), (.ref 123)⟩, ⟨(PyData.keyHash P (qS "compare")), (.str (qS "compare") 335), (.ref 130)⟩, ⟨(PyData.keyHash P (qS "floor_of")), (.str (qS "floor_of") 342), (.ref 137)⟩, ⟨(PyData.keyHash P (qS "ceil_of")), (.str (qS "ceil_of") 349), (.ref 144)⟩, ⟨(PyData.keyHash P (qS "is_whole")), (.str (qS "is_whole") 356), (.ref 151)⟩, ⟨(PyData.keyHash P (qS "common_bottom")), (.str (qS "common_bottom") 365), (.ref 158)⟩, ⟨(PyData.keyHash P (qS "ratio_of_decimal")), (.str (qS "ratio_of_decimal") 374), (.ref 165)⟩, ⟨(PyData.keyHash P (qS "signed_text")), (.str (qS "signed_text") 382), (.ref 172)⟩, ⟨(PyData.keyHash P (qS "ratio_text")), (.str (qS "ratio_text") 390), (.ref 179)⟩, ⟨(PyData.keyHash P (qS "real_text")), (.str (qS "real_text") 398), (.ref 186)⟩, ⟨(PyData.keyHash P (qS "d_make")), (.str (qS "d_make") 405), (.ref 193)⟩, ⟨(PyData.keyHash P (qS "d_below")), (.str (qS "d_below") 412), (.ref 200)⟩, ⟨(PyData.keyHash P (qS "d_above")), (.str (qS "d_above") 419), (.ref 207)⟩, ⟨(PyData.keyHash P (qS "d_add")), (.str (qS "d_add") 427), (.ref 214)⟩, ⟨(PyData.keyHash P (qS "d_sub")), (.str (qS "d_sub") 435), (.ref 221)⟩, ⟨(PyData.keyHash P (qS "d_scale")), (.str (qS "d_scale") 443), (.ref 228)⟩, ⟨(PyData.keyHash P (qS "d_compare")), (.str (qS "d_compare") 452), (.ref 235)⟩, ⟨(PyData.keyHash P (qS "d_at")), (.str (qS "d_at") 460), (.ref 242)⟩, ⟨(PyData.keyHash P (qS "d_room")), (.str (qS "d_room") 470), (.ref 249)⟩, ⟨(PyData.keyHash P (qS "_law_drawn")), (.str (qS "_law_drawn") 481), (.ref 256)⟩, ⟨(PyData.keyHash P (qS "_law_common")), (.str (qS "_law_common") 490), (.ref 263)⟩, ⟨(PyData.keyHash P (qS "_law_sign")), (.str (qS "_law_sign") 498), (.ref 270)⟩, ⟨(PyData.keyHash P (qS "_law_is")), (.str (qS "_law_is") 507), (.ref 277)⟩]⟩ 46), ⟨[]⟩⟩
noncomputable def o12v7 (P : Params) : Obj := ⟨.none, none, (.fields ⟨[(.int 2 0), (.int 0 0), (.ref 21), (.int 14 0), (.int 0 0), (.ref 52), (.int 19 0), (.int 0 0), (.ref 59), (.int 26 0), (.int 0 0), (.ref 66), (.int 28 0), (.int 0 0), (.ref 73), (.int 35 0), (.int 0 0), (.ref 80), (.int 37 0), (.int 0 0), (.ref 87), (.int 41 0), (.int 0 0), (.ref 94), (.int 43 0), (.int 0 0), (.ref 101), (.int 45 0), (.int 0 0), (.ref 108), (.int 49 0), (.int 0 0), (.ref 115), (.int 53 0), (.int 0 0), (.ref 122), (.int 55 0), (.int 0 0), (.ref 129), (.int 58 0), (.int 0 0), (.ref 136), (.int 60 0), (.int 0 0), (.ref 143), (.int 62 0), (.int 0 0), (.ref 150), (.int 64 0), (.int 0 0), (.ref 157), (.int 69 0), (.int 0 0), (.ref 164), (.int 72 0), (.int 0 0), (.ref 171), (.int 74 0), (.int 0 0), (.ref 178), (.int 77 0), (.int 0 0), (.ref 185), (.int 80 0), (.int 0 0), (.ref 192), (.int 82 0), (.int 0 0), (.ref 199), (.int 84 0), (.int 0 0), (.ref 206), (.int 86 0), (.int 0 0), (.ref 213), (.int 88 0), (.int 0 0), (.ref 220), (.int 90 0), (.int 0 0), (.ref 227), (.int 92 0), (.int 0 0), (.ref 234), (.int 95 0), (.int 0 0), (.ref 241), (.int 97 0), (.int 0 0), (.ref 248), (.int 103 0), (.int 0 0), (.ref 255), (.int 108 0), (.int 0 0), (.ref 262), (.int 124 0), (.int 0 0), (.ref 269), (.int 128 0), (.int 0 0), (.ref 276)]⟩), ⟨[]⟩⟩
noncomputable def o243 (P : Params) : Obj := ⟨(.type "tuple"), none, (.seq ⟨[]⟩ 0), ⟨[]⟩⟩
noncomputable def o244 (P : Params) : Obj := ⟨.none, none, (.fields ⟨[]⟩), ⟨[]⟩⟩
noncomputable def o245 (P : Params) : Obj := ⟨(.type "tuple"), none, (.seq ⟨[(.str (qS "low") 464), (.str (qS "high") 465), (.str (qS "gap") 466), (.str (qS "rise") 467)]⟩ 0), ⟨[]⟩⟩
noncomputable def o246 (P : Params) : Obj := ⟨(.type "tuple"), none, (.seq ⟨[]⟩ 0), ⟨[]⟩⟩
noncomputable def o247 (P : Params) : Obj := ⟨.none, none, (.func ⟨(qS "d_room"), (qS "d_room"), pA 34, .stmts (pB 34), pS 34, 0, [], .none, .none, .none, .none, none, .none, .none, 0⟩), ⟨[]⟩⟩
noncomputable def o248 (P : Params) : Obj := ⟨(.type "code"), none, (.fields ⟨[(.str (qS "d_room") 461), (.str (qS "d_room") 462), (.str (qS "/claim/cut.py") 463), (.int 97 0), (.int 2 0), (.int 0 0), (.int 0 0), (.int 3 0), (.ref 243), (.bool true), (.int 181 0), (.ref 244), .none, (.ref 245), (.ref 246), (.ref 247), (.int 468 0), (.int 97 0), (.str (qS "/claim/cut.py") 469)]⟩), ⟨[]⟩⟩
noncomputable def o249 (P : Params) : Obj := ⟨(.type "function"), none, (.func ⟨(qS "d_room"), (qS "d_room"), pA 34, .stmts (pB 34), pS 34, 3, [], .none, .none, .none, (.str (qS "minismt.ratios") 227), none, (.ref 248), .none, 0⟩), ⟨[]⟩⟩
noncomputable def o250 (P : Params) : Obj := ⟨(.type "tuple"), none, (.seq ⟨[]⟩ 0), ⟨[]⟩⟩
noncomputable def o251 (P : Params) : Obj := ⟨.none, none, (.fields ⟨[]⟩), ⟨[]⟩⟩
noncomputable def o252 (P : Params) : Obj := ⟨(.type "tuple"), none, (.seq ⟨[(.str (qS "script") 476), (.str (qS "many") 477), (.str (qS "found") 478)]⟩ 0), ⟨[]⟩⟩
noncomputable def o253 (P : Params) : Obj := ⟨(.type "tuple"), none, (.seq ⟨[]⟩ 0), ⟨[]⟩⟩
noncomputable def o254 (P : Params) : Obj := ⟨.none, none, (.func ⟨(qS "_law_drawn"), (qS "_law_drawn"), pA 36, .stmts (pB 36), pS 36, 0, [], .none, .none, .none, .none, none, .none, .none, 0⟩), ⟨[]⟩⟩
noncomputable def o255 (P : Params) : Obj := ⟨(.type "code"), none, (.fields ⟨[(.str (qS "_law_drawn") 473), (.str (qS "_law_drawn") 474), (.str (qS "/claim/cut.py") 475), (.int 103 0), (.int 2 0), (.int 0 0), (.int 0 0), (.int 3 0), (.ref 250), (.bool true), (.int 181 0), (.ref 251), .none, (.ref 252), (.ref 253), (.ref 254), (.int 479 0), (.int 103 0), (.str (qS "/claim/cut.py") 480)]⟩), ⟨[]⟩⟩
noncomputable def o256 (P : Params) : Obj := ⟨(.type "function"), none, (.func ⟨(qS "_law_drawn"), (qS "_law_drawn"), pA 36, .stmts (pB 36), pS 36, 3, [], .none, .none, .none, (.str (qS "law_no0004_01") 471), none, (.ref 255), .none, 0⟩), ⟨[]⟩⟩
noncomputable def o257 (P : Params) : Obj := ⟨(.type "tuple"), none, (.seq ⟨[]⟩ 0), ⟨[]⟩⟩
noncomputable def o258 (P : Params) : Obj := ⟨.none, none, (.fields ⟨[]⟩), ⟨[]⟩⟩
noncomputable def o259 (P : Params) : Obj := ⟨(.type "tuple"), none, (.seq ⟨[(.str (qS "a") 485), (.str (qS "b") 486), (.str (qS "twos") 487)]⟩ 0), ⟨[]⟩⟩
noncomputable def o260 (P : Params) : Obj := ⟨(.type "tuple"), none, (.seq ⟨[]⟩ 0), ⟨[]⟩⟩
noncomputable def o261 (P : Params) : Obj := ⟨.none, none, (.func ⟨(qS "_law_common"), (qS "_law_common"), pA 37, .stmts (pB 37), pS 37, 0, [], .none, .none, .none, .none, none, .none, .none, 0⟩), ⟨[]⟩⟩
noncomputable def o262 (P : Params) : Obj := ⟨(.type "code"), none, (.fields ⟨[(.str (qS "_law_common") 482), (.str (qS "_law_common") 483), (.str (qS "/claim/cut.py") 484), (.int 108 0), (.int 2 0), (.int 0 0), (.int 0 0), (.int 3 0), (.ref 257), (.bool true), (.int 181 0), (.ref 258), .none, (.ref 259), (.ref 260), (.ref 261), (.int 488 0), (.int 108 0), (.str (qS "/claim/cut.py") 489)]⟩), ⟨[]⟩⟩
noncomputable def o263 (P : Params) : Obj := ⟨(.type "function"), none, (.func ⟨(qS "_law_common"), (qS "_law_common"), pA 37, .stmts (pB 37), pS 37, 3, [], .none, .none, .none, (.str (qS "law_no0004_01") 471), none, (.ref 262), .none, 0⟩), ⟨[]⟩⟩
noncomputable def o264 (P : Params) : Obj := ⟨(.type "tuple"), none, (.seq ⟨[]⟩ 0), ⟨[]⟩⟩
noncomputable def o265 (P : Params) : Obj := ⟨.none, none, (.fields ⟨[]⟩), ⟨[]⟩⟩
noncomputable def o266 (P : Params) : Obj := ⟨(.type "tuple"), none, (.seq ⟨[(.str (qS "a") 494), (.str (qS "b") 495)]⟩ 0), ⟨[]⟩⟩
noncomputable def o267 (P : Params) : Obj := ⟨(.type "tuple"), none, (.seq ⟨[]⟩ 0), ⟨[]⟩⟩
noncomputable def o268 (P : Params) : Obj := ⟨.none, none, (.func ⟨(qS "_law_sign"), (qS "_law_sign"), pA 38, .stmts (pB 38), pS 38, 0, [], .none, .none, .none, .none, none, .none, .none, 0⟩), ⟨[]⟩⟩
noncomputable def o269 (P : Params) : Obj := ⟨(.type "code"), none, (.fields ⟨[(.str (qS "_law_sign") 491), (.str (qS "_law_sign") 492), (.str (qS "/claim/cut.py") 493), (.int 124 0), (.int 2 0), (.int 0 0), (.int 0 0), (.int 3 0), (.ref 264), (.bool true), (.int 181 0), (.ref 265), .none, (.ref 266), (.ref 267), (.ref 268), (.int 496 0), (.int 124 0), (.str (qS "/claim/cut.py") 497)]⟩), ⟨[]⟩⟩
noncomputable def o270 (P : Params) : Obj := ⟨(.type "function"), none, (.func ⟨(qS "_law_sign"), (qS "_law_sign"), pA 38, .stmts (pB 38), pS 38, 3, [], .none, .none, .none, (.str (qS "law_no0004_01") 471), none, (.ref 269), .none, 0⟩), ⟨[]⟩⟩
noncomputable def o271 (P : Params) : Obj := ⟨(.type "tuple"), none, (.seq ⟨[]⟩ 0), ⟨[]⟩⟩
noncomputable def o272 (P : Params) : Obj := ⟨.none, none, (.fields ⟨[]⟩), ⟨[]⟩⟩
noncomputable def o273 (P : Params) : Obj := ⟨(.type "tuple"), none, (.seq ⟨[(.str (qS "found") 502), (.str (qS "top") 503), (.str (qS "bottom") 504)]⟩ 0), ⟨[]⟩⟩
noncomputable def o274 (P : Params) : Obj := ⟨(.type "tuple"), none, (.seq ⟨[]⟩ 0), ⟨[]⟩⟩
noncomputable def o275 (P : Params) : Obj := ⟨.none, none, (.func ⟨(qS "_law_is"), (qS "_law_is"), pA 39, .stmts (pB 39), pS 39, 0, [], .none, .none, .none, .none, none, .none, .none, 0⟩), ⟨[]⟩⟩
noncomputable def o276 (P : Params) : Obj := ⟨(.type "code"), none, (.fields ⟨[(.str (qS "_law_is") 499), (.str (qS "_law_is") 500), (.str (qS "/claim/cut.py") 501), (.int 128 0), (.int 3 0), (.int 0 0), (.int 0 0), (.int 3 0), (.ref 271), (.bool true), (.int 181 0), (.ref 272), .none, (.ref 273), (.ref 274), (.ref 275), (.int 505 0), (.int 128 0), (.str (qS "/claim/cut.py") 506)]⟩), ⟨[]⟩⟩
noncomputable def o277 (P : Params) : Obj := ⟨(.type "function"), none, (.func ⟨(qS "_law_is"), (qS "_law_is"), pA 39, .stmts (pB 39), pS 39, 3, [], .none, .none, .none, (.str (qS "law_no0004_01") 471), none, (.ref 276), .none, 0⟩), ⟨[]⟩⟩
noncomputable def tr8 (P : Params) : BT := (.node (boot_o_0 P) (.node (boot_o_1 P) (.node (o3v8 P) (.node (boot_o_7 P) (.node (o15 P) (.node (o31 P) (.node (o63 P) (.node (o127 P) (.node (o255 P) .nil .nil) .nil) (.node (o191 P) .nil .nil)) (.node (o95 P) (.node (o159 P) .nil .nil) (.node (o223 P) .nil .nil))) (.node (o47 P) (.node (o79 P) (.node (o143 P) (.node (o271 P) .nil .nil) .nil) (.node (o207 P) .nil .nil)) (.node (o111 P) (.node (o175 P) .nil .nil) (.node (o239 P) .nil .nil)))) (.node (o23 P) (.node (o39 P) (.node (o71 P) (.node (o135 P) (.node (o263 P) .nil .nil) .nil) (.node (o199 P) .nil .nil)) (.node (o103 P) (.node (o167 P) .nil .nil) (.node (o231 P) .nil .nil))) (.node (o55 P) (.node (o87 P) (.node (o151 P) .nil .nil) (.node (o215 P) .nil .nil)) (.node (o119 P) (.node (o183 P) .nil .nil) (.node (o247 P) .nil .nil))))) (.node (o11 P) (.node (o19 P) (.node (o35 P) (.node (o67 P) (.node (o131 P) (.node (o259 P) .nil .nil) .nil) (.node (o195 P) .nil .nil)) (.node (o99 P) (.node (o163 P) .nil .nil) (.node (o227 P) .nil .nil))) (.node (o51 P) (.node (o83 P) (.node (o147 P) (.node (o275 P) .nil .nil) .nil) (.node (o211 P) .nil .nil)) (.node (o115 P) (.node (o179 P) .nil .nil) (.node (o243 P) .nil .nil)))) (.node (o27 P) (.node (o43 P) (.node (o75 P) (.node (o139 P) (.node (o267 P) .nil .nil) .nil) (.node (o203 P) .nil .nil)) (.node (o107 P) (.node (o171 P) .nil .nil) (.node (o235 P) .nil .nil))) (.node (o59 P) (.node (o91 P) (.node (o155 P) .nil .nil) (.node (o219 P) .nil .nil)) (.node (o123 P) (.node (o187 P) .nil .nil) (.node (o251 P) .nil .nil)))))) (.node (boot_o_5 P) (.node (boot_o_9 P) (.node (o17 P) (.node (o33 P) (.node (o65 P) (.node (o129 P) (.node (o257 P) .nil .nil) .nil) (.node (o193 P) .nil .nil)) (.node (o97 P) (.node (o161 P) .nil .nil) (.node (o225 P) .nil .nil))) (.node (o49 P) (.node (o81 P) (.node (o145 P) (.node (o273 P) .nil .nil) .nil) (.node (o209 P) .nil .nil)) (.node (o113 P) (.node (o177 P) .nil .nil) (.node (o241 P) .nil .nil)))) (.node (o25 P) (.node (o41 P) (.node (o73 P) (.node (o137 P) (.node (o265 P) .nil .nil) .nil) (.node (o201 P) .nil .nil)) (.node (o105 P) (.node (o169 P) .nil .nil) (.node (o233 P) .nil .nil))) (.node (o57 P) (.node (o89 P) (.node (o153 P) .nil .nil) (.node (o217 P) .nil .nil)) (.node (o121 P) (.node (o185 P) .nil .nil) (.node (o249 P) .nil .nil))))) (.node (o13 P) (.node (o21 P) (.node (o37 P) (.node (o69 P) (.node (o133 P) (.node (o261 P) .nil .nil) .nil) (.node (o197 P) .nil .nil)) (.node (o101 P) (.node (o165 P) .nil .nil) (.node (o229 P) .nil .nil))) (.node (o53 P) (.node (o85 P) (.node (o149 P) (.node (o277 P) .nil .nil) .nil) (.node (o213 P) .nil .nil)) (.node (o117 P) (.node (o181 P) .nil .nil) (.node (o245 P) .nil .nil)))) (.node (o29 P) (.node (o45 P) (.node (o77 P) (.node (o141 P) (.node (o269 P) .nil .nil) .nil) (.node (o205 P) .nil .nil)) (.node (o109 P) (.node (o173 P) .nil .nil) (.node (o237 P) .nil .nil))) (.node (o61 P) (.node (o93 P) (.node (o157 P) .nil .nil) (.node (o221 P) .nil .nil)) (.node (o125 P) (.node (o189 P) .nil .nil) (.node (o253 P) .nil .nil))))))) (.node (o2v1 P) (.node (boot_o_4 P) (.node (boot_o_8 P) (.node (o16 P) (.node (o32 P) (.node (o64 P) (.node (o128 P) (.node (o256 P) .nil .nil) .nil) (.node (o192 P) .nil .nil)) (.node (o96 P) (.node (o160 P) .nil .nil) (.node (o224 P) .nil .nil))) (.node (o48 P) (.node (o80 P) (.node (o144 P) (.node (o272 P) .nil .nil) .nil) (.node (o208 P) .nil .nil)) (.node (o112 P) (.node (o176 P) .nil .nil) (.node (o240 P) .nil .nil)))) (.node (o24 P) (.node (o40 P) (.node (o72 P) (.node (o136 P) (.node (o264 P) .nil .nil) .nil) (.node (o200 P) .nil .nil)) (.node (o104 P) (.node (o168 P) .nil .nil) (.node (o232 P) .nil .nil))) (.node (o56 P) (.node (o88 P) (.node (o152 P) .nil .nil) (.node (o216 P) .nil .nil)) (.node (o120 P) (.node (o184 P) .nil .nil) (.node (o248 P) .nil .nil))))) (.node (o12v7 P) (.node (o20 P) (.node (o36 P) (.node (o68 P) (.node (o132 P) (.node (o260 P) .nil .nil) .nil) (.node (o196 P) .nil .nil)) (.node (o100 P) (.node (o164 P) .nil .nil) (.node (o228 P) .nil .nil))) (.node (o52 P) (.node (o84 P) (.node (o148 P) (.node (o276 P) .nil .nil) .nil) (.node (o212 P) .nil .nil)) (.node (o116 P) (.node (o180 P) .nil .nil) (.node (o244 P) .nil .nil)))) (.node (o28 P) (.node (o44 P) (.node (o76 P) (.node (o140 P) (.node (o268 P) .nil .nil) .nil) (.node (o204 P) .nil .nil)) (.node (o108 P) (.node (o172 P) .nil .nil) (.node (o236 P) .nil .nil))) (.node (o60 P) (.node (o92 P) (.node (o156 P) .nil .nil) (.node (o220 P) .nil .nil)) (.node (o124 P) (.node (o188 P) .nil .nil) (.node (o252 P) .nil .nil)))))) (.node (boot_o_6 P) (.node (boot_o_10 P) (.node (o18 P) (.node (o34 P) (.node (o66 P) (.node (o130 P) (.node (o258 P) .nil .nil) .nil) (.node (o194 P) .nil .nil)) (.node (o98 P) (.node (o162 P) .nil .nil) (.node (o226 P) .nil .nil))) (.node (o50 P) (.node (o82 P) (.node (o146 P) (.node (o274 P) .nil .nil) .nil) (.node (o210 P) .nil .nil)) (.node (o114 P) (.node (o178 P) .nil .nil) (.node (o242 P) .nil .nil)))) (.node (o26 P) (.node (o42 P) (.node (o74 P) (.node (o138 P) (.node (o266 P) .nil .nil) .nil) (.node (o202 P) .nil .nil)) (.node (o106 P) (.node (o170 P) .nil .nil) (.node (o234 P) .nil .nil))) (.node (o58 P) (.node (o90 P) (.node (o154 P) .nil .nil) (.node (o218 P) .nil .nil)) (.node (o122 P) (.node (o186 P) .nil .nil) (.node (o250 P) .nil .nil))))) (.node (o14 P) (.node (o22 P) (.node (o38 P) (.node (o70 P) (.node (o134 P) (.node (o262 P) .nil .nil) .nil) (.node (o198 P) .nil .nil)) (.node (o102 P) (.node (o166 P) .nil .nil) (.node (o230 P) .nil .nil))) (.node (o54 P) (.node (o86 P) (.node (o150 P) .nil .nil) (.node (o214 P) .nil .nil)) (.node (o118 P) (.node (o182 P) .nil .nil) (.node (o246 P) .nil .nil)))) (.node (o30 P) (.node (o46 P) (.node (o78 P) (.node (o142 P) (.node (o270 P) .nil .nil) .nil) (.node (o206 P) .nil .nil)) (.node (o110 P) (.node (o174 P) .nil .nil) (.node (o238 P) .nil .nil))) (.node (o62 P) (.node (o94 P) (.node (o158 P) .nil .nil) (.node (o222 P) .nil .nil)) (.node (o126 P) (.node (o190 P) .nil .nil) (.node (o254 P) .nil .nil))))))))
noncomputable def o3v9 (P : Params) : Obj := ⟨(.type "dict"), none, (.dict ⟨[⟨(PyData.keyHash P (qS "__name__")), (.str (qS "__name__") 165), (.str (qS "law_no0004_01") 471)⟩, ⟨(PyData.keyHash P (qS "__doc__")), (.str (qS "__doc__") 166), .none⟩, ⟨(PyData.keyHash P (qS "__package__")), (.str (qS "__package__") 167), .none⟩, ⟨(PyData.keyHash P (qS "__loader__")), (.str (qS "__loader__") 168), (.builtin "__main__.__loader__#opaque")⟩, ⟨(PyData.keyHash P (qS "__spec__")), (.str (qS "__spec__") 169), .none⟩, ⟨(PyData.keyHash P (qS "__annotations__")), (.str (qS "__annotations__") 170), (.ref 6)⟩, ⟨(PyData.keyHash P (qS "__builtins__")), (.str (qS "__builtins__") 171), (.ref 4)⟩, ⟨(PyData.keyHash P (qS "__file__")), (.str (qS "__file__") 173), (.str (qS "/claim/cut.py") 172)⟩, ⟨(PyData.keyHash P (qS "__cached__")), (.str (qS "__cached__") 174), .none⟩, ⟨(PyData.keyHash P (qS "SmtError")), (.str (qS "SmtError") 226), (.ref 40)⟩, ⟨(PyData.keyHash P (qS "ZERO")), (.str (qS "ZERO") 231), (.ref 44)⟩, ⟨(PyData.keyHash P (qS "ONE")), (.str (qS "ONE") 234), (.ref 45)⟩, ⟨(PyData.keyHash P (qS "MINUS_ONE")), (.str (qS "MINUS_ONE") 238), (.ref 46)⟩, ⟨(PyData.keyHash P (qS "gcd_of")), (.str (qS "gcd_of") 246), (.ref 53)⟩, ⟨(PyData.keyHash P (qS "gcd_all")), (.str (qS "gcd_all") 255), (.ref 60)⟩, ⟨(PyData.keyHash P (qS "lcm_of")), (.str (qS "lcm_of") 263), (.ref 67)⟩, ⟨(PyData.keyHash P (qS "ratio")), (.str (qS "ratio") 272), (.ref 74)⟩, ⟨(PyData.keyHash P (qS "whole")), (.str (qS "whole") 279), (.ref 81)⟩, ⟨(PyData.keyHash P (qS "add")), (.str (qS "add") 287), (.ref 88)⟩, ⟨(PyData.keyHash P (qS "neg")), (.str (qS "neg") 294), (.ref 95)⟩, ⟨(PyData.keyHash P (qS "sub")), (.str (qS "sub") 302), (.ref 102)⟩, ⟨(PyData.keyHash P (qS "mul")), (.str (qS "mul") 310), (.ref 109)⟩, ⟨(PyData.keyHash P (qS "div")), (.str (qS "div") 318), (.ref 116)⟩, ⟨(PyData.keyHash P (qS "sign_of")), (.str (qS "sign_of") 325), (.ref 123)⟩, ⟨(PyData.keyHash P (qS "compare")), (.str (qS "compare") 335), (.ref 130)⟩, ⟨(PyData.keyHash P (qS "floor_of")), (.str (qS "floor_of") 342), (.ref 137)⟩, ⟨(PyData.keyHash P (qS "ceil_of")), (.str (qS "ceil_of") 349), (.ref 144)⟩, ⟨(PyData.keyHash P (qS "is_whole")), (.str (qS "is_whole") 356), (.ref 151)⟩, ⟨(PyData.keyHash P (qS "common_bottom")), (.str (qS "common_bottom") 365), (.ref 158)⟩, ⟨(PyData.keyHash P (qS "ratio_of_decimal")), (.str (qS "ratio_of_decimal") 374), (.ref 165)⟩, ⟨(PyData.keyHash P (qS "signed_text")), (.str (qS "signed_text") 382), (.ref 172)⟩, ⟨(PyData.keyHash P (qS "ratio_text")), (.str (qS "ratio_text") 390), (.ref 179)⟩, ⟨(PyData.keyHash P (qS "real_text")), (.str (qS "real_text") 398), (.ref 186)⟩, ⟨(PyData.keyHash P (qS "d_make")), (.str (qS "d_make") 405), (.ref 193)⟩, ⟨(PyData.keyHash P (qS "d_below")), (.str (qS "d_below") 412), (.ref 200)⟩, ⟨(PyData.keyHash P (qS "d_above")), (.str (qS "d_above") 419), (.ref 207)⟩, ⟨(PyData.keyHash P (qS "d_add")), (.str (qS "d_add") 427), (.ref 214)⟩, ⟨(PyData.keyHash P (qS "d_sub")), (.str (qS "d_sub") 435), (.ref 221)⟩, ⟨(PyData.keyHash P (qS "d_scale")), (.str (qS "d_scale") 443), (.ref 228)⟩, ⟨(PyData.keyHash P (qS "d_compare")), (.str (qS "d_compare") 452), (.ref 235)⟩, ⟨(PyData.keyHash P (qS "d_at")), (.str (qS "d_at") 460), (.ref 242)⟩, ⟨(PyData.keyHash P (qS "d_room")), (.str (qS "d_room") 470), (.ref 249)⟩, ⟨(PyData.keyHash P (qS "_law_drawn")), (.str (qS "_law_drawn") 481), (.ref 256)⟩, ⟨(PyData.keyHash P (qS "_law_common")), (.str (qS "_law_common") 490), (.ref 263)⟩, ⟨(PyData.keyHash P (qS "_law_sign")), (.str (qS "_law_sign") 498), (.ref 270)⟩, ⟨(PyData.keyHash P (qS "_law_is")), (.str (qS "_law_is") 507), (.ref 277)⟩, ⟨(PyData.keyHash P (qS "_law_done")), (.str (qS "_law_done") 518), (.ref 284)⟩, ⟨(PyData.keyHash P (qS "_law_due")), (.str (qS "_law_due") 531), (.ref 291)⟩, ⟨(PyData.keyHash P (qS "_law_read")), (.str (qS "_law_read") 537), (.ref 296)⟩, ⟨(PyData.keyHash P (qS "_law_one_right")), (.str (qS "_law_one_right") 548), (.ref 303)⟩, ⟨(PyData.keyHash P (qS "_law_machine")), (.str (qS "_law_machine") 565), (.ref 310)⟩]⟩ 51), ⟨[]⟩⟩
noncomputable def o12v8 (P : Params) : Obj := ⟨.none, none, (.fields ⟨[(.int 2 0), (.int 0 0), (.ref 21), (.int 14 0), (.int 0 0), (.ref 52), (.int 19 0), (.int 0 0), (.ref 59), (.int 26 0), (.int 0 0), (.ref 66), (.int 28 0), (.int 0 0), (.ref 73), (.int 35 0), (.int 0 0), (.ref 80), (.int 37 0), (.int 0 0), (.ref 87), (.int 41 0), (.int 0 0), (.ref 94), (.int 43 0), (.int 0 0), (.ref 101), (.int 45 0), (.int 0 0), (.ref 108), (.int 49 0), (.int 0 0), (.ref 115), (.int 53 0), (.int 0 0), (.ref 122), (.int 55 0), (.int 0 0), (.ref 129), (.int 58 0), (.int 0 0), (.ref 136), (.int 60 0), (.int 0 0), (.ref 143), (.int 62 0), (.int 0 0), (.ref 150), (.int 64 0), (.int 0 0), (.ref 157), (.int 69 0), (.int 0 0), (.ref 164), (.int 72 0), (.int 0 0), (.ref 171), (.int 74 0), (.int 0 0), (.ref 178), (.int 77 0), (.int 0 0), (.ref 185), (.int 80 0), (.int 0 0), (.ref 192), (.int 82 0), (.int 0 0), (.ref 199), (.int 84 0), (.int 0 0), (.ref 206), (.int 86 0), (.int 0 0), (.ref 213), (.int 88 0), (.int 0 0), (.ref 220), (.int 90 0), (.int 0 0), (.ref 227), (.int 92 0), (.int 0 0), (.ref 234), (.int 95 0), (.int 0 0), (.ref 241), (.int 97 0), (.int 0 0), (.ref 248), (.int 103 0), (.int 0 0), (.ref 255), (.int 108 0), (.int 0 0), (.ref 262), (.int 124 0), (.int 0 0), (.ref 269), (.int 128 0), (.int 0 0), (.ref 276), (.int 132 0), (.int 0 0), (.ref 283), (.int 151 0), (.int 0 0), (.ref 290), (.int 172 0), (.int 0 0), (.ref 295), (.int 185 0), (.int 0 0), (.ref 302), (.int 193 0), (.int 0 0), (.ref 309)]⟩), ⟨[]⟩⟩
noncomputable def o278 (P : Params) : Obj := ⟨(.type "tuple"), none, (.seq ⟨[]⟩ 0), ⟨[]⟩⟩
noncomputable def o279 (P : Params) : Obj := ⟨.none, none, (.fields ⟨[]⟩), ⟨[]⟩⟩
noncomputable def o280 (P : Params) : Obj := ⟨(.type "tuple"), none, (.seq ⟨[(.str (qS "word") 511), (.str (qS "a") 512), (.str (qS "b") 513), (.str (qS "top") 514), (.str (qS "bottom") 515)]⟩ 0), ⟨[]⟩⟩
noncomputable def o281 (P : Params) : Obj := ⟨(.type "tuple"), none, (.seq ⟨[]⟩ 0), ⟨[]⟩⟩
noncomputable def o282 (P : Params) : Obj := ⟨.none, none, (.func ⟨(qS "_law_done"), (qS "_law_done"), pA 40, .stmts (pB 40), pS 40, 0, [], .none, .none, .none, .none, none, .none, .none, 0⟩), ⟨[]⟩⟩
noncomputable def o283 (P : Params) : Obj := ⟨(.type "code"), none, (.fields ⟨[(.str (qS "_law_done") 508), (.str (qS "_law_done") 509), (.str (qS "/claim/cut.py") 510), (.int 132 0), (.int 5 0), (.int 0 0), (.int 0 0), (.int 3 0), (.ref 278), (.bool true), (.int 181 0), (.ref 279), .none, (.ref 280), (.ref 281), (.ref 282), (.int 516 0), (.int 132 0), (.str (qS "/claim/cut.py") 517)]⟩), ⟨[]⟩⟩
noncomputable def o284 (P : Params) : Obj := ⟨(.type "function"), none, (.func ⟨(qS "_law_done"), (qS "_law_done"), pA 40, .stmts (pB 40), pS 40, 3, [], .none, .none, .none, (.str (qS "law_no0004_01") 471), none, (.ref 283), .none, 0⟩), ⟨[]⟩⟩
noncomputable def o285 (P : Params) : Obj := ⟨(.type "tuple"), none, (.seq ⟨[]⟩ 0), ⟨[]⟩⟩
noncomputable def o286 (P : Params) : Obj := ⟨.none, none, (.fields ⟨[]⟩), ⟨[]⟩⟩
noncomputable def o287 (P : Params) : Obj := ⟨(.type "tuple"), none, (.seq ⟨[(.str (qS "word") 522), (.str (qS "a") 523), (.str (qS "b") 524), (.str (qS "top") 525), (.str (qS "bottom") 526), (.str (qS "found") 527), (.str (qS "behind") 528)]⟩ 0), ⟨[]⟩⟩
noncomputable def o288 (P : Params) : Obj := ⟨(.type "tuple"), none, (.seq ⟨[]⟩ 0), ⟨[]⟩⟩
noncomputable def o289 (P : Params) : Obj := ⟨.none, none, (.func ⟨(qS "_law_due"), (qS "_law_due"), pA 41, .stmts (pB 41), pS 41, 0, [], .none, .none, .none, .none, none, .none, .none, 0⟩), ⟨[]⟩⟩
noncomputable def o290 (P : Params) : Obj := ⟨(.type "code"), none, (.fields ⟨[(.str (qS "_law_due") 519), (.str (qS "_law_due") 520), (.str (qS "/claim/cut.py") 521), (.int 151 0), (.int 5 0), (.int 0 0), (.int 0 0), (.int 3 0), (.ref 285), (.bool true), (.int 181 0), (.ref 286), .none, (.ref 287), (.ref 288), (.ref 289), (.int 529 0), (.int 151 0), (.str (qS "/claim/cut.py") 530)]⟩), ⟨[]⟩⟩
noncomputable def o291 (P : Params) : Obj := ⟨(.type "function"), none, (.func ⟨(qS "_law_due"), (qS "_law_due"), pA 41, .stmts (pB 41), pS 41, 3, [], .none, .none, .none, (.str (qS "law_no0004_01") 471), none, (.ref 290), .none, 0⟩), ⟨[]⟩⟩
noncomputable def o292 (P : Params) : Obj := ⟨(.type "tuple"), none, (.seq ⟨[]⟩ 0), ⟨[]⟩⟩
noncomputable def o293 (P : Params) : Obj := ⟨.none, none, (.fields ⟨[]⟩), ⟨[]⟩⟩
noncomputable def o294 (P : Params) : Obj := ⟨.none, none, (.func ⟨(qS "_law_read"), (qS "_law_read"), pA 42, .stmts (pB 42), pS 42, 0, [], .none, .none, .none, .none, none, .none, .none, 0⟩), ⟨[]⟩⟩
noncomputable def o295 (P : Params) : Obj := ⟨(.type "code"), none, (.fields ⟨[(.str (qS "_law_read") 532), (.str (qS "_law_read") 533), (.str (qS "/claim/cut.py") 534), (.int 172 0), (.int 2 0), (.int 0 0), (.int 0 0), (.int 3 0), (.ref 292), (.bool true), (.int 181 0), (.ref 293), .none, .none, .none, (.ref 294), (.int 535 0), (.int 172 0), (.str (qS "/claim/cut.py") 536)]⟩), ⟨[]⟩⟩
noncomputable def o296 (P : Params) : Obj := ⟨(.type "function"), none, (.func ⟨(qS "_law_read"), (qS "_law_read"), pA 42, .stmts (pB 42), pS 42, 3, [], .none, .none, .none, (.str (qS "law_no0004_01") 471), none, (.ref 295), .none, 0⟩), ⟨[]⟩⟩
noncomputable def o297 (P : Params) : Obj := ⟨(.type "tuple"), none, (.seq ⟨[]⟩ 0), ⟨[]⟩⟩
noncomputable def o298 (P : Params) : Obj := ⟨.none, none, (.fields ⟨[]⟩), ⟨[]⟩⟩
noncomputable def o299 (P : Params) : Obj := ⟨(.type "tuple"), none, (.seq ⟨[(.str (qS "cell") 541), (.str (qS "top") 542), (.str (qS "bottom") 543), (.str (qS "low") 544), (.str (qS "high") 545)]⟩ 0), ⟨[]⟩⟩
noncomputable def o300 (P : Params) : Obj := ⟨(.type "tuple"), none, (.seq ⟨[]⟩ 0), ⟨[]⟩⟩
noncomputable def o301 (P : Params) : Obj := ⟨.none, none, (.func ⟨(qS "_law_one_right"), (qS "_law_one_right"), pA 43, .stmts (pB 43), pS 43, 0, [], .none, .none, .none, .none, none, .none, .none, 0⟩), ⟨[]⟩⟩
noncomputable def o302 (P : Params) : Obj := ⟨(.type "code"), none, (.fields ⟨[(.str (qS "_law_one_right") 538), (.str (qS "_law_one_right") 539), (.str (qS "/claim/cut.py") 540), (.int 185 0), (.int 1 0), (.int 0 0), (.int 0 0), (.int 3 0), (.ref 297), (.bool true), (.int 181 0), (.ref 298), .none, (.ref 299), (.ref 300), (.ref 301), (.int 546 0), (.int 185 0), (.str (qS "/claim/cut.py") 547)]⟩), ⟨[]⟩⟩
noncomputable def o303 (P : Params) : Obj := ⟨(.type "function"), none, (.func ⟨(qS "_law_one_right"), (qS "_law_one_right"), pA 43, .stmts (pB 43), pS 43, 3, [], .none, .none, .none, (.str (qS "law_no0004_01") 471), none, (.ref 302), .none, 0⟩), ⟨[]⟩⟩
noncomputable def o304 (P : Params) : Obj := ⟨(.type "tuple"), none, (.seq ⟨[]⟩ 0), ⟨[]⟩⟩
noncomputable def o305 (P : Params) : Obj := ⟨.none, none, (.fields ⟨[]⟩), ⟨[]⟩⟩
noncomputable def o306 (P : Params) : Obj := ⟨(.type "tuple"), none, (.seq ⟨[(.str (qS "numbers") 552), (.str (qS "cells") 553), (.str (qS "n") 554), (.str (qS "word") 555), (.str (qS "one") 556), (.str (qS "other") 557), (.str (qS "top") 558), (.str (qS "bottom") 559), (.str (qS "due") 560), (.str (qS "found") 561), (.str (qS "cell") 562)]⟩ 0), ⟨[]⟩⟩
noncomputable def o307 (P : Params) : Obj := ⟨(.type "tuple"), none, (.seq ⟨[]⟩ 0), ⟨[]⟩⟩
noncomputable def o308 (P : Params) : Obj := ⟨.none, none, (.func ⟨(qS "_law_machine"), (qS "_law_machine"), pA 44, .stmts (pB 44), pS 44, 0, [], .none, .none, .none, .none, none, .none, .none, 0⟩), ⟨[]⟩⟩
noncomputable def o309 (P : Params) : Obj := ⟨(.type "code"), none, (.fields ⟨[(.str (qS "_law_machine") 549), (.str (qS "_law_machine") 550), (.str (qS "/claim/cut.py") 551), (.int 193 0), (.int 1 0), (.int 0 0), (.int 0 0), (.int 3 0), (.ref 304), (.bool true), (.int 181 0), (.ref 305), .none, (.ref 306), (.ref 307), (.ref 308), (.int 563 0), (.int 193 0), (.str (qS "/claim/cut.py") 564)]⟩), ⟨[]⟩⟩
noncomputable def o310 (P : Params) : Obj := ⟨(.type "function"), none, (.func ⟨(qS "_law_machine"), (qS "_law_machine"), pA 44, .stmts (pB 44), pS 44, 3, [], .none, .none, .none, (.str (qS "law_no0004_01") 471), none, (.ref 309), .none, 0⟩), ⟨[]⟩⟩
noncomputable def tr9 (P : Params) : BT := (.node (boot_o_0 P) (.node (boot_o_1 P) (.node (o3v9 P) (.node (boot_o_7 P) (.node (o15 P) (.node (o31 P) (.node (o63 P) (.node (o127 P) (.node (o255 P) .nil .nil) .nil) (.node (o191 P) .nil .nil)) (.node (o95 P) (.node (o159 P) (.node (o287 P) .nil .nil) .nil) (.node (o223 P) .nil .nil))) (.node (o47 P) (.node (o79 P) (.node (o143 P) (.node (o271 P) .nil .nil) .nil) (.node (o207 P) .nil .nil)) (.node (o111 P) (.node (o175 P) (.node (o303 P) .nil .nil) .nil) (.node (o239 P) .nil .nil)))) (.node (o23 P) (.node (o39 P) (.node (o71 P) (.node (o135 P) (.node (o263 P) .nil .nil) .nil) (.node (o199 P) .nil .nil)) (.node (o103 P) (.node (o167 P) (.node (o295 P) .nil .nil) .nil) (.node (o231 P) .nil .nil))) (.node (o55 P) (.node (o87 P) (.node (o151 P) (.node (o279 P) .nil .nil) .nil) (.node (o215 P) .nil .nil)) (.node (o119 P) (.node (o183 P) .nil .nil) (.node (o247 P) .nil .nil))))) (.node (o11 P) (.node (o19 P) (.node (o35 P) (.node (o67 P) (.node (o131 P) (.node (o259 P) .nil .nil) .nil) (.node (o195 P) .nil .nil)) (.node (o99 P) (.node (o163 P) (.node (o291 P) .nil .nil) .nil) (.node (o227 P) .nil .nil))) (.node (o51 P) (.node (o83 P) (.node (o147 P) (.node (o275 P) .nil .nil) .nil) (.node (o211 P) .nil .nil)) (.node (o115 P) (.node (o179 P) (.node (o307 P) .nil .nil) .nil) (.node (o243 P) .nil .nil)))) (.node (o27 P) (.node (o43 P) (.node (o75 P) (.node (o139 P) (.node (o267 P) .nil .nil) .nil) (.node (o203 P) .nil .nil)) (.node (o107 P) (.node (o171 P) (.node (o299 P) .nil .nil) .nil) (.node (o235 P) .nil .nil))) (.node (o59 P) (.node (o91 P) (.node (o155 P) (.node (o283 P) .nil .nil) .nil) (.node (o219 P) .nil .nil)) (.node (o123 P) (.node (o187 P) .nil .nil) (.node (o251 P) .nil .nil)))))) (.node (boot_o_5 P) (.node (boot_o_9 P) (.node (o17 P) (.node (o33 P) (.node (o65 P) (.node (o129 P) (.node (o257 P) .nil .nil) .nil) (.node (o193 P) .nil .nil)) (.node (o97 P) (.node (o161 P) (.node (o289 P) .nil .nil) .nil) (.node (o225 P) .nil .nil))) (.node (o49 P) (.node (o81 P) (.node (o145 P) (.node (o273 P) .nil .nil) .nil) (.node (o209 P) .nil .nil)) (.node (o113 P) (.node (o177 P) (.node (o305 P) .nil .nil) .nil) (.node (o241 P) .nil .nil)))) (.node (o25 P) (.node (o41 P) (.node (o73 P) (.node (o137 P) (.node (o265 P) .nil .nil) .nil) (.node (o201 P) .nil .nil)) (.node (o105 P) (.node (o169 P) (.node (o297 P) .nil .nil) .nil) (.node (o233 P) .nil .nil))) (.node (o57 P) (.node (o89 P) (.node (o153 P) (.node (o281 P) .nil .nil) .nil) (.node (o217 P) .nil .nil)) (.node (o121 P) (.node (o185 P) .nil .nil) (.node (o249 P) .nil .nil))))) (.node (o13 P) (.node (o21 P) (.node (o37 P) (.node (o69 P) (.node (o133 P) (.node (o261 P) .nil .nil) .nil) (.node (o197 P) .nil .nil)) (.node (o101 P) (.node (o165 P) (.node (o293 P) .nil .nil) .nil) (.node (o229 P) .nil .nil))) (.node (o53 P) (.node (o85 P) (.node (o149 P) (.node (o277 P) .nil .nil) .nil) (.node (o213 P) .nil .nil)) (.node (o117 P) (.node (o181 P) (.node (o309 P) .nil .nil) .nil) (.node (o245 P) .nil .nil)))) (.node (o29 P) (.node (o45 P) (.node (o77 P) (.node (o141 P) (.node (o269 P) .nil .nil) .nil) (.node (o205 P) .nil .nil)) (.node (o109 P) (.node (o173 P) (.node (o301 P) .nil .nil) .nil) (.node (o237 P) .nil .nil))) (.node (o61 P) (.node (o93 P) (.node (o157 P) (.node (o285 P) .nil .nil) .nil) (.node (o221 P) .nil .nil)) (.node (o125 P) (.node (o189 P) .nil .nil) (.node (o253 P) .nil .nil))))))) (.node (o2v1 P) (.node (boot_o_4 P) (.node (boot_o_8 P) (.node (o16 P) (.node (o32 P) (.node (o64 P) (.node (o128 P) (.node (o256 P) .nil .nil) .nil) (.node (o192 P) .nil .nil)) (.node (o96 P) (.node (o160 P) (.node (o288 P) .nil .nil) .nil) (.node (o224 P) .nil .nil))) (.node (o48 P) (.node (o80 P) (.node (o144 P) (.node (o272 P) .nil .nil) .nil) (.node (o208 P) .nil .nil)) (.node (o112 P) (.node (o176 P) (.node (o304 P) .nil .nil) .nil) (.node (o240 P) .nil .nil)))) (.node (o24 P) (.node (o40 P) (.node (o72 P) (.node (o136 P) (.node (o264 P) .nil .nil) .nil) (.node (o200 P) .nil .nil)) (.node (o104 P) (.node (o168 P) (.node (o296 P) .nil .nil) .nil) (.node (o232 P) .nil .nil))) (.node (o56 P) (.node (o88 P) (.node (o152 P) (.node (o280 P) .nil .nil) .nil) (.node (o216 P) .nil .nil)) (.node (o120 P) (.node (o184 P) .nil .nil) (.node (o248 P) .nil .nil))))) (.node (o12v8 P) (.node (o20 P) (.node (o36 P) (.node (o68 P) (.node (o132 P) (.node (o260 P) .nil .nil) .nil) (.node (o196 P) .nil .nil)) (.node (o100 P) (.node (o164 P) (.node (o292 P) .nil .nil) .nil) (.node (o228 P) .nil .nil))) (.node (o52 P) (.node (o84 P) (.node (o148 P) (.node (o276 P) .nil .nil) .nil) (.node (o212 P) .nil .nil)) (.node (o116 P) (.node (o180 P) (.node (o308 P) .nil .nil) .nil) (.node (o244 P) .nil .nil)))) (.node (o28 P) (.node (o44 P) (.node (o76 P) (.node (o140 P) (.node (o268 P) .nil .nil) .nil) (.node (o204 P) .nil .nil)) (.node (o108 P) (.node (o172 P) (.node (o300 P) .nil .nil) .nil) (.node (o236 P) .nil .nil))) (.node (o60 P) (.node (o92 P) (.node (o156 P) (.node (o284 P) .nil .nil) .nil) (.node (o220 P) .nil .nil)) (.node (o124 P) (.node (o188 P) .nil .nil) (.node (o252 P) .nil .nil)))))) (.node (boot_o_6 P) (.node (boot_o_10 P) (.node (o18 P) (.node (o34 P) (.node (o66 P) (.node (o130 P) (.node (o258 P) .nil .nil) .nil) (.node (o194 P) .nil .nil)) (.node (o98 P) (.node (o162 P) (.node (o290 P) .nil .nil) .nil) (.node (o226 P) .nil .nil))) (.node (o50 P) (.node (o82 P) (.node (o146 P) (.node (o274 P) .nil .nil) .nil) (.node (o210 P) .nil .nil)) (.node (o114 P) (.node (o178 P) (.node (o306 P) .nil .nil) .nil) (.node (o242 P) .nil .nil)))) (.node (o26 P) (.node (o42 P) (.node (o74 P) (.node (o138 P) (.node (o266 P) .nil .nil) .nil) (.node (o202 P) .nil .nil)) (.node (o106 P) (.node (o170 P) (.node (o298 P) .nil .nil) .nil) (.node (o234 P) .nil .nil))) (.node (o58 P) (.node (o90 P) (.node (o154 P) (.node (o282 P) .nil .nil) .nil) (.node (o218 P) .nil .nil)) (.node (o122 P) (.node (o186 P) .nil .nil) (.node (o250 P) .nil .nil))))) (.node (o14 P) (.node (o22 P) (.node (o38 P) (.node (o70 P) (.node (o134 P) (.node (o262 P) .nil .nil) .nil) (.node (o198 P) .nil .nil)) (.node (o102 P) (.node (o166 P) (.node (o294 P) .nil .nil) .nil) (.node (o230 P) .nil .nil))) (.node (o54 P) (.node (o86 P) (.node (o150 P) (.node (o278 P) .nil .nil) .nil) (.node (o214 P) .nil .nil)) (.node (o118 P) (.node (o182 P) (.node (o310 P) .nil .nil) .nil) (.node (o246 P) .nil .nil)))) (.node (o30 P) (.node (o46 P) (.node (o78 P) (.node (o142 P) (.node (o270 P) .nil .nil) .nil) (.node (o206 P) .nil .nil)) (.node (o110 P) (.node (o174 P) (.node (o302 P) .nil .nil) .nil) (.node (o238 P) .nil .nil))) (.node (o62 P) (.node (o94 P) (.node (o158 P) (.node (o286 P) .nil .nil) .nil) (.node (o222 P) .nil .nil)) (.node (o126 P) (.node (o190 P) .nil .nil) (.node (o254 P) .nil .nil))))))))
noncomputable def o3v10 (P : Params) : Obj := ⟨(.type "dict"), none, (.dict ⟨[⟨(PyData.keyHash P (qS "__name__")), (.str (qS "__name__") 165), (.str (qS "law_no0004_01") 471)⟩, ⟨(PyData.keyHash P (qS "__doc__")), (.str (qS "__doc__") 166), .none⟩, ⟨(PyData.keyHash P (qS "__package__")), (.str (qS "__package__") 167), .none⟩, ⟨(PyData.keyHash P (qS "__loader__")), (.str (qS "__loader__") 168), (.builtin "__main__.__loader__#opaque")⟩, ⟨(PyData.keyHash P (qS "__spec__")), (.str (qS "__spec__") 169), .none⟩, ⟨(PyData.keyHash P (qS "__annotations__")), (.str (qS "__annotations__") 170), (.ref 6)⟩, ⟨(PyData.keyHash P (qS "__builtins__")), (.str (qS "__builtins__") 171), (.ref 4)⟩, ⟨(PyData.keyHash P (qS "__file__")), (.str (qS "__file__") 173), (.str (qS "/claim/cut.py") 172)⟩, ⟨(PyData.keyHash P (qS "__cached__")), (.str (qS "__cached__") 174), .none⟩, ⟨(PyData.keyHash P (qS "SmtError")), (.str (qS "SmtError") 226), (.ref 40)⟩, ⟨(PyData.keyHash P (qS "ZERO")), (.str (qS "ZERO") 231), (.ref 44)⟩, ⟨(PyData.keyHash P (qS "ONE")), (.str (qS "ONE") 234), (.ref 45)⟩, ⟨(PyData.keyHash P (qS "MINUS_ONE")), (.str (qS "MINUS_ONE") 238), (.ref 46)⟩, ⟨(PyData.keyHash P (qS "gcd_of")), (.str (qS "gcd_of") 246), (.ref 53)⟩, ⟨(PyData.keyHash P (qS "gcd_all")), (.str (qS "gcd_all") 255), (.ref 60)⟩, ⟨(PyData.keyHash P (qS "lcm_of")), (.str (qS "lcm_of") 263), (.ref 67)⟩, ⟨(PyData.keyHash P (qS "ratio")), (.str (qS "ratio") 272), (.ref 74)⟩, ⟨(PyData.keyHash P (qS "whole")), (.str (qS "whole") 279), (.ref 81)⟩, ⟨(PyData.keyHash P (qS "add")), (.str (qS "add") 287), (.ref 88)⟩, ⟨(PyData.keyHash P (qS "neg")), (.str (qS "neg") 294), (.ref 95)⟩, ⟨(PyData.keyHash P (qS "sub")), (.str (qS "sub") 302), (.ref 102)⟩, ⟨(PyData.keyHash P (qS "mul")), (.str (qS "mul") 310), (.ref 109)⟩, ⟨(PyData.keyHash P (qS "div")), (.str (qS "div") 318), (.ref 116)⟩, ⟨(PyData.keyHash P (qS "sign_of")), (.str (qS "sign_of") 325), (.ref 123)⟩, ⟨(PyData.keyHash P (qS "compare")), (.str (qS "compare") 335), (.ref 130)⟩, ⟨(PyData.keyHash P (qS "floor_of")), (.str (qS "floor_of") 342), (.ref 137)⟩, ⟨(PyData.keyHash P (qS "ceil_of")), (.str (qS "ceil_of") 349), (.ref 144)⟩, ⟨(PyData.keyHash P (qS "is_whole")), (.str (qS "is_whole") 356), (.ref 151)⟩, ⟨(PyData.keyHash P (qS "common_bottom")), (.str (qS "common_bottom") 365), (.ref 158)⟩, ⟨(PyData.keyHash P (qS "ratio_of_decimal")), (.str (qS "ratio_of_decimal") 374), (.ref 165)⟩, ⟨(PyData.keyHash P (qS "signed_text")), (.str (qS "signed_text") 382), (.ref 172)⟩, ⟨(PyData.keyHash P (qS "ratio_text")), (.str (qS "ratio_text") 390), (.ref 179)⟩, ⟨(PyData.keyHash P (qS "real_text")), (.str (qS "real_text") 398), (.ref 186)⟩, ⟨(PyData.keyHash P (qS "d_make")), (.str (qS "d_make") 405), (.ref 193)⟩, ⟨(PyData.keyHash P (qS "d_below")), (.str (qS "d_below") 412), (.ref 200)⟩, ⟨(PyData.keyHash P (qS "d_above")), (.str (qS "d_above") 419), (.ref 207)⟩, ⟨(PyData.keyHash P (qS "d_add")), (.str (qS "d_add") 427), (.ref 214)⟩, ⟨(PyData.keyHash P (qS "d_sub")), (.str (qS "d_sub") 435), (.ref 221)⟩, ⟨(PyData.keyHash P (qS "d_scale")), (.str (qS "d_scale") 443), (.ref 228)⟩, ⟨(PyData.keyHash P (qS "d_compare")), (.str (qS "d_compare") 452), (.ref 235)⟩, ⟨(PyData.keyHash P (qS "d_at")), (.str (qS "d_at") 460), (.ref 242)⟩, ⟨(PyData.keyHash P (qS "d_room")), (.str (qS "d_room") 470), (.ref 249)⟩, ⟨(PyData.keyHash P (qS "_law_drawn")), (.str (qS "_law_drawn") 481), (.ref 256)⟩, ⟨(PyData.keyHash P (qS "_law_common")), (.str (qS "_law_common") 490), (.ref 263)⟩, ⟨(PyData.keyHash P (qS "_law_sign")), (.str (qS "_law_sign") 498), (.ref 270)⟩, ⟨(PyData.keyHash P (qS "_law_is")), (.str (qS "_law_is") 507), (.ref 277)⟩, ⟨(PyData.keyHash P (qS "_law_done")), (.str (qS "_law_done") 518), (.ref 284)⟩, ⟨(PyData.keyHash P (qS "_law_due")), (.str (qS "_law_due") 531), (.ref 291)⟩, ⟨(PyData.keyHash P (qS "_law_read")), (.str (qS "_law_read") 537), (.ref 296)⟩, ⟨(PyData.keyHash P (qS "_law_one_right")), (.str (qS "_law_one_right") 548), (.ref 303)⟩, ⟨(PyData.keyHash P (qS "_law_machine")), (.str (qS "_law_machine") 565), (.ref 310)⟩, ⟨(PyData.keyHash P (qS "_law_value")), (.str (qS "_law_value") 577), (.ref 317)⟩, ⟨(PyData.keyHash P (qS "_law_sums_right")), (.str (qS "_law_sums_right") 591), (.ref 324)⟩, ⟨(PyData.keyHash P (qS "_law_order_at")), (.str (qS "_law_order_at") 604), (.ref 331)⟩, ⟨(PyData.keyHash P (qS "_law_room_right")), (.str (qS "_law_room_right") 617), (.ref 338)⟩, ⟨(PyData.keyHash P (qS "_law_keeps")), (.str (qS "_law_keeps") 629), (.ref 345)⟩]⟩ 56), ⟨[]⟩⟩
noncomputable def o12v9 (P : Params) : Obj := ⟨.none, none, (.fields ⟨[(.int 2 0), (.int 0 0), (.ref 21), (.int 14 0), (.int 0 0), (.ref 52), (.int 19 0), (.int 0 0), (.ref 59), (.int 26 0), (.int 0 0), (.ref 66), (.int 28 0), (.int 0 0), (.ref 73), (.int 35 0), (.int 0 0), (.ref 80), (.int 37 0), (.int 0 0), (.ref 87), (.int 41 0), (.int 0 0), (.ref 94), (.int 43 0), (.int 0 0), (.ref 101), (.int 45 0), (.int 0 0), (.ref 108), (.int 49 0), (.int 0 0), (.ref 115), (.int 53 0), (.int 0 0), (.ref 122), (.int 55 0), (.int 0 0), (.ref 129), (.int 58 0), (.int 0 0), (.ref 136), (.int 60 0), (.int 0 0), (.ref 143), (.int 62 0), (.int 0 0), (.ref 150), (.int 64 0), (.int 0 0), (.ref 157), (.int 69 0), (.int 0 0), (.ref 164), (.int 72 0), (.int 0 0), (.ref 171), (.int 74 0), (.int 0 0), (.ref 178), (.int 77 0), (.int 0 0), (.ref 185), (.int 80 0), (.int 0 0), (.ref 192), (.int 82 0), (.int 0 0), (.ref 199), (.int 84 0), (.int 0 0), (.ref 206), (.int 86 0), (.int 0 0), (.ref 213), (.int 88 0), (.int 0 0), (.ref 220), (.int 90 0), (.int 0 0), (.ref 227), (.int 92 0), (.int 0 0), (.ref 234), (.int 95 0), (.int 0 0), (.ref 241), (.int 97 0), (.int 0 0), (.ref 248), (.int 103 0), (.int 0 0), (.ref 255), (.int 108 0), (.int 0 0), (.ref 262), (.int 124 0), (.int 0 0), (.ref 269), (.int 128 0), (.int 0 0), (.ref 276), (.int 132 0), (.int 0 0), (.ref 283), (.int 151 0), (.int 0 0), (.ref 290), (.int 172 0), (.int 0 0), (.ref 295), (.int 185 0), (.int 0 0), (.ref 302), (.int 193 0), (.int 0 0), (.ref 309), (.int 211 0), (.int 0 0), (.ref 316), (.int 214 0), (.int 0 0), (.ref 323), (.int 224 0), (.int 0 0), (.ref 330), (.int 227 0), (.int 0 0), (.ref 337), (.int 238 0), (.int 0 0), (.ref 344)]⟩), ⟨[]⟩⟩
noncomputable def o311 (P : Params) : Obj := ⟨(.type "tuple"), none, (.seq ⟨[]⟩ 0), ⟨[]⟩⟩
noncomputable def o312 (P : Params) : Obj := ⟨.none, none, (.fields ⟨[]⟩), ⟨[]⟩⟩
noncomputable def o313 (P : Params) : Obj := ⟨(.type "tuple"), none, (.seq ⟨[(.str (qS "delta") 569), (.str (qS "small") 570), (.str (qS "a") 571), (.str (qS "b") 572), (.str (qS "c") 573), (.str (qS "d") 574)]⟩ 0), ⟨[]⟩⟩
noncomputable def o314 (P : Params) : Obj := ⟨(.type "tuple"), none, (.seq ⟨[]⟩ 0), ⟨[]⟩⟩
noncomputable def o315 (P : Params) : Obj := ⟨.none, none, (.func ⟨(qS "_law_value"), (qS "_law_value"), pA 45, .stmts (pB 45), pS 45, 0, [], .none, .none, .none, .none, none, .none, .none, 0⟩), ⟨[]⟩⟩
noncomputable def o316 (P : Params) : Obj := ⟨(.type "code"), none, (.fields ⟨[(.str (qS "_law_value") 566), (.str (qS "_law_value") 567), (.str (qS "/claim/cut.py") 568), (.int 211 0), (.int 2 0), (.int 0 0), (.int 0 0), (.int 3 0), (.ref 311), (.bool true), (.int 181 0), (.ref 312), .none, (.ref 313), (.ref 314), (.ref 315), (.int 575 0), (.int 211 0), (.str (qS "/claim/cut.py") 576)]⟩), ⟨[]⟩⟩
noncomputable def o317 (P : Params) : Obj := ⟨(.type "function"), none, (.func ⟨(qS "_law_value"), (qS "_law_value"), pA 45, .stmts (pB 45), pS 45, 3, [], .none, .none, .none, (.str (qS "law_no0004_01") 471), none, (.ref 316), .none, 0⟩), ⟨[]⟩⟩
noncomputable def o318 (P : Params) : Obj := ⟨(.type "tuple"), none, (.seq ⟨[]⟩ 0), ⟨[]⟩⟩
noncomputable def o319 (P : Params) : Obj := ⟨.none, none, (.fields ⟨[]⟩), ⟨[]⟩⟩
noncomputable def o320 (P : Params) : Obj := ⟨(.type "tuple"), none, (.seq ⟨[(.str (qS "one") 581), (.str (qS "other") 582), (.str (qS "times") 583), (.str (qS "small") 584), (.str (qS "a") 585), (.str (qS "b") 586), (.str (qS "c") 587), (.str (qS "d") 588)]⟩ 0), ⟨[]⟩⟩
noncomputable def o321 (P : Params) : Obj := ⟨(.type "tuple"), none, (.seq ⟨[]⟩ 0), ⟨[]⟩⟩
noncomputable def o322 (P : Params) : Obj := ⟨.none, none, (.func ⟨(qS "_law_sums_right"), (qS "_law_sums_right"), pA 46, .stmts (pB 46), pS 46, 0, [], .none, .none, .none, .none, none, .none, .none, 0⟩), ⟨[]⟩⟩
noncomputable def o323 (P : Params) : Obj := ⟨(.type "code"), none, (.fields ⟨[(.str (qS "_law_sums_right") 578), (.str (qS "_law_sums_right") 579), (.str (qS "/claim/cut.py") 580), (.int 214 0), (.int 3 0), (.int 0 0), (.int 0 0), (.int 3 0), (.ref 318), (.bool true), (.int 181 0), (.ref 319), .none, (.ref 320), (.ref 321), (.ref 322), (.int 589 0), (.int 214 0), (.str (qS "/claim/cut.py") 590)]⟩), ⟨[]⟩⟩
noncomputable def o324 (P : Params) : Obj := ⟨(.type "function"), none, (.func ⟨(qS "_law_sums_right"), (qS "_law_sums_right"), pA 46, .stmts (pB 46), pS 46, 3, [], .none, .none, .none, (.str (qS "law_no0004_01") 471), none, (.ref 323), .none, 0⟩), ⟨[]⟩⟩
noncomputable def o325 (P : Params) : Obj := ⟨(.type "tuple"), none, (.seq ⟨[]⟩ 0), ⟨[]⟩⟩
noncomputable def o326 (P : Params) : Obj := ⟨.none, none, (.fields ⟨[]⟩), ⟨[]⟩⟩
noncomputable def o327 (P : Params) : Obj := ⟨(.type "tuple"), none, (.seq ⟨[(.str (qS "low") 595), (.str (qS "high") 596), (.str (qS "small") 597), (.str (qS "a") 598), (.str (qS "b") 599), (.str (qS "c") 600), (.str (qS "d") 601)]⟩ 0), ⟨[]⟩⟩
noncomputable def o328 (P : Params) : Obj := ⟨(.type "tuple"), none, (.seq ⟨[]⟩ 0), ⟨[]⟩⟩
noncomputable def o329 (P : Params) : Obj := ⟨.none, none, (.func ⟨(qS "_law_order_at"), (qS "_law_order_at"), pA 47, .stmts (pB 47), pS 47, 0, [], .none, .none, .none, .none, none, .none, .none, 0⟩), ⟨[]⟩⟩
noncomputable def o330 (P : Params) : Obj := ⟨(.type "code"), none, (.fields ⟨[(.str (qS "_law_order_at") 592), (.str (qS "_law_order_at") 593), (.str (qS "/claim/cut.py") 594), (.int 224 0), (.int 3 0), (.int 0 0), (.int 0 0), (.int 3 0), (.ref 325), (.bool true), (.int 181 0), (.ref 326), .none, (.ref 327), (.ref 328), (.ref 329), (.int 602 0), (.int 224 0), (.str (qS "/claim/cut.py") 603)]⟩), ⟨[]⟩⟩
noncomputable def o331 (P : Params) : Obj := ⟨(.type "function"), none, (.func ⟨(qS "_law_order_at"), (qS "_law_order_at"), pA 47, .stmts (pB 47), pS 47, 3, [], .none, .none, .none, (.str (qS "law_no0004_01") 471), none, (.ref 330), .none, 0⟩), ⟨[]⟩⟩
noncomputable def o332 (P : Params) : Obj := ⟨(.type "tuple"), none, (.seq ⟨[]⟩ 0), ⟨[]⟩⟩
noncomputable def o333 (P : Params) : Obj := ⟨.none, none, (.fields ⟨[]⟩), ⟨[]⟩⟩
noncomputable def o334 (P : Params) : Obj := ⟨(.type "tuple"), none, (.seq ⟨[(.str (qS "low") 608), (.str (qS "high") 609), (.str (qS "room") 610), (.str (qS "top") 611), (.str (qS "bottom") 612), (.str (qS "half") 613), (.str (qS "twice") 614)]⟩ 0), ⟨[]⟩⟩
noncomputable def o335 (P : Params) : Obj := ⟨(.type "tuple"), none, (.seq ⟨[]⟩ 0), ⟨[]⟩⟩
noncomputable def o336 (P : Params) : Obj := ⟨.none, none, (.func ⟨(qS "_law_room_right"), (qS "_law_room_right"), pA 48, .stmts (pB 48), pS 48, 0, [], .none, .none, .none, .none, none, .none, .none, 0⟩), ⟨[]⟩⟩
noncomputable def o337 (P : Params) : Obj := ⟨(.type "code"), none, (.fields ⟨[(.str (qS "_law_room_right") 605), (.str (qS "_law_room_right") 606), (.str (qS "/claim/cut.py") 607), (.int 227 0), (.int 2 0), (.int 0 0), (.int 0 0), (.int 3 0), (.ref 332), (.bool true), (.int 181 0), (.ref 333), .none, (.ref 334), (.ref 335), (.ref 336), (.int 615 0), (.int 227 0), (.str (qS "/claim/cut.py") 616)]⟩), ⟨[]⟩⟩
noncomputable def o338 (P : Params) : Obj := ⟨(.type "function"), none, (.func ⟨(qS "_law_room_right"), (qS "_law_room_right"), pA 48, .stmts (pB 48), pS 48, 3, [], .none, .none, .none, (.str (qS "law_no0004_01") 471), none, (.ref 337), .none, 0⟩), ⟨[]⟩⟩
noncomputable def o339 (P : Params) : Obj := ⟨(.type "tuple"), none, (.seq ⟨[]⟩ 0), ⟨[]⟩⟩
noncomputable def o340 (P : Params) : Obj := ⟨.none, none, (.fields ⟨[]⟩), ⟨[]⟩⟩
noncomputable def o341 (P : Params) : Obj := ⟨(.type "tuple"), none, (.seq ⟨[(.str (qS "point") 621), (.str (qS "bound") 622), (.str (qS "side") 623), (.str (qS "strict") 624), (.str (qS "limit") 625), (.str (qS "lies") 626)]⟩ 0), ⟨[]⟩⟩
noncomputable def o342 (P : Params) : Obj := ⟨(.type "tuple"), none, (.seq ⟨[]⟩ 0), ⟨[]⟩⟩
noncomputable def o343 (P : Params) : Obj := ⟨.none, none, (.func ⟨(qS "_law_keeps"), (qS "_law_keeps"), pA 49, .stmts (pB 49), pS 49, 0, [], .none, .none, .none, .none, none, .none, .none, 0⟩), ⟨[]⟩⟩
noncomputable def o344 (P : Params) : Obj := ⟨(.type "code"), none, (.fields ⟨[(.str (qS "_law_keeps") 618), (.str (qS "_law_keeps") 619), (.str (qS "/claim/cut.py") 620), (.int 238 0), (.int 2 0), (.int 0 0), (.int 0 0), (.int 3 0), (.ref 339), (.bool true), (.int 181 0), (.ref 340), .none, (.ref 341), (.ref 342), (.ref 343), (.int 627 0), (.int 238 0), (.str (qS "/claim/cut.py") 628)]⟩), ⟨[]⟩⟩
noncomputable def o345 (P : Params) : Obj := ⟨(.type "function"), none, (.func ⟨(qS "_law_keeps"), (qS "_law_keeps"), pA 49, .stmts (pB 49), pS 49, 3, [], .none, .none, .none, (.str (qS "law_no0004_01") 471), none, (.ref 344), .none, 0⟩), ⟨[]⟩⟩
noncomputable def tr10 (P : Params) : BT := (.node (boot_o_0 P) (.node (boot_o_1 P) (.node (o3v10 P) (.node (boot_o_7 P) (.node (o15 P) (.node (o31 P) (.node (o63 P) (.node (o127 P) (.node (o255 P) .nil .nil) .nil) (.node (o191 P) (.node (o319 P) .nil .nil) .nil)) (.node (o95 P) (.node (o159 P) (.node (o287 P) .nil .nil) .nil) (.node (o223 P) .nil .nil))) (.node (o47 P) (.node (o79 P) (.node (o143 P) (.node (o271 P) .nil .nil) .nil) (.node (o207 P) (.node (o335 P) .nil .nil) .nil)) (.node (o111 P) (.node (o175 P) (.node (o303 P) .nil .nil) .nil) (.node (o239 P) .nil .nil)))) (.node (o23 P) (.node (o39 P) (.node (o71 P) (.node (o135 P) (.node (o263 P) .nil .nil) .nil) (.node (o199 P) (.node (o327 P) .nil .nil) .nil)) (.node (o103 P) (.node (o167 P) (.node (o295 P) .nil .nil) .nil) (.node (o231 P) .nil .nil))) (.node (o55 P) (.node (o87 P) (.node (o151 P) (.node (o279 P) .nil .nil) .nil) (.node (o215 P) (.node (o343 P) .nil .nil) .nil)) (.node (o119 P) (.node (o183 P) (.node (o311 P) .nil .nil) .nil) (.node (o247 P) .nil .nil))))) (.node (o11 P) (.node (o19 P) (.node (o35 P) (.node (o67 P) (.node (o131 P) (.node (o259 P) .nil .nil) .nil) (.node (o195 P) (.node (o323 P) .nil .nil) .nil)) (.node (o99 P) (.node (o163 P) (.node (o291 P) .nil .nil) .nil) (.node (o227 P) .nil .nil))) (.node (o51 P) (.node (o83 P) (.node (o147 P) (.node (o275 P) .nil .nil) .nil) (.node (o211 P) (.node (o339 P) .nil .nil) .nil)) (.node (o115 P) (.node (o179 P) (.node (o307 P) .nil .nil) .nil) (.node (o243 P) .nil .nil)))) (.node (o27 P) (.node (o43 P) (.node (o75 P) (.node (o139 P) (.node (o267 P) .nil .nil) .nil) (.node (o203 P) (.node (o331 P) .nil .nil) .nil)) (.node (o107 P) (.node (o171 P) (.node (o299 P) .nil .nil) .nil) (.node (o235 P) .nil .nil))) (.node (o59 P) (.node (o91 P) (.node (o155 P) (.node (o283 P) .nil .nil) .nil) (.node (o219 P) .nil .nil)) (.node (o123 P) (.node (o187 P) (.node (o315 P) .nil .nil) .nil) (.node (o251 P) .nil .nil)))))) (.node (boot_o_5 P) (.node (boot_o_9 P) (.node (o17 P) (.node (o33 P) (.node (o65 P) (.node (o129 P) (.node (o257 P) .nil .nil) .nil) (.node (o193 P) (.node (o321 P) .nil .nil) .nil)) (.node (o97 P) (.node (o161 P) (.node (o289 P) .nil .nil) .nil) (.node (o225 P) .nil .nil))) (.node (o49 P) (.node (o81 P) (.node (o145 P) (.node (o273 P) .nil .nil) .nil) (.node (o209 P) (.node (o337 P) .nil .nil) .nil)) (.node (o113 P) (.node (o177 P) (.node (o305 P) .nil .nil) .nil) (.node (o241 P) .nil .nil)))) (.node (o25 P) (.node (o41 P) (.node (o73 P) (.node (o137 P) (.node (o265 P) .nil .nil) .nil) (.node (o201 P) (.node (o329 P) .nil .nil) .nil)) (.node (o105 P) (.node (o169 P) (.node (o297 P) .nil .nil) .nil) (.node (o233 P) .nil .nil))) (.node (o57 P) (.node (o89 P) (.node (o153 P) (.node (o281 P) .nil .nil) .nil) (.node (o217 P) (.node (o345 P) .nil .nil) .nil)) (.node (o121 P) (.node (o185 P) (.node (o313 P) .nil .nil) .nil) (.node (o249 P) .nil .nil))))) (.node (o13 P) (.node (o21 P) (.node (o37 P) (.node (o69 P) (.node (o133 P) (.node (o261 P) .nil .nil) .nil) (.node (o197 P) (.node (o325 P) .nil .nil) .nil)) (.node (o101 P) (.node (o165 P) (.node (o293 P) .nil .nil) .nil) (.node (o229 P) .nil .nil))) (.node (o53 P) (.node (o85 P) (.node (o149 P) (.node (o277 P) .nil .nil) .nil) (.node (o213 P) (.node (o341 P) .nil .nil) .nil)) (.node (o117 P) (.node (o181 P) (.node (o309 P) .nil .nil) .nil) (.node (o245 P) .nil .nil)))) (.node (o29 P) (.node (o45 P) (.node (o77 P) (.node (o141 P) (.node (o269 P) .nil .nil) .nil) (.node (o205 P) (.node (o333 P) .nil .nil) .nil)) (.node (o109 P) (.node (o173 P) (.node (o301 P) .nil .nil) .nil) (.node (o237 P) .nil .nil))) (.node (o61 P) (.node (o93 P) (.node (o157 P) (.node (o285 P) .nil .nil) .nil) (.node (o221 P) .nil .nil)) (.node (o125 P) (.node (o189 P) (.node (o317 P) .nil .nil) .nil) (.node (o253 P) .nil .nil))))))) (.node (o2v1 P) (.node (boot_o_4 P) (.node (boot_o_8 P) (.node (o16 P) (.node (o32 P) (.node (o64 P) (.node (o128 P) (.node (o256 P) .nil .nil) .nil) (.node (o192 P) (.node (o320 P) .nil .nil) .nil)) (.node (o96 P) (.node (o160 P) (.node (o288 P) .nil .nil) .nil) (.node (o224 P) .nil .nil))) (.node (o48 P) (.node (o80 P) (.node (o144 P) (.node (o272 P) .nil .nil) .nil) (.node (o208 P) (.node (o336 P) .nil .nil) .nil)) (.node (o112 P) (.node (o176 P) (.node (o304 P) .nil .nil) .nil) (.node (o240 P) .nil .nil)))) (.node (o24 P) (.node (o40 P) (.node (o72 P) (.node (o136 P) (.node (o264 P) .nil .nil) .nil) (.node (o200 P) (.node (o328 P) .nil .nil) .nil)) (.node (o104 P) (.node (o168 P) (.node (o296 P) .nil .nil) .nil) (.node (o232 P) .nil .nil))) (.node (o56 P) (.node (o88 P) (.node (o152 P) (.node (o280 P) .nil .nil) .nil) (.node (o216 P) (.node (o344 P) .nil .nil) .nil)) (.node (o120 P) (.node (o184 P) (.node (o312 P) .nil .nil) .nil) (.node (o248 P) .nil .nil))))) (.node (o12v9 P) (.node (o20 P) (.node (o36 P) (.node (o68 P) (.node (o132 P) (.node (o260 P) .nil .nil) .nil) (.node (o196 P) (.node (o324 P) .nil .nil) .nil)) (.node (o100 P) (.node (o164 P) (.node (o292 P) .nil .nil) .nil) (.node (o228 P) .nil .nil))) (.node (o52 P) (.node (o84 P) (.node (o148 P) (.node (o276 P) .nil .nil) .nil) (.node (o212 P) (.node (o340 P) .nil .nil) .nil)) (.node (o116 P) (.node (o180 P) (.node (o308 P) .nil .nil) .nil) (.node (o244 P) .nil .nil)))) (.node (o28 P) (.node (o44 P) (.node (o76 P) (.node (o140 P) (.node (o268 P) .nil .nil) .nil) (.node (o204 P) (.node (o332 P) .nil .nil) .nil)) (.node (o108 P) (.node (o172 P) (.node (o300 P) .nil .nil) .nil) (.node (o236 P) .nil .nil))) (.node (o60 P) (.node (o92 P) (.node (o156 P) (.node (o284 P) .nil .nil) .nil) (.node (o220 P) .nil .nil)) (.node (o124 P) (.node (o188 P) (.node (o316 P) .nil .nil) .nil) (.node (o252 P) .nil .nil)))))) (.node (boot_o_6 P) (.node (boot_o_10 P) (.node (o18 P) (.node (o34 P) (.node (o66 P) (.node (o130 P) (.node (o258 P) .nil .nil) .nil) (.node (o194 P) (.node (o322 P) .nil .nil) .nil)) (.node (o98 P) (.node (o162 P) (.node (o290 P) .nil .nil) .nil) (.node (o226 P) .nil .nil))) (.node (o50 P) (.node (o82 P) (.node (o146 P) (.node (o274 P) .nil .nil) .nil) (.node (o210 P) (.node (o338 P) .nil .nil) .nil)) (.node (o114 P) (.node (o178 P) (.node (o306 P) .nil .nil) .nil) (.node (o242 P) .nil .nil)))) (.node (o26 P) (.node (o42 P) (.node (o74 P) (.node (o138 P) (.node (o266 P) .nil .nil) .nil) (.node (o202 P) (.node (o330 P) .nil .nil) .nil)) (.node (o106 P) (.node (o170 P) (.node (o298 P) .nil .nil) .nil) (.node (o234 P) .nil .nil))) (.node (o58 P) (.node (o90 P) (.node (o154 P) (.node (o282 P) .nil .nil) .nil) (.node (o218 P) .nil .nil)) (.node (o122 P) (.node (o186 P) (.node (o314 P) .nil .nil) .nil) (.node (o250 P) .nil .nil))))) (.node (o14 P) (.node (o22 P) (.node (o38 P) (.node (o70 P) (.node (o134 P) (.node (o262 P) .nil .nil) .nil) (.node (o198 P) (.node (o326 P) .nil .nil) .nil)) (.node (o102 P) (.node (o166 P) (.node (o294 P) .nil .nil) .nil) (.node (o230 P) .nil .nil))) (.node (o54 P) (.node (o86 P) (.node (o150 P) (.node (o278 P) .nil .nil) .nil) (.node (o214 P) (.node (o342 P) .nil .nil) .nil)) (.node (o118 P) (.node (o182 P) (.node (o310 P) .nil .nil) .nil) (.node (o246 P) .nil .nil)))) (.node (o30 P) (.node (o46 P) (.node (o78 P) (.node (o142 P) (.node (o270 P) .nil .nil) .nil) (.node (o206 P) (.node (o334 P) .nil .nil) .nil)) (.node (o110 P) (.node (o174 P) (.node (o302 P) .nil .nil) .nil) (.node (o238 P) .nil .nil))) (.node (o62 P) (.node (o94 P) (.node (o158 P) (.node (o286 P) .nil .nil) .nil) (.node (o222 P) .nil .nil)) (.node (o126 P) (.node (o190 P) (.node (o318 P) .nil .nil) .nil) (.node (o254 P) .nil .nil))))))))
noncomputable def o3v11 (P : Params) : Obj := ⟨(.type "dict"), none, (.dict ⟨[⟨(PyData.keyHash P (qS "__name__")), (.str (qS "__name__") 165), (.str (qS "law_no0004_01") 471)⟩, ⟨(PyData.keyHash P (qS "__doc__")), (.str (qS "__doc__") 166), .none⟩, ⟨(PyData.keyHash P (qS "__package__")), (.str (qS "__package__") 167), .none⟩, ⟨(PyData.keyHash P (qS "__loader__")), (.str (qS "__loader__") 168), (.builtin "__main__.__loader__#opaque")⟩, ⟨(PyData.keyHash P (qS "__spec__")), (.str (qS "__spec__") 169), .none⟩, ⟨(PyData.keyHash P (qS "__annotations__")), (.str (qS "__annotations__") 170), (.ref 6)⟩, ⟨(PyData.keyHash P (qS "__builtins__")), (.str (qS "__builtins__") 171), (.ref 4)⟩, ⟨(PyData.keyHash P (qS "__file__")), (.str (qS "__file__") 173), (.str (qS "/claim/cut.py") 172)⟩, ⟨(PyData.keyHash P (qS "__cached__")), (.str (qS "__cached__") 174), .none⟩, ⟨(PyData.keyHash P (qS "SmtError")), (.str (qS "SmtError") 226), (.ref 40)⟩, ⟨(PyData.keyHash P (qS "ZERO")), (.str (qS "ZERO") 231), (.ref 44)⟩, ⟨(PyData.keyHash P (qS "ONE")), (.str (qS "ONE") 234), (.ref 45)⟩, ⟨(PyData.keyHash P (qS "MINUS_ONE")), (.str (qS "MINUS_ONE") 238), (.ref 46)⟩, ⟨(PyData.keyHash P (qS "gcd_of")), (.str (qS "gcd_of") 246), (.ref 53)⟩, ⟨(PyData.keyHash P (qS "gcd_all")), (.str (qS "gcd_all") 255), (.ref 60)⟩, ⟨(PyData.keyHash P (qS "lcm_of")), (.str (qS "lcm_of") 263), (.ref 67)⟩, ⟨(PyData.keyHash P (qS "ratio")), (.str (qS "ratio") 272), (.ref 74)⟩, ⟨(PyData.keyHash P (qS "whole")), (.str (qS "whole") 279), (.ref 81)⟩, ⟨(PyData.keyHash P (qS "add")), (.str (qS "add") 287), (.ref 88)⟩, ⟨(PyData.keyHash P (qS "neg")), (.str (qS "neg") 294), (.ref 95)⟩, ⟨(PyData.keyHash P (qS "sub")), (.str (qS "sub") 302), (.ref 102)⟩, ⟨(PyData.keyHash P (qS "mul")), (.str (qS "mul") 310), (.ref 109)⟩, ⟨(PyData.keyHash P (qS "div")), (.str (qS "div") 318), (.ref 116)⟩, ⟨(PyData.keyHash P (qS "sign_of")), (.str (qS "sign_of") 325), (.ref 123)⟩, ⟨(PyData.keyHash P (qS "compare")), (.str (qS "compare") 335), (.ref 130)⟩, ⟨(PyData.keyHash P (qS "floor_of")), (.str (qS "floor_of") 342), (.ref 137)⟩, ⟨(PyData.keyHash P (qS "ceil_of")), (.str (qS "ceil_of") 349), (.ref 144)⟩, ⟨(PyData.keyHash P (qS "is_whole")), (.str (qS "is_whole") 356), (.ref 151)⟩, ⟨(PyData.keyHash P (qS "common_bottom")), (.str (qS "common_bottom") 365), (.ref 158)⟩, ⟨(PyData.keyHash P (qS "ratio_of_decimal")), (.str (qS "ratio_of_decimal") 374), (.ref 165)⟩, ⟨(PyData.keyHash P (qS "signed_text")), (.str (qS "signed_text") 382), (.ref 172)⟩, ⟨(PyData.keyHash P (qS "ratio_text")), (.str (qS "ratio_text") 390), (.ref 179)⟩, ⟨(PyData.keyHash P (qS "real_text")), (.str (qS "real_text") 398), (.ref 186)⟩, ⟨(PyData.keyHash P (qS "d_make")), (.str (qS "d_make") 405), (.ref 193)⟩, ⟨(PyData.keyHash P (qS "d_below")), (.str (qS "d_below") 412), (.ref 200)⟩, ⟨(PyData.keyHash P (qS "d_above")), (.str (qS "d_above") 419), (.ref 207)⟩, ⟨(PyData.keyHash P (qS "d_add")), (.str (qS "d_add") 427), (.ref 214)⟩, ⟨(PyData.keyHash P (qS "d_sub")), (.str (qS "d_sub") 435), (.ref 221)⟩, ⟨(PyData.keyHash P (qS "d_scale")), (.str (qS "d_scale") 443), (.ref 228)⟩, ⟨(PyData.keyHash P (qS "d_compare")), (.str (qS "d_compare") 452), (.ref 235)⟩, ⟨(PyData.keyHash P (qS "d_at")), (.str (qS "d_at") 460), (.ref 242)⟩, ⟨(PyData.keyHash P (qS "d_room")), (.str (qS "d_room") 470), (.ref 249)⟩, ⟨(PyData.keyHash P (qS "_law_drawn")), (.str (qS "_law_drawn") 481), (.ref 256)⟩, ⟨(PyData.keyHash P (qS "_law_common")), (.str (qS "_law_common") 490), (.ref 263)⟩, ⟨(PyData.keyHash P (qS "_law_sign")), (.str (qS "_law_sign") 498), (.ref 270)⟩, ⟨(PyData.keyHash P (qS "_law_is")), (.str (qS "_law_is") 507), (.ref 277)⟩, ⟨(PyData.keyHash P (qS "_law_done")), (.str (qS "_law_done") 518), (.ref 284)⟩, ⟨(PyData.keyHash P (qS "_law_due")), (.str (qS "_law_due") 531), (.ref 291)⟩, ⟨(PyData.keyHash P (qS "_law_read")), (.str (qS "_law_read") 537), (.ref 296)⟩, ⟨(PyData.keyHash P (qS "_law_one_right")), (.str (qS "_law_one_right") 548), (.ref 303)⟩, ⟨(PyData.keyHash P (qS "_law_machine")), (.str (qS "_law_machine") 565), (.ref 310)⟩, ⟨(PyData.keyHash P (qS "_law_value")), (.str (qS "_law_value") 577), (.ref 317)⟩, ⟨(PyData.keyHash P (qS "_law_sums_right")), (.str (qS "_law_sums_right") 591), (.ref 324)⟩, ⟨(PyData.keyHash P (qS "_law_order_at")), (.str (qS "_law_order_at") 604), (.ref 331)⟩, ⟨(PyData.keyHash P (qS "_law_room_right")), (.str (qS "_law_room_right") 617), (.ref 338)⟩, ⟨(PyData.keyHash P (qS "_law_keeps")), (.str (qS "_law_keeps") 629), (.ref 345)⟩, ⟨(PyData.keyHash P (qS "_law_bounds")), (.str (qS "_law_bounds") 638), (.ref 352)⟩, ⟨(PyData.keyHash P (qS "_law_delta")), (.str (qS "_law_delta") 648), (.ref 359)⟩, ⟨(PyData.keyHash P (qS "_law_bounds_right")), (.str (qS "_law_bounds_right") 654), (.ref 364)⟩, ⟨(PyData.keyHash P (qS "_law_divisors_right")), (.str (qS "_law_divisors_right") 660), (.ref 369)⟩, ⟨(PyData.keyHash P (qS "law")), (.str (qS "law") 666), (.ref 374)⟩]⟩ 61), ⟨[]⟩⟩
noncomputable def o12v10 (P : Params) : Obj := ⟨.none, none, (.fields ⟨[(.int 2 0), (.int 0 0), (.ref 21), (.int 14 0), (.int 0 0), (.ref 52), (.int 19 0), (.int 0 0), (.ref 59), (.int 26 0), (.int 0 0), (.ref 66), (.int 28 0), (.int 0 0), (.ref 73), (.int 35 0), (.int 0 0), (.ref 80), (.int 37 0), (.int 0 0), (.ref 87), (.int 41 0), (.int 0 0), (.ref 94), (.int 43 0), (.int 0 0), (.ref 101), (.int 45 0), (.int 0 0), (.ref 108), (.int 49 0), (.int 0 0), (.ref 115), (.int 53 0), (.int 0 0), (.ref 122), (.int 55 0), (.int 0 0), (.ref 129), (.int 58 0), (.int 0 0), (.ref 136), (.int 60 0), (.int 0 0), (.ref 143), (.int 62 0), (.int 0 0), (.ref 150), (.int 64 0), (.int 0 0), (.ref 157), (.int 69 0), (.int 0 0), (.ref 164), (.int 72 0), (.int 0 0), (.ref 171), (.int 74 0), (.int 0 0), (.ref 178), (.int 77 0), (.int 0 0), (.ref 185), (.int 80 0), (.int 0 0), (.ref 192), (.int 82 0), (.int 0 0), (.ref 199), (.int 84 0), (.int 0 0), (.ref 206), (.int 86 0), (.int 0 0), (.ref 213), (.int 88 0), (.int 0 0), (.ref 220), (.int 90 0), (.int 0 0), (.ref 227), (.int 92 0), (.int 0 0), (.ref 234), (.int 95 0), (.int 0 0), (.ref 241), (.int 97 0), (.int 0 0), (.ref 248), (.int 103 0), (.int 0 0), (.ref 255), (.int 108 0), (.int 0 0), (.ref 262), (.int 124 0), (.int 0 0), (.ref 269), (.int 128 0), (.int 0 0), (.ref 276), (.int 132 0), (.int 0 0), (.ref 283), (.int 151 0), (.int 0 0), (.ref 290), (.int 172 0), (.int 0 0), (.ref 295), (.int 185 0), (.int 0 0), (.ref 302), (.int 193 0), (.int 0 0), (.ref 309), (.int 211 0), (.int 0 0), (.ref 316), (.int 214 0), (.int 0 0), (.ref 323), (.int 224 0), (.int 0 0), (.ref 330), (.int 227 0), (.int 0 0), (.ref 337), (.int 238 0), (.int 0 0), (.ref 344), (.int 242 0), (.int 0 0), (.ref 351), (.int 247 0), (.int 0 0), (.ref 358), (.int 252 0), (.int 0 0), (.ref 363), (.int 281 0), (.int 0 0), (.ref 368), (.int 296 0), (.int 0 0), (.ref 373)]⟩), ⟨[]⟩⟩
noncomputable def o346 (P : Params) : Obj := ⟨(.type "tuple"), none, (.seq ⟨[]⟩ 0), ⟨[]⟩⟩
noncomputable def o347 (P : Params) : Obj := ⟨.none, none, (.fields ⟨[]⟩), ⟨[]⟩⟩
noncomputable def o348 (P : Params) : Obj := ⟨(.type "tuple"), none, (.seq ⟨[(.str (qS "numbers") 633), (.str (qS "found") 634), (.str (qS "n") 635)]⟩ 0), ⟨[]⟩⟩
noncomputable def o349 (P : Params) : Obj := ⟨(.type "tuple"), none, (.seq ⟨[]⟩ 0), ⟨[]⟩⟩
noncomputable def o350 (P : Params) : Obj := ⟨.none, none, (.func ⟨(qS "_law_bounds"), (qS "_law_bounds"), pA 50, .stmts (pB 50), pS 50, 0, [], .none, .none, .none, .none, none, .none, .none, 0⟩), ⟨[]⟩⟩
noncomputable def o351 (P : Params) : Obj := ⟨(.type "code"), none, (.fields ⟨[(.str (qS "_law_bounds") 630), (.str (qS "_law_bounds") 631), (.str (qS "/claim/cut.py") 632), (.int 242 0), (.int 1 0), (.int 0 0), (.int 0 0), (.int 3 0), (.ref 346), (.bool true), (.int 181 0), (.ref 347), .none, (.ref 348), (.ref 349), (.ref 350), (.int 636 0), (.int 242 0), (.str (qS "/claim/cut.py") 637)]⟩), ⟨[]⟩⟩
noncomputable def o352 (P : Params) : Obj := ⟨(.type "function"), none, (.func ⟨(qS "_law_bounds"), (qS "_law_bounds"), pA 50, .stmts (pB 50), pS 50, 3, [], .none, .none, .none, (.str (qS "law_no0004_01") 471), none, (.ref 351), .none, 0⟩), ⟨[]⟩⟩
noncomputable def o353 (P : Params) : Obj := ⟨(.type "tuple"), none, (.seq ⟨[]⟩ 0), ⟨[]⟩⟩
noncomputable def o354 (P : Params) : Obj := ⟨.none, none, (.fields ⟨[]⟩), ⟨[]⟩⟩
noncomputable def o355 (P : Params) : Obj := ⟨(.type "tuple"), none, (.seq ⟨[(.str (qS "bound") 642), (.str (qS "side") 643), (.str (qS "strict") 644), (.str (qS "limit") 645)]⟩ 0), ⟨[]⟩⟩
noncomputable def o356 (P : Params) : Obj := ⟨(.type "tuple"), none, (.seq ⟨[]⟩ 0), ⟨[]⟩⟩
noncomputable def o357 (P : Params) : Obj := ⟨.none, none, (.func ⟨(qS "_law_delta"), (qS "_law_delta"), pA 51, .stmts (pB 51), pS 51, 0, [], .none, .none, .none, .none, none, .none, .none, 0⟩), ⟨[]⟩⟩
noncomputable def o358 (P : Params) : Obj := ⟨(.type "code"), none, (.fields ⟨[(.str (qS "_law_delta") 639), (.str (qS "_law_delta") 640), (.str (qS "/claim/cut.py") 641), (.int 247 0), (.int 1 0), (.int 0 0), (.int 0 0), (.int 3 0), (.ref 353), (.bool true), (.int 181 0), (.ref 354), .none, (.ref 355), (.ref 356), (.ref 357), (.int 646 0), (.int 247 0), (.str (qS "/claim/cut.py") 647)]⟩), ⟨[]⟩⟩
noncomputable def o359 (P : Params) : Obj := ⟨(.type "function"), none, (.func ⟨(qS "_law_delta"), (qS "_law_delta"), pA 51, .stmts (pB 51), pS 51, 3, [], .none, .none, .none, (.str (qS "law_no0004_01") 471), none, (.ref 358), .none, 0⟩), ⟨[]⟩⟩
noncomputable def o360 (P : Params) : Obj := ⟨(.type "tuple"), none, (.seq ⟨[]⟩ 0), ⟨[]⟩⟩
noncomputable def o361 (P : Params) : Obj := ⟨.none, none, (.fields ⟨[]⟩), ⟨[]⟩⟩
noncomputable def o362 (P : Params) : Obj := ⟨.none, none, (.func ⟨(qS "_law_bounds_right"), (qS "_law_bounds_right"), pA 52, .stmts (pB 52), pS 52, 0, [], .none, .none, .none, .none, none, .none, .none, 0⟩), ⟨[]⟩⟩
noncomputable def o363 (P : Params) : Obj := ⟨(.type "code"), none, (.fields ⟨[(.str (qS "_law_bounds_right") 649), (.str (qS "_law_bounds_right") 650), (.str (qS "/claim/cut.py") 651), (.int 252 0), (.int 1 0), (.int 0 0), (.int 0 0), (.int 3 0), (.ref 360), (.bool true), (.int 181 0), (.ref 361), .none, .none, .none, (.ref 362), (.int 652 0), (.int 252 0), (.str (qS "/claim/cut.py") 653)]⟩), ⟨[]⟩⟩
noncomputable def o364 (P : Params) : Obj := ⟨(.type "function"), none, (.func ⟨(qS "_law_bounds_right"), (qS "_law_bounds_right"), pA 52, .stmts (pB 52), pS 52, 3, [], .none, .none, .none, (.str (qS "law_no0004_01") 471), none, (.ref 363), .none, 0⟩), ⟨[]⟩⟩
noncomputable def o365 (P : Params) : Obj := ⟨(.type "tuple"), none, (.seq ⟨[]⟩ 0), ⟨[]⟩⟩
noncomputable def o366 (P : Params) : Obj := ⟨.none, none, (.fields ⟨[]⟩), ⟨[]⟩⟩
noncomputable def o367 (P : Params) : Obj := ⟨.none, none, (.func ⟨(qS "_law_divisors_right"), (qS "_law_divisors_right"), pA 53, .stmts (pB 53), pS 53, 0, [], .none, .none, .none, .none, none, .none, .none, 0⟩), ⟨[]⟩⟩
noncomputable def o368 (P : Params) : Obj := ⟨(.type "code"), none, (.fields ⟨[(.str (qS "_law_divisors_right") 655), (.str (qS "_law_divisors_right") 656), (.str (qS "/claim/cut.py") 657), (.int 281 0), (.int 3 0), (.int 0 0), (.int 0 0), (.int 3 0), (.ref 365), (.bool true), (.int 181 0), (.ref 366), .none, .none, .none, (.ref 367), (.int 658 0), (.int 281 0), (.str (qS "/claim/cut.py") 659)]⟩), ⟨[]⟩⟩
noncomputable def o369 (P : Params) : Obj := ⟨(.type "function"), none, (.func ⟨(qS "_law_divisors_right"), (qS "_law_divisors_right"), pA 53, .stmts (pB 53), pS 53, 3, [], .none, .none, .none, (.str (qS "law_no0004_01") 471), none, (.ref 368), .none, 0⟩), ⟨[]⟩⟩
noncomputable def o370 (P : Params) : Obj := ⟨(.type "tuple"), none, (.seq ⟨[]⟩ 0), ⟨[]⟩⟩
noncomputable def o371 (P : Params) : Obj := ⟨.none, none, (.fields ⟨[]⟩), ⟨[]⟩⟩
noncomputable def o372 (P : Params) : Obj := ⟨.none, none, (.func ⟨(qS "law"), (qS "law"), pA 54, .stmts (pB 54), pS 54, 0, [], .none, .none, .none, .none, none, .none, .none, 0⟩), ⟨[]⟩⟩
noncomputable def o373 (P : Params) : Obj := ⟨(.type "code"), none, (.fields ⟨[(.str (qS "law") 661), (.str (qS "law") 662), (.str (qS "/claim/cut.py") 663), (.int 296 0), (.int 1 0), (.int 0 0), (.int 0 0), (.int 3 0), (.ref 370), (.bool true), (.int 181 0), (.ref 371), .none, .none, .none, (.ref 372), (.int 664 0), (.int 296 0), (.str (qS "/claim/cut.py") 665)]⟩), ⟨[]⟩⟩
noncomputable def o374 (P : Params) : Obj := ⟨(.type "function"), none, (.func ⟨(qS "law"), (qS "law"), pA 54, .stmts (pB 54), pS 54, 3, [], .none, .none, .none, (.str (qS "law_no0004_01") 471), none, (.ref 373), .none, 0⟩), ⟨[]⟩⟩
noncomputable def tr11 (P : Params) : BT := (.node (boot_o_0 P) (.node (boot_o_1 P) (.node (o3v11 P) (.node (boot_o_7 P) (.node (o15 P) (.node (o31 P) (.node (o63 P) (.node (o127 P) (.node (o255 P) .nil .nil) .nil) (.node (o191 P) (.node (o319 P) .nil .nil) .nil)) (.node (o95 P) (.node (o159 P) (.node (o287 P) .nil .nil) .nil) (.node (o223 P) (.node (o351 P) .nil .nil) .nil))) (.node (o47 P) (.node (o79 P) (.node (o143 P) (.node (o271 P) .nil .nil) .nil) (.node (o207 P) (.node (o335 P) .nil .nil) .nil)) (.node (o111 P) (.node (o175 P) (.node (o303 P) .nil .nil) .nil) (.node (o239 P) (.node (o367 P) .nil .nil) .nil)))) (.node (o23 P) (.node (o39 P) (.node (o71 P) (.node (o135 P) (.node (o263 P) .nil .nil) .nil) (.node (o199 P) (.node (o327 P) .nil .nil) .nil)) (.node (o103 P) (.node (o167 P) (.node (o295 P) .nil .nil) .nil) (.node (o231 P) (.node (o359 P) .nil .nil) .nil))) (.node (o55 P) (.node (o87 P) (.node (o151 P) (.node (o279 P) .nil .nil) .nil) (.node (o215 P) (.node (o343 P) .nil .nil) .nil)) (.node (o119 P) (.node (o183 P) (.node (o311 P) .nil .nil) .nil) (.node (o247 P) .nil .nil))))) (.node (o11 P) (.node (o19 P) (.node (o35 P) (.node (o67 P) (.node (o131 P) (.node (o259 P) .nil .nil) .nil) (.node (o195 P) (.node (o323 P) .nil .nil) .nil)) (.node (o99 P) (.node (o163 P) (.node (o291 P) .nil .nil) .nil) (.node (o227 P) (.node (o355 P) .nil .nil) .nil))) (.node (o51 P) (.node (o83 P) (.node (o147 P) (.node (o275 P) .nil .nil) .nil) (.node (o211 P) (.node (o339 P) .nil .nil) .nil)) (.node (o115 P) (.node (o179 P) (.node (o307 P) .nil .nil) .nil) (.node (o243 P) (.node (o371 P) .nil .nil) .nil)))) (.node (o27 P) (.node (o43 P) (.node (o75 P) (.node (o139 P) (.node (o267 P) .nil .nil) .nil) (.node (o203 P) (.node (o331 P) .nil .nil) .nil)) (.node (o107 P) (.node (o171 P) (.node (o299 P) .nil .nil) .nil) (.node (o235 P) (.node (o363 P) .nil .nil) .nil))) (.node (o59 P) (.node (o91 P) (.node (o155 P) (.node (o283 P) .nil .nil) .nil) (.node (o219 P) (.node (o347 P) .nil .nil) .nil)) (.node (o123 P) (.node (o187 P) (.node (o315 P) .nil .nil) .nil) (.node (o251 P) .nil .nil)))))) (.node (boot_o_5 P) (.node (boot_o_9 P) (.node (o17 P) (.node (o33 P) (.node (o65 P) (.node (o129 P) (.node (o257 P) .nil .nil) .nil) (.node (o193 P) (.node (o321 P) .nil .nil) .nil)) (.node (o97 P) (.node (o161 P) (.node (o289 P) .nil .nil) .nil) (.node (o225 P) (.node (o353 P) .nil .nil) .nil))) (.node (o49 P) (.node (o81 P) (.node (o145 P) (.node (o273 P) .nil .nil) .nil) (.node (o209 P) (.node (o337 P) .nil .nil) .nil)) (.node (o113 P) (.node (o177 P) (.node (o305 P) .nil .nil) .nil) (.node (o241 P) (.node (o369 P) .nil .nil) .nil)))) (.node (o25 P) (.node (o41 P) (.node (o73 P) (.node (o137 P) (.node (o265 P) .nil .nil) .nil) (.node (o201 P) (.node (o329 P) .nil .nil) .nil)) (.node (o105 P) (.node (o169 P) (.node (o297 P) .nil .nil) .nil) (.node (o233 P) (.node (o361 P) .nil .nil) .nil))) (.node (o57 P) (.node (o89 P) (.node (o153 P) (.node (o281 P) .nil .nil) .nil) (.node (o217 P) (.node (o345 P) .nil .nil) .nil)) (.node (o121 P) (.node (o185 P) (.node (o313 P) .nil .nil) .nil) (.node (o249 P) .nil .nil))))) (.node (o13 P) (.node (o21 P) (.node (o37 P) (.node (o69 P) (.node (o133 P) (.node (o261 P) .nil .nil) .nil) (.node (o197 P) (.node (o325 P) .nil .nil) .nil)) (.node (o101 P) (.node (o165 P) (.node (o293 P) .nil .nil) .nil) (.node (o229 P) (.node (o357 P) .nil .nil) .nil))) (.node (o53 P) (.node (o85 P) (.node (o149 P) (.node (o277 P) .nil .nil) .nil) (.node (o213 P) (.node (o341 P) .nil .nil) .nil)) (.node (o117 P) (.node (o181 P) (.node (o309 P) .nil .nil) .nil) (.node (o245 P) (.node (o373 P) .nil .nil) .nil)))) (.node (o29 P) (.node (o45 P) (.node (o77 P) (.node (o141 P) (.node (o269 P) .nil .nil) .nil) (.node (o205 P) (.node (o333 P) .nil .nil) .nil)) (.node (o109 P) (.node (o173 P) (.node (o301 P) .nil .nil) .nil) (.node (o237 P) (.node (o365 P) .nil .nil) .nil))) (.node (o61 P) (.node (o93 P) (.node (o157 P) (.node (o285 P) .nil .nil) .nil) (.node (o221 P) (.node (o349 P) .nil .nil) .nil)) (.node (o125 P) (.node (o189 P) (.node (o317 P) .nil .nil) .nil) (.node (o253 P) .nil .nil))))))) (.node (o2v1 P) (.node (boot_o_4 P) (.node (boot_o_8 P) (.node (o16 P) (.node (o32 P) (.node (o64 P) (.node (o128 P) (.node (o256 P) .nil .nil) .nil) (.node (o192 P) (.node (o320 P) .nil .nil) .nil)) (.node (o96 P) (.node (o160 P) (.node (o288 P) .nil .nil) .nil) (.node (o224 P) (.node (o352 P) .nil .nil) .nil))) (.node (o48 P) (.node (o80 P) (.node (o144 P) (.node (o272 P) .nil .nil) .nil) (.node (o208 P) (.node (o336 P) .nil .nil) .nil)) (.node (o112 P) (.node (o176 P) (.node (o304 P) .nil .nil) .nil) (.node (o240 P) (.node (o368 P) .nil .nil) .nil)))) (.node (o24 P) (.node (o40 P) (.node (o72 P) (.node (o136 P) (.node (o264 P) .nil .nil) .nil) (.node (o200 P) (.node (o328 P) .nil .nil) .nil)) (.node (o104 P) (.node (o168 P) (.node (o296 P) .nil .nil) .nil) (.node (o232 P) (.node (o360 P) .nil .nil) .nil))) (.node (o56 P) (.node (o88 P) (.node (o152 P) (.node (o280 P) .nil .nil) .nil) (.node (o216 P) (.node (o344 P) .nil .nil) .nil)) (.node (o120 P) (.node (o184 P) (.node (o312 P) .nil .nil) .nil) (.node (o248 P) .nil .nil))))) (.node (o12v10 P) (.node (o20 P) (.node (o36 P) (.node (o68 P) (.node (o132 P) (.node (o260 P) .nil .nil) .nil) (.node (o196 P) (.node (o324 P) .nil .nil) .nil)) (.node (o100 P) (.node (o164 P) (.node (o292 P) .nil .nil) .nil) (.node (o228 P) (.node (o356 P) .nil .nil) .nil))) (.node (o52 P) (.node (o84 P) (.node (o148 P) (.node (o276 P) .nil .nil) .nil) (.node (o212 P) (.node (o340 P) .nil .nil) .nil)) (.node (o116 P) (.node (o180 P) (.node (o308 P) .nil .nil) .nil) (.node (o244 P) (.node (o372 P) .nil .nil) .nil)))) (.node (o28 P) (.node (o44 P) (.node (o76 P) (.node (o140 P) (.node (o268 P) .nil .nil) .nil) (.node (o204 P) (.node (o332 P) .nil .nil) .nil)) (.node (o108 P) (.node (o172 P) (.node (o300 P) .nil .nil) .nil) (.node (o236 P) (.node (o364 P) .nil .nil) .nil))) (.node (o60 P) (.node (o92 P) (.node (o156 P) (.node (o284 P) .nil .nil) .nil) (.node (o220 P) (.node (o348 P) .nil .nil) .nil)) (.node (o124 P) (.node (o188 P) (.node (o316 P) .nil .nil) .nil) (.node (o252 P) .nil .nil)))))) (.node (boot_o_6 P) (.node (boot_o_10 P) (.node (o18 P) (.node (o34 P) (.node (o66 P) (.node (o130 P) (.node (o258 P) .nil .nil) .nil) (.node (o194 P) (.node (o322 P) .nil .nil) .nil)) (.node (o98 P) (.node (o162 P) (.node (o290 P) .nil .nil) .nil) (.node (o226 P) (.node (o354 P) .nil .nil) .nil))) (.node (o50 P) (.node (o82 P) (.node (o146 P) (.node (o274 P) .nil .nil) .nil) (.node (o210 P) (.node (o338 P) .nil .nil) .nil)) (.node (o114 P) (.node (o178 P) (.node (o306 P) .nil .nil) .nil) (.node (o242 P) (.node (o370 P) .nil .nil) .nil)))) (.node (o26 P) (.node (o42 P) (.node (o74 P) (.node (o138 P) (.node (o266 P) .nil .nil) .nil) (.node (o202 P) (.node (o330 P) .nil .nil) .nil)) (.node (o106 P) (.node (o170 P) (.node (o298 P) .nil .nil) .nil) (.node (o234 P) (.node (o362 P) .nil .nil) .nil))) (.node (o58 P) (.node (o90 P) (.node (o154 P) (.node (o282 P) .nil .nil) .nil) (.node (o218 P) (.node (o346 P) .nil .nil) .nil)) (.node (o122 P) (.node (o186 P) (.node (o314 P) .nil .nil) .nil) (.node (o250 P) .nil .nil))))) (.node (o14 P) (.node (o22 P) (.node (o38 P) (.node (o70 P) (.node (o134 P) (.node (o262 P) .nil .nil) .nil) (.node (o198 P) (.node (o326 P) .nil .nil) .nil)) (.node (o102 P) (.node (o166 P) (.node (o294 P) .nil .nil) .nil) (.node (o230 P) (.node (o358 P) .nil .nil) .nil))) (.node (o54 P) (.node (o86 P) (.node (o150 P) (.node (o278 P) .nil .nil) .nil) (.node (o214 P) (.node (o342 P) .nil .nil) .nil)) (.node (o118 P) (.node (o182 P) (.node (o310 P) .nil .nil) .nil) (.node (o246 P) (.node (o374 P) .nil .nil) .nil)))) (.node (o30 P) (.node (o46 P) (.node (o78 P) (.node (o142 P) (.node (o270 P) .nil .nil) .nil) (.node (o206 P) (.node (o334 P) .nil .nil) .nil)) (.node (o110 P) (.node (o174 P) (.node (o302 P) .nil .nil) .nil) (.node (o238 P) (.node (o366 P) .nil .nil) .nil))) (.node (o62 P) (.node (o94 P) (.node (o158 P) (.node (o286 P) .nil .nil) .nil) (.node (o222 P) (.node (o350 P) .nil .nil) .nil)) (.node (o126 P) (.node (o190 P) (.node (o318 P) .nil .nil) .nil) (.node (o254 P) .nil .nil))))))))
noncomputable def hpZ (P : Params) : Heap := ⟨⟨[boot_o_0 P, boot_o_1 P, o2v1 P, o3v11 P, boot_o_4 P, boot_o_5 P, boot_o_6 P, boot_o_7 P, boot_o_8 P, boot_o_9 P, boot_o_10 P, o11 P, o12v10 P, o13 P, o14 P, o15 P, o16 P, o17 P, o18 P, o19 P, o20 P, o21 P, o22 P, o23 P, o24 P, o25 P, o26 P, o27 P, o28 P, o29 P, o30 P, o31 P, o32 P, o33 P, o34 P, o35 P, o36 P, o37 P, o38 P, o39 P, o40 P, o41 P, o42 P, o43 P, o44 P, o45 P, o46 P, o47 P, o48 P, o49 P, o50 P, o51 P, o52 P, o53 P, o54 P, o55 P, o56 P, o57 P, o58 P, o59 P, o60 P, o61 P, o62 P, o63 P, o64 P, o65 P, o66 P, o67 P, o68 P, o69 P, o70 P, o71 P, o72 P, o73 P, o74 P, o75 P, o76 P, o77 P, o78 P, o79 P, o80 P, o81 P, o82 P, o83 P, o84 P, o85 P, o86 P, o87 P, o88 P, o89 P, o90 P, o91 P, o92 P, o93 P, o94 P, o95 P, o96 P, o97 P, o98 P, o99 P, o100 P, o101 P, o102 P, o103 P, o104 P, o105 P, o106 P, o107 P, o108 P, o109 P, o110 P, o111 P, o112 P, o113 P, o114 P, o115 P, o116 P, o117 P, o118 P, o119 P, o120 P, o121 P, o122 P, o123 P, o124 P, o125 P, o126 P, o127 P, o128 P, o129 P, o130 P, o131 P, o132 P, o133 P, o134 P, o135 P, o136 P, o137 P, o138 P, o139 P, o140 P, o141 P, o142 P, o143 P, o144 P, o145 P, o146 P, o147 P, o148 P, o149 P, o150 P, o151 P, o152 P, o153 P, o154 P, o155 P, o156 P, o157 P, o158 P, o159 P, o160 P, o161 P, o162 P, o163 P, o164 P, o165 P, o166 P, o167 P, o168 P, o169 P, o170 P, o171 P, o172 P, o173 P, o174 P, o175 P, o176 P, o177 P, o178 P, o179 P, o180 P, o181 P, o182 P, o183 P, o184 P, o185 P, o186 P, o187 P, o188 P, o189 P, o190 P, o191 P, o192 P, o193 P, o194 P, o195 P, o196 P, o197 P, o198 P, o199 P, o200 P, o201 P, o202 P, o203 P, o204 P, o205 P, o206 P, o207 P, o208 P, o209 P, o210 P, o211 P, o212 P, o213 P, o214 P, o215 P, o216 P, o217 P, o218 P, o219 P, o220 P, o221 P, o222 P, o223 P, o224 P, o225 P, o226 P, o227 P, o228 P, o229 P, o230 P, o231 P, o232 P, o233 P, o234 P, o235 P, o236 P, o237 P, o238 P, o239 P, o240 P, o241 P, o242 P, o243 P, o244 P, o245 P, o246 P, o247 P, o248 P, o249 P, o250 P, o251 P, o252 P, o253 P, o254 P, o255 P, o256 P, o257 P, o258 P, o259 P, o260 P, o261 P, o262 P, o263 P, o264 P, o265 P, o266 P, o267 P, o268 P, o269 P, o270 P, o271 P, o272 P, o273 P, o274 P, o275 P, o276 P, o277 P, o278 P, o279 P, o280 P, o281 P, o282 P, o283 P, o284 P, o285 P, o286 P, o287 P, o288 P, o289 P, o290 P, o291 P, o292 P, o293 P, o294 P, o295 P, o296 P, o297 P, o298 P, o299 P, o300 P, o301 P, o302 P, o303 P, o304 P, o305 P, o306 P, o307 P, o308 P, o309 P, o310 P, o311 P, o312 P, o313 P, o314 P, o315 P, o316 P, o317 P, o318 P, o319 P, o320 P, o321 P, o322 P, o323 P, o324 P, o325 P, o326 P, o327 P, o328 P, o329 P, o330 P, o331 P, o332 P, o333 P, o334 P, o335 P, o336 P, o337 P, o338 P, o339 P, o340 P, o341 P, o342 P, o343 P, o344 P, o345 P, o346 P, o347 P, o348 P, o349 P, o350 P, o351 P, o352 P, o353 P, o354 P, o355 P, o356 P, o357 P, o358 P, o359 P, o360 P, o361 P, o362 P, o363 P, o364 P, o365 P, o366 P, o367 P, o368 P, o369 P, o370 P, o371 P, o372 P, o373 P, o374 P]⟩, {}⟩
theorem pre_ok (w : World) (os : OsState) : topGo treeTable pw w 11 (some (.ref 6)) 12 ⟨boot_heap w.params, #[], boot_drawn, boot_toks, os⟩ (topStub pw) = some (⟨hpA w.params, #[], {}, 187, os⟩, ⟨denote treeTable bodyC, bodyC, ⟨0, 0, 0, 0⟩, frames0⟩) := by kernel_rfl
theorem block_ok (w : World) (os : OsState) : segRun treeTable pw w 11 (some (.ref 6)) 1 1 ⟨hpA w.params, #[], {}, 187, os⟩ (blockOf (behindTheImports pw) env0 bodyC ⟨0, 0, 0, 0⟩ frames0) = some (.next, (⟨tr0 w.params, 15, {}, #[], {}, 187, os⟩ : SharedT).abs, bodyC, ⟨0, 0, 0, 0⟩) := by kernel_rfl
theorem piece0_ok (w : World) (os : OsState) : segRunT treeTable pw w 11 (some (.ref 6)) 1 10 ⟨tr0 w.params, 15, {}, #[], {}, 187, os⟩ (piecesOf (grp 0 1) env0 bodyC ⟨0, 0, 0, 0⟩ frames0) = some (.next, ⟨tr1 w.params, 15, {}, #[], {}, 189, os⟩, bodyC, ⟨1, 0, 1, 8⟩) := by kernel_rfl
theorem piece1_ok (w : World) (os : OsState) : segRunT treeTable pw w 11 (some (.ref 6)) 1 276 ⟨tr1 w.params, 15, {}, #[], {}, 189, os⟩ (piecesOf (grp 1 1) env0 bodyC ⟨1, 0, 1, 8⟩ frames0) = some (.next, ⟨tr2 w.params, 44, {}, #[], {}, 227, os⟩, bodyC, ⟨2, 0, 9, 24⟩) := by kernel_rfl
theorem piece2_ok (w : World) (os : OsState) : segRunT treeTable pw w 11 (some (.ref 6)) 1 173 ⟨tr2 w.params, 44, {}, #[], {}, 227, os⟩ (piecesOf (grp 2 8) env0 bodyC ⟨2, 0, 9, 24⟩ frames0) = some (.next, ⟨tr3 w.params, 75, {}, #[], {}, 273, os⟩, bodyC, ⟨28, 0, 34, 44⟩) := by kernel_rfl
theorem piece3_ok (w : World) (os : OsState) : segRunT treeTable pw w 11 (some (.ref 6)) 1 179 ⟨tr3 w.params, 75, {}, #[], {}, 273, os⟩ (piecesOf (grp 10 6) env0 bodyC ⟨28, 0, 34, 44⟩ frames0) = some (.next, ⟨tr4 w.params, 117, {}, #[], {}, 319, os⟩, bodyC, ⟨49, 0, 52, 42⟩) := by kernel_rfl
theorem piece4_ok (w : World) (os : OsState) : segRunT treeTable pw w 11 (some (.ref 6)) 1 180 ⟨tr4 w.params, 117, {}, #[], {}, 319, os⟩ (piecesOf (grp 16 6) env0 bodyC ⟨49, 0, 52, 42⟩ frames0) = some (.next, ⟨tr5 w.params, 159, {}, #[], {}, 366, os⟩, bodyC, ⟨64, 0, 68, 16⟩) := by kernel_rfl
theorem piece5_ok (w : World) (os : OsState) : segRunT treeTable pw w 11 (some (.ref 6)) 1 180 ⟨tr5 w.params, 159, {}, #[], {}, 366, os⟩ (piecesOf (grp 22 6) env0 bodyC ⟨64, 0, 68, 16⟩ frames0) = some (.next, ⟨tr6 w.params, 201, {}, #[], {}, 413, os⟩, bodyC, ⟨82, 0, 83, 25⟩) := by kernel_rfl
theorem piece6_ok (w : World) (os : OsState) : segRunT treeTable pw w 11 (some (.ref 6)) 1 181 ⟨tr6 w.params, 201, {}, #[], {}, 413, os⟩ (piecesOf (grp 28 6) env0 bodyC ⟨82, 0, 83, 25⟩ frames0) = some (.next, ⟨tr7 w.params, 243, {}, #[], {}, 461, os⟩, bodyC, ⟨95, 0, 96, 38⟩) := by kernel_rfl
theorem piece7_ok (w : World) (os : OsState) : segRunT treeTable pw w 11 (some (.ref 6)) 1 165 ⟨tr7 w.params, 243, {}, #[], {}, 461, os⟩ (piecesOf (grp 34 6) env0 bodyC ⟨95, 0, 96, 38⟩ frames0) = some (.next, ⟨tr8 w.params, 278, {}, #[], {}, 508, os⟩, bodyC, ⟨128, 0, 131, 87⟩) := by kernel_rfl
theorem piece8_ok (w : World) (os : OsState) : segRunT treeTable pw w 11 (some (.ref 6)) 1 167 ⟨tr8 w.params, 278, {}, #[], {}, 508, os⟩ (piecesOf (grp 40 5) env0 bodyC ⟨128, 0, 131, 87⟩ frames0) = some (.next, ⟨tr9 w.params, 311, {}, #[], {}, 566, os⟩, bodyC, ⟨193, 0, 210, 15⟩) := by kernel_rfl
theorem piece9_ok (w : World) (os : OsState) : segRunT treeTable pw w 11 (some (.ref 6)) 1 175 ⟨tr9 w.params, 311, {}, #[], {}, 566, os⟩ (piecesOf (grp 45 5) env0 bodyC ⟨193, 0, 210, 15⟩ frames0) = some (.next, ⟨tr10 w.params, 346, {}, #[], {}, 630, os⟩, bodyC, ⟨238, 0, 241, 51⟩) := by kernel_rfl
theorem piece10_ok (w : World) (os : OsState) : segRunT treeTable pw w 11 (some (.ref 6)) 1 142 ⟨tr10 w.params, 346, {}, #[], {}, 630, os⟩ (piecesOf (grp 50 5) env0 bodyC ⟨238, 0, 241, 51⟩ frames0) = some (.next, ⟨tr11 w.params, 375, {}, #[], {}, 667, os⟩, bodyC, ⟨296, 0, 308, 70⟩) := by kernel_rfl
theorem fin_ok (w : World) (os : OsState) : topRun treeTable pw w 11 (some (.ref 6)) 2 (⟨tr11 w.params, 375, {}, #[], {}, 667, os⟩ : SharedT).abs ⟨doneF .next, bodyC, ⟨296, 0, 308, 70⟩, frames0⟩ = some ⟨hpZ w.params, #[], {}, 667, os⟩ := by kernel_rfl
theorem body_eq : behindTheImports pw = grp 0 1 ++ (grp 1 1 ++ (grp 2 8 ++ (grp 10 6 ++ (grp 16 6 ++ (grp 22 6 ++ (grp 28 6 ++ (grp 34 6 ++ (grp 40 5 ++ (grp 45 5 ++ (grp 50 5 ++ ([]))))))))))) := by kernel_rfl
theorem run_ok (w : World) (os : OsState) : topRun treeTable pw w 11 (some (.ref 6)) (12 + (1 + (10 + (276 + (173 + (179 + (180 + (180 + (181 + (165 + (167 + (175 + (142 + 2))))))))))))) ⟨boot_heap w.params, #[], boot_drawn, boot_toks, os⟩ (topStub pw) = some ⟨hpZ w.params, #[], {}, 667, os⟩ := by
  refine go_top (pre_ok w os) (piece_block (block_ok w os) ?_)
  rw [body_eq]
  exact piece_app (segRun_of (piece0_ok w os)) (piece_app (segRun_of (piece1_ok w os)) (piece_app (segRun_of (piece2_ok w os)) (piece_app (segRun_of (piece3_ok w os)) (piece_app (segRun_of (piece4_ok w os)) (piece_app (segRun_of (piece5_ok w os)) (piece_app (segRun_of (piece6_ok w os)) (piece_app (segRun_of (piece7_ok w os)) (piece_app (segRun_of (piece8_ok w os)) (piece_app (segRun_of (piece9_ok w os)) (piece_app (segRun_of (piece10_ok w os)) (piece_nil (fin_ok w os))))))))))))
end Mine
end
section
open PySem PySem.W PySem.Calls PyProof.Rows
namespace Mine
def smtNs (P : Params) : Obj := { cls := Value.type "dict", data := Data.dict #[{ hash := PyData.keyHash P (Str.ofString "__module__"), key := Value.str (Str.ofString "__module__") 196, val := Value.str (Str.ofString "minismt.errors") 187 }, { hash := PyData.keyHash P (Str.ofString "__firstlineno__"), key := Value.str (Str.ofString "__firstlineno__") 200, val := Value.int 2 199 }, { hash := PyData.keyHash P (Str.ofString "__init__"), key := Value.str (Str.ofString "__init__") 209, val := Value.ref 30 }, { hash := PyData.keyHash P (Str.ofString "told"), key := Value.str (Str.ofString "told") 216, val := Value.ref 37 }, { hash := PyData.keyHash P (Str.ofString "__static_attributes__"), key := Value.str (Str.ofString "__static_attributes__") 218, val := Value.ref 38 }, { hash := PyData.keyHash P (Str.ofString "__weakref__"), key := Value.str (Str.ofString "__weakref__") 221, val := Value.ref 41 }, { hash := PyData.keyHash P (Str.ofString "__doc__"), key := Value.str (Str.ofString "__doc__") 222, val := Value.none }] 4 }
def smtCode : Obj := { cls := Value.type "code", data := Data.fields #[Value.str (Str.ofString "__init__") 201, Value.str (Str.ofString "SmtError.__init__") 202, Value.str (Str.ofString "/claim/cut.py") 203, Value.int 4 0, Value.int 2 0, Value.int 0 0, Value.int 0 0, Value.int 3 0, Value.ref 24, Value.bool true, Value.int 181 0, Value.ref 25, Value.none, Value.ref 26, Value.ref 27, Value.ref 28, Value.int 207 0, Value.int 4 0, Value.str (Str.ofString "/claim/cut.py") 208] }
def smtFn : Obj := { cls := Value.type "function", data := .func (fnX "__init__" (Str.ofString "SmtError.__init__") initParams initBody initScope [(Str.ofString "__class__", 18)] .none .none .none (.str (Str.ofString "minismt.errors") 187) none (.ref 29) (.ref 23)) }
def smtCls : Obj := { cls := Value.type "type", data := Data.cls { name := Str.ofString "SmtError", bases := [Value.type "Exception"], mro := [Value.ref 40, Value.type "Exception", Value.type "BaseException", Value.type "object"], ns := 39, qualname := Str.ofString "SmtError" }, slots := #[some (Value.ref 15), none, some (Value.str (Str.ofString "SmtError") 189), some (Value.str (Str.ofString "SmtError") 197), some (Value.builtin "Exception.__new__"), some (Value.bool true)] }
def smtStat (P : Params) : Obj := { cls := Value.none, data := Data.dict #[{ hash := PyData.keyHash P (Str.ofString "type.__subclasses__.Exception.0"), key := Value.str (Str.ofString "type.__subclasses__.Exception.0") 223, val := Value.int 40 0 }, { hash := PyData.keyHash P (Str.ofString "type.__subclasses__.Exception.n"), key := Value.str (Str.ofString "type.__subclasses__.Exception.n") 224, val := Value.int 1 0 }] 2 }
def myK (P : Params) : Frag := [(2, smtStat P), (18, { cls := Value.type "cell", data := Data.cell (some (Value.ref 40)) }), (29, smtCode), (30, smtFn), (39, smtNs P), (40, smtCls), (44, { cls := Value.type "tuple", data := Data.seq #[Value.int 0 229, Value.int 1 230] }), (45, { cls := Value.type "tuple", data := Data.seq #[Value.int 1 232, Value.int 1 233] }), (46, { cls := Value.type "tuple", data := Data.seq #[Value.int (-1) 236, Value.int 1 237] })]
def myNames : List (String × Option Value) := [("SmtError", some (.ref 40)), ("ZERO", some (.ref 44)), ("ONE", some (.ref 45)), ("MINUS_ONE", some (.ref 46)), ("abs", none), ("len", none), ("all", none), ("isinstance", none), ("str", none), ("int", none), ("list", none), ("tuple", none), ("super", none)]
/-- what is asked of the heap behind the top -/
def mySays (w : World) (h : Heap) : Prop := (myK w.params).In h ∧ ∀ m, h.Ns mainGlobals m → ∀ p ∈ myNames, m (Str.ofString p.1) = p.2
theorem ns_map {h : Heap} {a : Addr} {m : Str → Option Value} (e : h.Ns a m) (x : Str) : h.nsMap a x = m x := by
  obtain ⟨o, es, ep, ho, hd, _, f⟩ := e
  unfold Heap.nsMap
  rw [ho]
  dsimp only
  rw [hd]
  exact f x
theorem same_map {α β : Type} {f g : α → β} : ∀ {l : List α}, l.map f = l.map g → ∀ x ∈ l, f x = g x
  | [], _, _, h => nomatch h
  | _ :: l, e, x, h => by
    rw [List.map_cons, List.map_cons, List.cons.injEq] at e
    rcases List.mem_cons.mp h with rfl | h
    · exact e.1
    · exact same_map e.2 x h
def myHook : Hook := ⟨Bool × List (Option Obj) × List (Option Value), fun s => (s.heap.isNs mainGlobals, [2, 18, 29, 30, 39, 40, 44, 45, 46].map s.heap.get?, myNames.map fun p => s.heap.nsMap mainGlobals (Str.ofString p.1)), fun w => (true, (myK w.params).map fun p => some p.2, myNames.map fun p => p.2),
  fun w h => (∃ m, h.Ns mainGlobals m) ∧ mySays w h,
  fun w s e => by
    have e0 := congrArg Prod.fst e
    have e1 := congrArg (fun x => x.2.1) e
    have e2 := congrArg (fun x => x.2.2) e
    exact ⟨⟨_, .of_isNs e0⟩, Frag.in_of rfl e1, fun m hm p hp => (ns_map hm _).symm.trans (same_map e2 p hp)⟩,
  fun w h h' x k => ⟨let ⟨m, hm⟩ := x.1; ⟨m, hm.keeps k⟩, Frag.In.keeps x.2.1 k, fun m hm p hp => by
    obtain ⟨⟨m', hm'⟩, _, q⟩ := x
    rw [← ns_map hm, ns_map (hm'.keeps k)]
    exact q m' hm' p hp⟩⟩
def myQ : Program := view PySem.Challenge.pw_no0004_01 [1, 3, 4, 5, 6, 7, 8, 9, 10, 11, 12, 13, 14, 15, 16, 17, 18, 19, 20, 21, 22, 23, 24, 25, 26, 27, 28, 29, 30, 31, 32, 33, 34, 36, 37, 38, 39, 40, 41, 42, 43, 44, 45, 46, 47, 48, 49, 50, 51, 52, 53, 54]

section
variable (w : World) (os : OsState)
/-- the state behind the top -/
noncomputable abbrev finS : Shared := ⟨hpZ w.params, #[], {}, 667, os⟩
theorem boot_ok : ∀ w : World, (fencedOpening treeTable pw w 3760).map (fun s => (s.heap, s.gens, s.drawn, s.toks)) = some (boot_heap w.params, Array.mk [], boot_drawn, boot_toks) := boot_open (by kernel_rfl) (by decide) (fun s => by kernel_rfl)
theorem size_ok : ((boot_heap w.params).isNs mainGlobals && (#[] : Array GenState).size == 0, (boot_heap w.params).objs.size, (boot_heap w.params).nsMap mainGlobals "__annotations__") = (true, 11, some (.ref 6)) := by kernel_rfl
theorem k_statics : (staticsOk (importedModules pw.main.body) (boot_heap w.params) (finS w os).heap && namesBound pw (finS w os).heap && gensDone (finS w os) && laidKept (boot_heap w.params) (finS w os).heap) = true := by kernel_rfl
theorem k_seen : seen ((recsOf myQ).map (·.name)) (ownsOf myQ) [] { (finS w os) with gens := #[] } = expectedOf myQ := by kernel_rfl
theorem k_blt : (finS w os).heap.bltView = bltViewBooted := by kernel_rfl
theorem k_keys : (finS w os).heap.keysOk (looseW myQ []) ((recsOf myQ).map (·.name)) ((litsOf myQ).map (·.1)) ((clssOf myQ (looseW myQ [])).map (·.name)) = true := by kernel_rfl
theorem k_acc : (finS w os).heap.accountedOkI (importedModules pw.main.body) = true := by kernel_rfl
theorem k_ns : (finS w os).heap.isNs mainGlobals = true := by kernel_rfl
theorem k_bs : (finS w os).heap.isNs builtinsNs = true := by kernel_rfl
theorem k_tables : tablesOk myQ (finS w os).heap = true := by kernel_rfl
theorem k_xl : (xlAt myQ [] (finS w os) && recOk (RowW.records (OpenRow.toRowW PySem.Challenge.rw_no0004_01.row)) (finS w os)) = true := by kernel_rfl
theorem k_tabs : tabsOk myQ (finS w os) = true := by kernel_rfl
theorem k_pin : pinSeenD myQ (drecsOf myQ) (finS w os) = pinGoodD (drecsOf myQ) := by kernel_rfl
theorem k_plainE : plainSeenE myQ (looseW myQ []) (finS w os) = plainGoodE myQ (looseW myQ []) := by kernel_rfl
theorem k_plainD : plainSeenD myQ [] (finS w os) = plainGoodD myQ [] := by kernel_rfl
theorem k_wide : wideSeen myQ (finS w os) = wideGood myQ := by kernel_rfl
theorem k_cls : clsSeenW myQ [] (finS w os) = clsGoodW myQ [] := by kernel_rfl
theorem k_hook : Hook.obs myHook (finS w os) = Hook.val myHook w := by kernel_rfl
abbrev lookAt (s : Shared) : Bool := xlAt myQ [] s && recOk (RowW.records (OpenRow.toRowW PySem.Challenge.rw_no0004_01.row)) s
theorem k_all : openSeen myQ [] (importedModules pw.main.body) lookAt true (finS w os) = openGood myQ [] := by
  unfold openSeen openGood
  refine looks_pair (k_seen w os) (looks_pair (k_blt w os) (looks_pair ?_ (looks_pair (k_tabs w os) (looks_pair (k_pin w os) (looks_pair (k_plainE w os) (looks_pair (k_plainD w os) (looks_pair (k_wide w os) (k_cls w os))))))))
  exact look_both (look_both (look_both (look_both (look_both (look_both (k_keys w os) (k_acc w os)) (k_ns w os)) (k_bs w os)) (k_tables w os)) (k_xl w os)) rfl
end
theorem left_ok : LeftO PySem.Challenge.rw_no0004_01.row.prog myQ [] (fun s => xlAt myQ [] s && recOk (RowW.records (OpenRow.toRowW PySem.Challenge.rw_no0004_01.row)) s) (Hook.obs myHook) (Hook.val myHook) 3760 true :=
  LeftO.of_pieces (p := pw) (g0 := true) boot_ok (fun w => size_ok w) (fun w os => run_ok w os) (by decide) fun w => funext fun os => looks_pair (k_statics w os) (looks_pair (k_all w os) (k_hook w os))
theorem names_ok : namesResolve pw = true := by kernel_rfl
theorem meet_ok : namesMeet pw pw.main.body (fun _ n => attrL n) = true := by kernel_rfl
theorem look_ok : looksOpen pw = true := by
  unfold looksOpen
  rw [names_ok, meet_ok]
  kernel_rfl
theorem part_ok : OpenRow.partSaid PySem.Challenge.rw_no0004_01.row = true := by
  unfold OpenRow.partSaid
  rw [show looksOpen (PySem.Challenge.rw_no0004_01.row).prog = true from look_ok]
  kernel_rfl
theorem row_ok : OpenRow.wellSaid PySem.Challenge.rw_no0004_01.row = true := by
  unfold OpenRow.wellSaid
  rw [part_ok]
  kernel_rfl
theorem said_ok : PySem.Challenge.rw_no0004_01.wellSaid = true := by
  unfold OpenLaw.wellSaid
  rw [row_ok]
  kernel_rfl
end Mine
end
section
open PySem PySem.W PySem.Calls PyProof.Rows
namespace Mine
section
variable {M : Model} {A : Around} {E : Value → Shared → Prop} {env : Env}
variable {nm q : Str} {C N : Addr} {bs bm : List Value} {hdct : Bool} {sn : List Str} {sub : List Value} {ab : Bool} {col : Option Bool} {dd : Option Addr} {k0 k1 k2 k3 k5 : Option Value} {newId : String}
theorem raiseStmt_own {s : Shared} {x : Sem Value} {Q : Flow → Shared → Prop} (hbase : bm.contains (.type "BaseException") = true) (hh : A.handled = none)
    (h : wpAny M A x (fun v s₁ => ∃ e t dx sl, v = .ref e ∧ s₁.heap.get? C = some (excClassObj nm q C N bs bm hdct sn sub ab col dd k0 k1 k2 k3 k5 newId) ∧
      s₁.heap.get? e = some { cls := .ref C, dict := dx, data := .fields #[.ref t, .none, .none, .none, .bool false, .none], slots := sl } ∧ E (.ref e) s₁) E s) :
    wpAny M A (raiseStmt env (some x) none) Q E s := by
  have hcB : (Value.ref C :: bm).contains (.type "BaseException") = true := by rw [List.contains_cons, hbase, Bool.or_true]
  unfold raiseStmt
  refine wpAny_bind (wpAny_mono h (fun v s₁ h₁ => ?_) fun _ _ x => x)
  obtain ⟨e, t, dx, sl, rfl, hC, he, hE⟩ := h₁
  obtain ⟨hp, g, d, tk, os⟩ := s₁
  repeat (first | with_reducible refine wpAny_loadPart_at he ?_ | with_reducible refine wpAny_loadPart_at hC ?_ | (with_reducible refine wpAny_isSubtype_exc hC ?_; rw [hcB]) | wp_step)
  exact wpAny_raiseNew_none hh hE
end
section
variable {c : Cx} {C N fI cc cda : Addr} {mN : Str → Option Value} {qual : Str} {doc pm ct : Value}
/-- SmtError(v) -/
theorem make_smt (H : Smt c C N fI cc cda mN qual doc pm ct) {A : Around} {s : Shared} {v : Value} {Q : Value → Shared → Prop} {E : Value → Shared → Prop}
    (hroom : (A.under (.builtin "type.__call__" ⟨[.ref C, v], []⟩)).depth < recursionLimit) (hB : c.B s.heap)
    (hQ : ∀ h' tk e tp dx sl, s.heap.StaysIn h' → s.heap.get? e = none → h'.get? e = some { cls := .ref C, dict := dx, data := .fields #[.ref tp, .none, .none, .none, .bool false, .none], slots := sl } → Q (.ref e) { s with heap := h', toks := tk }) :
    wpAny (model c.prog c.w) A (call (.ref C) [v]) Q E s := by
  obtain ⟨nm, q, bs, sn, sub, ab, col, dd, k0, k1, k2, k3, k5, hC⟩ := H.cls
  obtain ⟨oF, hF, _, hFc⟩ := H.fn
  obtain ⟨h, g, d, t, os⟩ := s
  refine wpAny_call_exc_init PySem.F.excBase_Exception (hB.st _ _ hC) (H.ns.keeps hB.st) H.init (hB.st _ _ hF) hFc (fun h' e M => ?_) (by rw [sizeLine_eq]; simp)
  obtain ⟨tp, hx, _, _⟩ := M.there
  refine wpAny_call (init_run H hroom (stays_trans hB.st M.keeps) ⟨hB.kb, hB.tb, stays_refl⟩ hx ((Le.of (c := c) hB.st).noneOf M.new) rfl rfl rfl rfl fun h2 tk hk ⟨o', tp', e1, e2, e3⟩ => ⟨rfl, ?_⟩)
  obtain ⟨oc, od, odt, osl⟩ := o'
  obtain rfl : oc = .ref C := e2
  obtain rfl := e3
  refine hQ h2 tk e tp' od osl (fun b o hb => hk b o (fun z => ?_) (M.keeps b o hb)) M.new e1
  rw [z, M.new] at hb
  cases hb
end
end Mine
end
section
open PySem PySem.W PySem.Calls PyProof.Rows
namespace Mine

/-- an exception just raised in this frame -/
def Hot (c : Cx) (C e : Addr) (h₁ h : Heap) : Prop := Le c h₁ h ∧ h₁.get? e = none ∧ ∃ o vs a0, h.get? e = some o ∧ o.cls = .ref C ∧ o.data = .fields vs ∧ vs[1]? = some .none ∧ vs[0]? = some a0
/-- an exception that came back from a call -/
def Fly (c : Cx) (C : Addr) (A : Around) (e : Addr) (h₁ h : Heap) : Prop :=
  ∃ l a0 B, A.frames = some l ∧ (∀ b o, h₁.get? b = some o → ND o → B.get? b = some o) ∧ c.base.StaysIn B ∧ (∀ b o es n, h₁.get? b = some o → o.data = .dict es n → ∃ sl, h.get? b = some { o with slots := sl }) ∧ Heap.FlyingW B l e (.ref C) a0 h
theorem Fly.le {c : Cx} {C : Addr} {A : Around} {e : Addr} {h₁ h : Heap} (F : Fly c C A e h₁ h) : Le c h₁ h := by
  obtain ⟨l, a0, B, _, hB, hb, hd, hf⟩ := F
  exact ⟨fun b o e n => hf.1 b o (hB b o e n), hd, fun _ => stays_trans hb hf.1⟩

def EXh (c : Cx) (C : Addr) (n : Nat) (env : Env) (ρ : Loc) (ss : List Stmt) : Prop :=
  ∀ (h₀ : Heap) (A : Around) (s : Shared) (E : Value → Shared → Prop), Room n A → FrEnv A env h₀ → St c A env h₀ ρ s.heap →
    (∀ e s', Sim s s' → Hot c C e s.heap s'.heap → E (.ref e) s') → wpAny (model c.prog c.w) A (execs ss env) (fun _ _ => False) E s
def FNr (c : Cx) (C : Addr) (n : Nat) (x : Str) (ds : List D) : Prop :=
  ∀ (A : Around) (s : Shared) (E : Value → Shared → Prop) (vs : List Value) (a : Addr), Room n A → c.G A s.heap → c.mg x = some (.ref a) → RepL s.heap ds vs →
    (∀ e s', Sim s s' → Fly c C A e s.heap s'.heap → E (.ref e) s') → wpAny (model c.prog c.w) A (call (.ref a) vs) (fun _ _ => False) E s
def EXf (c : Cx) (C : Addr) (n : Nat) (env : Env) (ρ : Loc) (ss : List Stmt) : Prop :=
  ∀ (h₀ : Heap) (A : Around) (s : Shared) (E : Value → Shared → Prop), Room n A → FrEnv A env h₀ → St c A env h₀ ρ s.heap →
    (∀ e s', Sim s s' → Fly c C A e s.heap s'.heap → E (.ref e) s') → wpAny (model c.prog c.w) A (execs ss env) (fun _ _ => False) E s

section
variable {c : Cx} {C : Addr} {n : Nat} {env : Env} {ρ : Loc}
theorem Hot.up {e : Addr} {h₁ h₂ h : Heap} (u : Le c h₁ h₂) (H : Hot c C e h₂ h) : Hot c C e h₁ h := ⟨u.trans H.1, u.noneOf H.2.1, H.2.2⟩
theorem EXh_if {test : Expr} {body orelse : List Stmt} {pos : Pos} {rest : List Stmt} (h : EB c n env ρ test fun q => q = true ∧ EXh c C n env ρ body) : EXh c C n env ρ (.If test body orelse pos :: rest) := by
  intro h₀ A s E R Fe S hE
  refine wpAny_execs_cons (wpAny_If (wpAny_mono (h h₀ A s (fun b s' => wpAny (model c.prog c.w) A (execs body env) (fun _ _ => False) E s' ∧ b = true) R S fun b s' u p => ?_) (fun b s' z => ?_) fun _ _ x => x.elim))
  · exact ⟨p.2 h₀ A s' E R Fe (S.keeps u.keep) fun e s2 a b => hE e s2 (u.sim.trans a) (b.up u.keep), p.1⟩
  · obtain ⟨z, rfl⟩ := z
    exact wpAny_mono z (fun _ _ x => x.elim) fun _ _ x => x
theorem Fly.up {A : Around} {e : Addr} {h₁ h₂ h : Heap} (u : Le c h₁ h₂) (H : Fly c C A e h₂ h) : Fly c C A e h₁ h := by
  obtain ⟨l, a0, B, hl, hB, hb, hd, hf⟩ := H
  exact ⟨l, a0, B, hl, fun b o e n => hB b o (u.nd b o e n) n, hb, fun b o es n e f => let ⟨_, e'⟩ := u.dt b o es n e f; let ⟨sl, e''⟩ := hd b _ es n e' f; ⟨sl, e''⟩, hf⟩
theorem EXf_if {test : Expr} {body : List Stmt} {pos : Pos} {rest : List Stmt} (h : EB c n env ρ test fun q => (q = true → EXf c C n env ρ body) ∧ (q = false → EXf c C n env ρ rest)) : EXf c C n env ρ (.If test body [] pos :: rest) := by
  intro h₀ A s E R Fe S hE
  refine wpAny_execs_cons (wpAny_If (wpAny_mono (h h₀ A s (fun b s' => wpAny (model c.prog c.w) A (execs (if b = true then body else []) env) (fun f s' => f = .next ∧ wpAny (model c.prog c.w) A (execs rest env) (fun _ _ => False) E s') E s') R S fun b s' u p => ?_) (fun b s' z => ?_) fun _ _ x => x.elim))
  · cases b with
    | true => exact wpAny_mono (p.1 rfl h₀ A s' E R Fe (S.keeps u.keep) fun e s2 a b => hE e s2 (u.sim.trans a) (b.up u.keep)) (fun _ _ x => x.elim) fun _ _ x => x
    | false => exact wpAny_execs_nil ⟨rfl, p.2 rfl h₀ A s' E R Fe (S.keeps u.keep) fun e s2 a b => hE e s2 (u.sim.trans a) (b.up u.keep)⟩
  · cases b with
    | true => exact wpAny_mono z (fun f s' ⟨a, b⟩ => by subst a; exact b) fun _ _ x => x
    | false => exact wpAny_mono z (fun f s' ⟨a, b⟩ => by subst a; exact b) fun _ _ x => x
end
end Mine
end
section
open PySem PySem.W PySem.Calls PyProof.Rows
namespace Mine
section
variable {c : Cx} {C N fI cc cda : Addr} {mN : Str → Option Value} {qual : Str} {doc pm ct : Value} {n : Nat} {env : Env} {ρ : Loc}
theorem weight_tc (v : Value) : (Code.builtin "type.__call__" ⟨[.ref C, v], []⟩).weight = 1 := by kernel_rfl
theorem EXh_raise (H : Smt c C N fI cc cda mN qual doc pm ct) {np cpos pos : Pos} {e : Expr} {rest : List Stmt} (hx : env.kindOf "SmtError" = some .globalImplicit) (T : TopEnv env)
    (h : EV c n env ρ e fun _ => True)
    (he : starEach [e] env = (false, eval e env) :: starEach [] env := by rfl) :
    EXh c C n env ρ (.Raise (some (.Call (.Name "SmtError" np) [e] [] cpos)) none pos :: rest) := by
  intro h₀ A s E R Fe S hE
  obtain ⟨nm, q, bs, sn, sub, ab, col, dd, k0, k1, k2, k3, k5, hC⟩ := H.cls
  refine wpAny_execs_cons ?_
  rw [arm_exec_Raise]
  simp only [evalOpt, Option.map]
  refine wpAny_bind (wpAny_standAt (raiseStmt_own (C := C) (nm := nm) (q := q) (N := N) (bs := bs) (bm := bmX) (hdct := true) (sn := sn) (sub := sub) (ab := ab) (col := col) (dd := dd) (k0 := k0) (k1 := k1) (k2 := k2) (k3 := k3) (k5 := k5) (newId := "Exception.__new__") (by decide) R.handled ?_))
  refine wpAny_bind (wpAny_mono (Q := fun v s₁ => ∃ e t dx sl, v = .ref e ∧ s₁.heap.get? C = some (excClassObj nm q C N bs bmX true sn sub ab col dd k0 k1 k2 k3 k5 "Exception.__new__") ∧
      s₁.heap.get? e = some { cls := .ref C, dict := dx, data := .fields #[.ref t, .none, .none, .none, .bool false, .none], slots := sl } ∧ E (.ref e) s₁) ?_ (fun v s₁ q => wpAny_bind (wpAny_standAt (wpAny_pure q))) fun _ _ x => x)
  refine wpAny_Call_ofName (Name_function_global T.kind hx (loadGlobal_global (by rw [T.g]; exact S.g.top.g) H.name ?_))
  show wpAny _ A (callWith cpos (.ref C) [] (backTo cpos (starEach [e] env)) []) _ _ s
  rw [he]
  unfold callWith
  refine wpAny_bind (wpAny_holding (evalArgs_plain (spliced_cons (wpAny_mono (h h₀ A s (fun v s1 => Up c s s1) R S fun v d s1 u r p => u) (fun v s1 u => ?_) fun _ _ x => x.elim))))
  refine spliced_nil (wpAny_bind (wpAny_standAt ?_))
  have S1 := S.keeps u.keep
  refine wpAny_bind ?_
  obtain ⟨hp1, g1, d1, t1, o1⟩ := s1
  refine wpAny_keeperOf_exc (S1.g.st _ _ hC) ?_
  have e0 : starEach [] env = [] := rfl
  rw [e0]
  show wpAny _ A (call (.ref C) [v] >>= fun r => holding [r] point >>= fun _ => pure r) _ _ _
  refine wpAny_bind (make_smt H ?_ S1.g.toB fun h' tk e tp dx sl hk hn hx => wpAny_bind (wpAny_holding (wpAny_point (wpAny_pure ?_))))
  · show A.depth + (Code.builtin "type.__call__" ⟨[.ref C, v], []⟩).weight < recursionLimit
    rw [weight_tc]
    have := R.depth
    show A.depth + 1 < 1000
    omega
  · refine ⟨e, tp, dx, sl, rfl, hk _ _ (S1.g.st _ _ hC), hx, hE e _ (u.sim.trans ⟨rfl⟩) ⟨u.keep.trans (.of hk), u.keep.noneOf hn, _, _, _, hx, rfl, rfl, rfl, rfl⟩⟩
end
end Mine
end
section
open PySem PySem.W PySem.Calls PyProof.Rows
namespace Mine
theorem DFr.fun {base h : Heap} : ∀ {l : List Env}, DFr base h l → h.FunFrames base l
  | [], _ => trivial
  | env :: l, f => by
    obtain ⟨a, L, o, es, n, b, b', e, d⟩ := f env (.head _)
    exact ⟨a, ⟨L, o, b, b', e, fun vs q => by rw [d] at q; cases q⟩, DFr.fun fun e he => f e (.tail _ he)⟩
section
variable {c : Cx} {C : Addr} {n : Nat}
theorem leave_hot {A : Around} {env : Env} {e : Addr} {s : Shared} {Q : Unit → Shared → Prop} {h₁ : Heap} (hfr : (∃ l, A.frames = some (env :: l))) (G : c.G A s.heap) (H : Hot c C e h₁ s.heap)
    (hf : env.frame = some env.locals) (hL : h₁.get? env.locals = none) (hb1 : c.base.StaysIn h₁)
    (hQ : ∀ A' h', (∀ l, A.frames = some (env :: l) → A'.frames = some l) → Fly c C A' e h₁ h' → Q () { s with heap := h' }) :
    wpAny (model c.prog c.w) A (leaving env (.ref e)) Q (fun _ _ => False) s := by
  obtain ⟨l, hl⟩ := hfr
  obtain ⟨l', hl', df⟩ := G.fr
  rw [hl] at hl'; cases hl'
  obtain ⟨le, hn, o, vs, a0, he, hc, hd, h1, h0⟩ := H
  let B := hideAll s.heap (e :: (env :: l).filterMap (·.frame))
  have inF : ∀ {b : Addr}, b ∈ (env :: l).filterMap (·.frame) → c.base.get? b = none ∧ ∃ o es n, s.heap.get? b = some o ∧ o.data = .dict es n := fun {b} hm => by
    obtain ⟨env', he', hf'⟩ := List.mem_filterMap.mp hm
    obtain ⟨_, L, o, es, n, x1, x2, x3, x4⟩ := df env' he'
    rw [hf'] at x1; cases x1
    exact ⟨x2, o, es, n, x3, x4⟩
  have hB : ∀ b o, h₁.get? b = some o → ND o → B.get? b = some o := fun b o e' nd => by
    refine hideAll_get _ (le.nd b o e' nd) fun hm => ?_
    rcases List.mem_cons.mp hm with rfl | hm
    · rw [hn] at e'; cases e'
    · obtain ⟨_, o', es, n, x3, x4⟩ := inF hm
      rw [le.nd b o e' nd] at x3; cases x3
      exact nd _ _ x4
  have hbB : c.base.StaysIn B := fun b o e' => by
    refine hideAll_get _ (G.st b o e') fun hm => ?_
    rcases List.mem_cons.mp hm with rfl | hm
    · have := hb1 _ _ e'; rw [hn] at this; cases this
    · rw [(inF hm).1] at e'; cases e'
  have hBs : B.StaysIn s.heap := fun b o e' => of_hideAll _ e'
  have ff : s.heap.FunFrames B (env :: l) := by
    have : DFr B s.heap (env :: l) := fun env' he' => by
      obtain ⟨a, L, o, es, n, x1, x2, x3, x4⟩ := df env' he'
      exact ⟨a, L, o, es, n, x1, hideAll_none _ (.tail _ (List.mem_filterMap.mpr ⟨env', he', x1⟩)), x3, x4⟩
    exact this.fun
  refine wpAny_leaving_firstW hl ff hf he hBs (hideAll_none _ (.head _)) hd h1 h0 fun h' hW => ?_
  obtain ⟨w1, ⟨_, _, w2⟩, w3, w4⟩ := hW
  rw [hc] at w3
  refine hQ { A with frames := some l } h' (fun l' e' => by rw [hl] at e'; cases e'; rfl) ⟨l, a0, B, rfl, hB, hbB, fun b o es n e' d => ?_, w1, hideAll_none _ (.head _), w2, w3⟩
  obtain ⟨sl, e''⟩ := le.dt b o es n e' d
  obtain ⟨sl', e3⟩ := w4 b _ e'' (fun vs q => by rw [show _ = _ from d] at q; cases q)
  exact ⟨sl', e3⟩
end
end Mine
end
section
open PySem PySem.W PySem.Calls PyProof.Rows
namespace Mine
section
variable {c : Cx} {C : Addr} {n : Nat}
theorem FNr_intro {x : Str} {params : Arguments} {body : List Stmt} {scope : Scope} {ds : List D} (D : IsDef c x params body scope)
    (hnd : (params.args.map (·.arg)).Nodup) (hlen : (params.args.map (·.arg)).length = ds.length)
    (hbind : ∀ pm code doc vs, vs.length = ds.length → bindArgs (docDef x params body scope pm code doc) ⟨vs, []⟩ = pure ((params.args.map (·.arg)).zip vs))
    (hloc : ((params.args.map (·.arg)).all fun y => scope.names.lookup y == some .local) = true)
    (h : ∀ L a cd, EXh c C n (envOfC x scope L a cd) ((params.args.map (·.arg)).zip (ds.map fun d => (Tg.old, d))) body)
    (hco : scope.isCoroutine = false := by rfl) (hgen : scope.isGenerator = false := by rfl) (hk : scope.kind = .function := by rfl) : FNr c C (n + 1) x ds := by
  intro A s E vs a R G ha r hE
  obtain ⟨a', o, pm, code, doc, ha', ho, hd, hcd⟩ := D A s.heap G
  rw [ha] at ha'; cases ha'
  have hroom : A.depth < recursionLimit := by have := R.depth; show A.depth < 1000; omega
  refine wpAny_call (codeAny_call_function hroom ho hd hco hgen rfl hcd ?_)
  rw [hbind pm code doc vs r.length]
  refine wpAny_pure ?_
  have hloc' : ∀ y ∈ (params.args.map (·.arg)).zip vs, scope.names.lookup y.1 = some .local := fun y hy => by
    have := List.all_eq_true.mp hloc y.1 (List.of_mem_zip hy).1
    simpa using this
  refine wpAny_newFunctionEnv_cells hk (fun y hy => .inl (hloc' y hy)) fun env he s' X => ?_
  subst he
  refine ⟨G.top.nolimit.keeps X.toInCall.keep, codeAny_func ?_⟩
  obtain ⟨h₁, tk, rfl, _⟩ := X.done
  have hk₁ := X.toInCall.keep
  have kindL : ∀ y ∈ (params.args.map (·.arg)).zip vs, (envOfC x scope s.heap.objs.size a code).kindOf y.1 = some .local := hloc'
  have fs : FrS c (A.deeper (envOfC x scope s.heap.objs.size a code)) s.heap.objs.size s.heap := by
    obtain ⟨l, hl, hf⟩ := G.fr
    refine ⟨_ :: l, Around.frames_deeper hl, fun e he => ?_⟩
    rcases List.mem_cons.mp he with rfl | he
    · refine ⟨(fun z => by have z' : scope.kind = .module := z; rw [hk] at z'; cases z'), s.heap.objs.size, rfl, ?_, .inl rfl⟩
      exact (Le.of (c := c) G.st).noneOf (get_none_of_size (Nat.le_refl _))
    · obtain ⟨p, L, o, es, n, b, b', ho, hd⟩ := hf e he
      exact ⟨p, L, b, b', .inr ⟨o, es, n, ho, hd⟩⟩
  have S : St c (A.deeper (envOfC x scope s.heap.objs.size a code)) (envOfC x scope s.heap.objs.size a code) s.heap ((params.args.map (·.arg)).zip (ds.map fun d => (Tg.old, d))) h₁ := by
    refine ⟨G.toB, fs, .of hk₁, get_none_of_size (Nat.le_refl _), fun m k e => ⟨Nat.ne_of_gt (X.above m k (mem_of_lookup e)), _, X.cell m k e⟩, _, X.toInCall.ns, fun y g d e => ?_⟩
    obtain ⟨rfl, v, hv, rv⟩ := lookup_zip_rev hnd r hlen y g d e
    refine ⟨v, .inl ⟨kindL (y, v) (mem_of_lookup hv), bindL_of kindL ?_ hv⟩, rv.keeps (.of hk₁), fun _ => rv, fun h => by cases h⟩
    rw [show List.map (fun x => x.fst) ((params.args.map (·.arg)).zip vs) = params.args.map (·.arg) from List.map_fst_zip (by rw [hlen, r.length]; exact Nat.le_refl _)]
    exact hnd
  have Fe : FrEnv (A.deeper (envOfC x scope s.heap.objs.size a code)) (envOfC x scope s.heap.objs.size a code) s.heap := ⟨let ⟨l, hl, _⟩ := G.fr; ⟨l, Around.frames_deeper hl⟩, rfl, hk, fun m k e => get_none_of_size (Nat.le_of_lt (X.above m k (mem_of_lookup e))), fun m m' k e e' => name_of_addr X.apart (mem_of_lookup e) (mem_of_lookup e')⟩
  refine wpAny_mono (h s.heap.objs.size a code s.heap (A.deeper _) _ (fun v s' => wpAny (model c.prog c.w) (A.deeper (envOfC x scope s.heap.objs.size a code)) (leaving (envOfC x scope s.heap.objs.size a code) v) (fun _ s'' => E v s'') (fun _ _ => False) s') R.deeper Fe S fun e s' sim hot => ?_) (fun _ _ x => x.elim) (fun v s' z => wpAny_mono z (fun _ _ x => x) fun _ _ x => x.elim)
  have S' := S.keeps hot.1
  obtain ⟨l, hl, _⟩ := G.fr
  refine leave_hot (h₁ := s.heap) ⟨l, Around.frames_deeper hl⟩ S'.g (hot.up (.of hk₁)) rfl (get_none_of_size (Nat.le_refl _)) G.st fun A' h' hA' fl => ?_
  refine hE e _ ⟨by rw [sim.same]⟩ ?_
  obtain ⟨l', a0, B, q, rest⟩ := fl
  have := hA' l (Around.frames_deeper hl)
  rw [this] at q; cases q
  exact ⟨l, a0, B, hl, rest⟩
theorem EXf_return {env : Env} {ρ : Loc} {x : Str} {p pos rp : Pos} {e : Expr} {rest : List Expr} {ss : List Stmt} {params : Arguments} {body : List Stmt} {scope : Scope} (D : IsDef c x params body scope) (hx : env.kindOf x = some .globalImplicit)
    (h : TVs c n env ρ (spliced (backTo pos (starEach (e :: rest) env))) fun ds => FNr c C n x ds)
    (T : TopEnv env := by exact ⟨rfl, rfl, rfl⟩)
    (he : starEach (e :: rest) env = (false, eval e env) :: starEach rest env := by rfl)
    (hd : (x == ("__debug__" : Str)) = false := by decide) : EXf c C n env ρ (.Return (some (.Call (.Name x p) (e :: rest) [] pos)) rp :: ss) := by
  intro h₀ A s E R Fe S hE
  refine wpAny_execs_cons (wpAny_Return_some (wpAny_mono (Q := fun _ _ => False) ?_ (fun _ _ x => x.elim) fun _ _ x => x))
  obtain ⟨a, o, pm, code, doc, ha, ho, hdat, _⟩ := D A s.heap S.g
  refine Call_ (Name_function_global T.kind hx (loadGlobal_global (by rw [T.g]; exact S.g.top.g) ha ?_) hd)
  refine callWith_def hdat (wpAny_mono (h h₀ A s _ R S fun vs ds s1 u r q => ?_) (fun _ _ x => x) fun _ _ x => x.elim) he
  refine ⟨u.keep.nd _ _ ho (.func hdat), ?_⟩
  exact q A s1 E vs a R (S.g.keeps u.keep) ha r fun e s2 a2 f2 => hE e s2 (u.sim.trans a2) (f2.up u.keep)
end
end Mine
end
section
open PySem PySem.W PySem.Calls PyProof.Rows
namespace Mine
section
variable {c : Cx} {C N fI cc cda : Addr} {mN : Str → Option Value} {qual : Str} {doc pm ct : Value} {n : Nat} {mu : Bool} {env : Env} {ρ : Loc}
theorem EX_tryRaise (H : Smt c C N fI cc cda mN qual doc pm ct) {body rest : List Stmt} {np kp rp hp pos : Pos} {k : Nat} {P : Fl → Loc → Prop} (hx : env.kindOf "SmtError" = some .globalImplicit) (T : TopEnv env)
    (h : EXf c C n env ρ body) (hP : P (.ret .none) ρ) :
    EX c n mu env ρ (.Try body [.ExceptHandler (some (.Name "SmtError" np)) none [.Return (some (.Constant .none k kp)) rp] hp] [] [] pos :: rest) P := by
  intro h₀ A s Q R Fe S hQ
  obtain ⟨nm, q, bs, sn, sub, ab, col, dd, k0, k1, k2, k3, k5, hC⟩ := H.cls
  refine wpAny_execs_cons (wpAny_Try_except (wpAny_mono (h h₀ A s (fun e s1 => wpAny (model c.prog c.w) A (noteFrame e env) (fun _ s₂ => wpAny (model c.prog c.w) A (setFlight e none) (fun _ s₃ => wpAny (model c.prog c.w) A (handleBy e env [.ExceptHandler (some (.Name "SmtError" np)) none [.Return (some (.Constant .none k kp)) rp] hp])
    (fun f s' => match (generalizing := false) f with | .next => wpAny (model c.prog c.w) A (execs rest env) Q (fun _ _ => False) s' | f => Q f s') (fun _ _ => False) s₃) (fun _ _ => False) s₂) (fun _ _ => False) s1) R Fe S fun e s1 sim fly => ?_) (fun _ _ x => x.elim) fun _ _ x => x))
  obtain ⟨l, hl⟩ := Fe.top
  obtain ⟨l', a0, B, hl', hB, hbB, hdt, hfl⟩ := fly
  rw [hl] at hl'; cases hl'
  refine wpAny_looks_onW hl Fe.fr hfl fun h₄ hheld₄ hsm₄ => ?_
  refine wpAny_landsW hheld₄ fun h₅ hheld hsm₅' => ?_
  have hst5 : c.base.StaysIn h₅ := stays_trans hbB hheld.1
  obtain ⟨ob, hob, hobc⟩ := hheld.there
  have hT := (Cx.B.mk S.base.kb S.base.tb hst5).top
  refine wpAny_handleBy_cons (codeAny_handlers_test (Name_function_global T.kind hx (loadGlobal_global (by rw [T.g]; exact hT.g) H.name ?_))) (by intro q; cases q)
  refine wpAny_excMatches_sub_self (hst5 _ _ hC) hob hobc (by decide) (codeAny_handlers_suite ?_)
  refine lands_againW hheld fun h₆ hfl₆ hsm₆ => ?_
  have le6 : Le c s.heap h₆ := by
    refine ⟨fun b o e n => hfl₆.1 b o (hB b o e n), fun b o es n e d => ?_, fun _ => stays_trans hbB hfl₆.1⟩
    obtain ⟨sl, e1⟩ := hdt b o es n e d
    obtain ⟨sl2, e2⟩ := ((hsm₄.trans hsm₅').trans hsm₆) b _ e1 (fun vs q => by rw [show _ = _ from d] at q; cases q)
    exact ⟨sl2, e2⟩
  refine wpAny_mono (Q := fun f s' => f = .ret .none ∧ s' = { s1 with heap := h₆ }) (E := fun _ _ => False) ?_ (fun f s' z => ?_) fun _ _ x => x.elim
  · exact wpAny_execs_cons (wpAny_Return_some (Constant_none ⟨rfl, rfl⟩))
  · obtain ⟨rfl, rfl⟩ := z
    exact hQ _ (.ret .none) ρ _ ⟨by rw [sim.same]⟩ (KP.up le6.to) (S.keeps le6) ⟨_, rfl, Rep.none⟩ hP
theorem EX_tryOk {body rest : List Stmt} {h0 : ExceptHandler} {hs : List ExceptHandler} {pos : Pos} {P : Fl → Loc → Prop} (h : EX c n mu env ρ body (Seq c n mu env rest P)) :
    EX c n mu env ρ (.Try body (h0 :: hs) [] [] pos :: rest) P := by
  intro h₀ A s Q R Fe S hQ
  refine wpAny_execs_cons (wpAny_Try_except (wpAny_mono (h h₀ A s (fun f s1 => match f with
    | .next => wpAny (model c.prog c.w) A (execs [] env) (fun f s' => match (generalizing := false) f with | .next => wpAny (model c.prog c.w) A (execs rest env) Q (fun _ _ => False) s' | f => Q f s') (fun _ _ => False) s1
    | f => (match (generalizing := false) f with | .next => wpAny (model c.prog c.w) A (execs rest env) Q (fun _ _ => False) s1 | f => Q f s1)) R Fe S fun f fl ρ' s1 a b d e p => ?_) (fun _ _ x => x) fun _ _ x => x.elim))
  have key := seq_step R Fe hQ a b d e p
  cases f with
  | next => exact wpAny_execs_nil key
  | brk => exact key
  | cont => exact key
  | ret v => exact key
end
end Mine
end
section
open PySem PySem.W PySem.Calls PyProof.Rows
namespace Mine

abbrev S' (x : String) : Str := Str.ofString x
/-- a def of the top by its name -/
def Known (c : Cx) (x : Str) : Prop := ∃ params body scope, IsDef c x params body scope
def isDefName (x : Str) : Stmt → Bool
  | .FunctionDef name _ _ _ _ _ _ _ _ _ => name == x
  | _ => false

structure Facts (c : Cx) : Prop where
  fn : ∀ (i : Nat) (name : Str) (args : Arguments) (body : List Stmt) (decs : List Expr) (ret : Option Expr) (tps : List TypeParam) (scope : Scope) (ts : Option Scope) (bind : Str) (pos : Pos),
    PySem.Challenge.pw_no0004_01.main.body[i]? = some (.FunctionDef name args body decs ret tps scope ts bind pos) → IsDef c name args body scope
  blt : ∀ x : String, x = "abs" ∨ x = "len" ∨ x = "all" ∨ x = "isinstance" → c.mg (S' x) = none ∧ c.mb (S' x) = some (.builtin x)
  typ : ∀ x : String, x = "str" ∨ x = "int" ∨ x = "list" ∨ x = "tuple" → c.mg (S' x) = none ∧ c.mb (S' x) = some (.type x)
  num : ∀ x : String, ∀ k : Int, (x = "ZERO" ∧ k = 0) ∨ (x = "ONE" ∧ k = 1) ∨ (x = "MINUS_ONE" ∧ k = -1) → ∀ A h, c.G A h → ∃ v, c.mg (S' x) = some v ∧ Rep h (.tup [.int k, .int 1]) v
  smt : ∃ C N fI cc cda mN qual doc pm ct, Smt c C N fI cc cda mN qual doc pm ct

theorem Facts.known {c : Cx} (F : Facts c) {x : Str} (h : PySem.Challenge.pw_no0004_01.main.body.any (isDefName x) = true) : Known c x := by
  obtain ⟨s, hs, hx⟩ := List.any_eq_true.mp h
  obtain ⟨i, hi⟩ := List.getElem?_of_mem hs
  unfold isDefName at hx
  split at hx
  · rename_i name args body decs ret tps scope ts bind pos
    have e : name = x := beq_iff_eq.mp hx
    subst e
    exact ⟨_, _, _, F.fn i _ _ _ _ _ _ _ _ _ _ hi⟩
  · cases hx

theorem exT {l : List D} {P : List D → Prop} (h : P l) : ∃ x, D.tup l = D.tup x ∧ P x := ⟨_, rfl, h⟩
theorem exL {l : List D} {P : List D → Prop} (h : P l) : ∃ x, D.lst l = D.lst x ∧ P x := ⟨_, rfl, h⟩
theorem exI {l : Int} {P : Int → Prop} (h : P l) : ∃ x, D.int l = D.int x ∧ P x := ⟨_, rfl, h⟩
theorem exS {l : Str} {P : Str → Prop} (h : P l) : ∃ x, D.str l = D.str x ∧ P x := ⟨_, rfl, h⟩
theorem exT2 {a b : D} {P : D → D → Prop} (h : P a b) : ∃ x y, D.tup [a, b] = D.tup [x, y] ∧ P x y := ⟨_, _, rfl, h⟩
theorem exT3 {a b e : D} {P : D → D → D → Prop} (h : P a b e) : ∃ x y z, D.tup [a, b, e] = D.tup [x, y, z] ∧ P x y z := ⟨_, _, _, rfl, h⟩
section
variable {c : Cx} {n : Nat} {env : Env} {ρ : Loc} {P : D → Prop}
theorem EV_callK {x : Str} {p pos : Pos} {e : Expr} {rest : List Expr} (K : Known c x) (hx : env.kindOf x = some .globalImplicit)
    (h : TVs c n env ρ (spliced (backTo pos (starEach (e :: rest) env))) fun ds => FNn c n x ds P)
    (T : TopEnv env) (he : starEach (e :: rest) env = (false, eval e env) :: starEach rest env) (hd : (x == ("__debug__" : Str)) = false) : EV c n env ρ (.Call (.Name x p) (e :: rest) [] pos) P := by
  obtain ⟨params, body, scope, D⟩ := K
  exact EV_call D hx h T he hd
theorem BR {p : Prop} [Decidable p] {X Y : Prop} (h1 : p → X) (h2 : ¬p → Y) : (decide p = true → X) ∧ (decide p = false → Y) :=
  ⟨fun h => h1 (of_decide_eq_true h), fun h => h2 (of_decide_eq_false h)⟩
theorem BRt {X Y : Prop} (h1 : X) : (true = true → X) ∧ (true = false → Y) := ⟨fun _ => h1, (fun h => by cases h)⟩
theorem BRf {X Y : Prop} (h1 : Y) : (false = true → X) ∧ (false = false → Y) := ⟨(fun h => by cases h), fun _ => h1⟩
theorem BRnt {X Y : Prop} (h1 : Y) : ((!true) = true → X) ∧ ((!true) = false → Y) := ⟨(fun h => by cases h), fun _ => h1⟩
theorem BRnf {X Y : Prop} (h1 : X) : ((!false) = true → X) ∧ ((!false) = false → Y) := ⟨fun _ => h1, (fun h => by cases h)⟩
theorem BRnone {X Y : Prop} (h1 : X) : (D.none.isNone = true → X) ∧ (D.none.isNone = false → Y) := ⟨fun _ => h1, (fun h => by cases h)⟩
theorem BRtup {l : List D} {X Y : Prop} (h1 : Y) : ((D.tup l).isNone = true → X) ∧ ((D.tup l).isNone = false → Y) := ⟨(fun h => by cases h), fun _ => h1⟩
theorem BRnone' {X Y : Prop} (h1 : Y) : ((!D.none.isNone) = true → X) ∧ ((!D.none.isNone) = false → Y) := ⟨(fun h => by cases h), fun _ => h1⟩
theorem BRtup' {l : List D} {X Y : Prop} (h1 : X) : ((!(D.tup l).isNone) = true → X) ∧ ((!(D.tup l).isNone) = false → Y) := ⟨fun _ => h1, (fun h => by cases h)⟩
theorem BRg {b : Bool} {X Y : Prop} (h1 : b = true → X) (h2 : b = false → Y) : (b = true → X) ∧ (b = false → Y) := ⟨h1, h2⟩
theorem BRn {p : Prop} [Decidable p] {X Y : Prop} (h1 : ¬p → X) (h2 : p → Y) : ((!decide p) = true → X) ∧ ((!decide p) = false → Y) :=
  ⟨fun h => h1 (by simpa using h), fun h => h2 (by simpa using h)⟩
theorem EX_guard {mu : Bool} {test : Expr} {body : List Stmt} {pos : Pos} {rest : List Stmt} {P : Fl → Loc → Prop} (K : Prop)
    (h : EB c n env ρ test fun q => (q = true → EX c n mu env ρ body (Seq c n mu env rest P)) ∧ (q = false → K)) (hk : K → EX c n mu env ρ rest P) : EX c n mu env ρ (.If test body [] pos :: rest) P :=
  EX_if fun h₀ A s Q R S hQ => h h₀ A s Q R S fun q s' u p => hQ q s' u ⟨p.1, fun e => EX_nil (hk (p.2 e))⟩
theorem Cap.of {scope : Scope} {cl : List (Str × Addr)} {x : Str} {ρc : Loc} (h1 : ∀ p ∈ cl, env.cells.lookup p.1 = some p.2)
    (h2 : ∀ p ∈ ρc, p.2.1 = .old ∧ (p.1 == x) = false ∧ (∃ t', ρ.lookup p.1 = some (t', p.2.2)) ∧ env.kindOf p.1 = some .cell ∧ (relabel scope env).names.lookup p.1 = some .cell ∧ ∃ k, cl.lookup p.1 = some k) : Cap env scope cl x ρ ρc :=
  ⟨fun y k e => h1 (y, k) (mem_of_lookup e), fun y t d e => let ⟨a, b, r⟩ := h2 (y, t, d) (mem_of_lookup e); ⟨a, beq_eq_false_iff_ne.mp b, r⟩⟩
theorem filtT {α : Type} (l : List α) : l.filter (fun _ => true) = l := by simp
theorem FN_lenT {l : List D} (hl : l.length ≤ 100000) (h : P (.int (l.length : Int))) : FN c n (.builtin "len") [.tup l] P := by
  intro A s Q vs R G r hQ
  obtain ⟨v, r', rfl, rv, rl⟩ := r.cons_inv
  obtain rfl := rl.nil_inv
  obtain ⟨a, ws, rfl, hL, rw⟩ := rv.tup_inv
  have := rw.length
  refine len_tuple hL (by simp; omega) (hQ _ _ _ Up.tok ?_ h)
  rw [show ((ws.toArray.size : Nat) : Int) = (l.length : Int) by simp [this]]
  exact Rep.int
theorem EX_forM {mu : Bool} {α : Type} {target iter : Expr} {body : List Stmt} {pos : Pos} {rest : List Stmt} {P : Fl → Loc → Prop} (l : List α) (f : α → D) (I : List α → Loc → Prop)
    (h : EV c n env ρ iter fun d => Itb c d (l.map f) ∧ ∃ ρ₀, Sub ρ₀ ρ ∧ I [] ρ₀)
    (turn : ∀ pre x post ρ, l = pre ++ x :: post → I pre ρ → AS c n env ρ target (f x) fun ρ1 => EX c n false env ρ1 body (Turn c n mu env rest P (I (pre ++ [x]))))
    (fin : ∀ ρ, I l ρ → EX c n mu env ρ rest P)
    (hs : ∀ x, foldedSetIterable iter env x = pure x := by intro _; rfl) (ht : ∀ it v, letOwnedTupleGo target it v = pure () := by intro _ _; rfl) :
    EX c n mu env ρ (.For target iter body [] pos :: rest) P := by
  refine EX_for (l.map f) (fun ds ρ => ∃ p q, l = p ++ q ∧ ds = p.map f ∧ I p ρ) (h.mono fun d ⟨a, ρ₀, b, e⟩ => ⟨a, ρ₀, b, [], l, rfl, rfl, e⟩) (fun pre x post ρ hd ⟨p, q, hl, hp, hI⟩ => ?_) (fun ρ ⟨p, q, hl, hp, hI⟩ => ?_) hs ht
  · subst hp
    rw [hl, List.map_append] at hd
    have hd := List.append_cancel_left hd
    cases q with
    | nil => simp at hd
    | cons y q =>
      simp only [List.map_cons, List.cons.injEq] at hd
      obtain ⟨rfl, _⟩ := hd
      intro h₀ A s Q v R Fe S r hQ
      refine turn p y q ρ hl hI h₀ A s Q v R Fe S r fun ρ' s' a b d e => hQ ρ' s' a b d (e.mono fun fl ρ2 t => ?_)
      cases fl with
      | next => obtain ⟨ρ3, x1, x2⟩ := t; exact ⟨ρ3, x1, p ++ [y], q, by rw [hl]; simp, by simp, x2⟩
      | cont => obtain ⟨ρ3, x1, x2⟩ := t; exact ⟨ρ3, x1, p ++ [y], q, by rw [hl]; simp, by simp, x2⟩
      | brk => exact t
      | ret d => exact t
  · have : p.length = l.length := by simpa using (congrArg List.length hp).symm
    have hq : q = [] := by
      have := congrArg List.length hl
      rw [List.length_append] at this
      exact List.eq_nil_of_length_eq_zero (by omega)
    subst hq
    rw [List.append_nil] at hl
    subst hl
    exact fin ρ hI
/-- a turn of a while -/
def WTurn (I : Nat → Loc → Prop) (k : Nat) : Fl → Loc → Prop
  | .next, ρ' => ∃ m ρ'', m < k ∧ Sub ρ'' ρ' ∧ I m ρ''
  | _, _ => False
theorem EX_whileJ {mu : Bool} {test : Expr} {body : List Stmt} {pos : Pos} {rest : List Stmt} {P : Fl → Loc → Prop} (I : Nat → Loc → Prop) (J : Loc → Prop) (k : Nat) {ρ₀ : Loc} (h0 : I k ρ₀) (hsub : Sub ρ₀ ρ)
    (turn : ∀ k ρ, I k ρ → EB c n env ρ test fun q => (q = true → EX c n mu env ρ body (WTurn I k)) ∧ (q = false → J ρ))
    (fin : ∀ ρ, J ρ → EX c n mu env ρ rest P) :
    EX c n mu env ρ (.While test body [] pos :: rest) P := by
  refine EX_while I k h0 hsub fun k ρ hI => ?_
  intro h₀ A s Q R S hQ
  refine turn k ρ hI h₀ A s Q R S fun q s' u p => hQ q s' u ⟨fun e => (p.1 e).mono fun f ρ' t => ?_, fun e => fin ρ (p.2 e)⟩
  cases f with
  | next => exact t
  | brk => exact t.elim
  | cont => exact t.elim
  | ret d => exact t.elim
theorem FNn_at {x : Str} {ds : List D} (k : Nat) (hn : k + 1 ≤ n) (h : ∀ m, k ≤ m → FNn c (m + 1) x ds P) : FNn c n x ds P := by
  obtain ⟨m, rfl⟩ : ∃ m, n = m + 1 := ⟨n - 1, by omega⟩
  exact h m (by omega)
section
variable {c : Cx} {n : Nat} {mu : Bool} {env : Env} {ρ : Loc} {rest : List Stmt} {Q : Fl → Loc → Prop} {P : D → Prop} {d : D} {J : Loc → Prop}
theorem gEV {e : Expr} (h : EV c n env ρ e P) : EV c n env ρ e P := h
theorem gEB {e : Expr} {P : Bool → Prop} (h : EB c n env ρ e P) : EB c n env ρ e P := h
theorem gTB {t : Sem Bool} {P : Bool → Prop} (h : TB c n env ρ t P) : TB c n env ρ t P := h
theorem gTVs {t : Sem (List Value)} {P : List D → Prop} (h : TVs c n env ρ t P) : TVs c n env ρ t P := h
theorem gO2 {f : Value → Value → Sem Value} {d e : D} (h : O2 c n f d e P) : O2 c n f d e P := h
theorem gO1 {f : Value → Sem Value} {d : D} (h : O1 c n f d P) : O1 c n f d P := h
theorem gCMP {op : CmpOp} {d e : D} {P : Bool → Prop} (h : CMP c n op d e P) : CMP c n op d e P := h
theorem gFNn {x : Str} {ds : List D} (h : FNn c n x ds P) : FNn c n x ds P := h
theorem gFN {x : Value} {ds : List D} (h : FN c n x ds P) : FN c n x ds P := h
theorem gEX {ss : List Stmt} (h : EX c n mu env ρ ss Q) : EX c n mu env ρ ss Q := h
theorem gSeq {f : Fl} (h : Seq c n mu env rest Q f ρ) : Seq c n mu env rest Q f ρ := h
theorem SQn (h : EX c n mu env ρ rest Q) : Seq c n mu env rest Q .next ρ := h
theorem SQr (h : Q (.ret d) ρ) : Seq c n mu env rest Q (.ret d) ρ := h
theorem SQc (h : Q .cont ρ) : Seq c n mu env rest Q .cont ρ := h
theorem TUr (h : Q (.ret d) ρ) : Turn c n mu env rest Q J (.ret d) ρ := h
theorem RTr (h : P d) : Ret P (.ret d) ρ := h
end
end
end Mine
end
section
namespace Mine

/-! plain arithmetic -/
def Sz (k : Nat) (x : Int) : Prop := x.natAbs < 2 ^ k
theorem Sz.dec {k : Nat} {x : Int} (h : decide (x.natAbs < 2 ^ k) = true) : Sz k x := show x.natAbs < 2 ^ k from of_decide_eq_true h
theorem Sz.mono {j k : Nat} {x : Int} (h : Sz j x) (hjk : j ≤ k) : Sz k x := Nat.lt_of_lt_of_le h (Nat.pow_le_pow_right (by decide) hjk)
theorem Sz.mul {j k : Nat} {a b : Int} (h : Sz j a) (h' : Sz k b) : Sz (j + k) (a * b) := by
  unfold Sz at *
  rw [Int.natAbs_mul, Nat.pow_add]
  exact Nat.mul_lt_mul'' h h'
theorem Sz.add {k : Nat} {a b : Int} (h : Sz k a) (h' : Sz k b) : Sz (k + 1) (a + b) := by
  unfold Sz at *
  rw [Nat.pow_succ]
  have := Int.natAbs_add_le a b
  omega
theorem Sz.neg {k : Nat} {a : Int} (h : Sz k a) : Sz k (-a) := by unfold Sz at *; rwa [Int.natAbs_neg]
theorem Sz.sub {k : Nat} {a b : Int} (h : Sz k a) (h' : Sz k b) : Sz (k + 1) (a - b) := by rw [Int.sub_eq_add_neg]; exact h.add h'.neg
theorem Sz.add2 {j k : Nat} {a b : Int} (h : Sz j a) (h' : Sz k b) : Sz (max j k + 1) (a + b) := (h.mono (Nat.le_max_left j k)).add (h'.mono (Nat.le_max_right j k))
theorem Sz.sub2 {j k : Nat} {a b : Int} (h : Sz j a) (h' : Sz k b) : Sz (max j k + 1) (a - b) := (h.mono (Nat.le_max_left j k)).sub (h'.mono (Nat.le_max_right j k))
theorem Sz.to {j k : Nat} {a : Int} (h : Sz j a) (hk : j ≤ k) : Sz k a := h.mono hk
theorem Sz.le {k : Nat} {a b : Int} (h : Sz k b) (hab : a.natAbs ≤ b.natAbs) : Sz k a := Nat.lt_of_le_of_lt hab h
theorem Sz.zero {k : Nat} : Sz k 0 := by unfold Sz; exact Nat.pow_pos (by decide)
theorem Sz.one {k : Nat} : Sz (k + 1) 1 := by unfold Sz; rw [Nat.pow_succ]; have : 0 < 2 ^ k := Nat.pow_pos (by decide); show 1 < _; omega

/-- the lowest terms of t / b -/
def sgnG (t b : Int) : Int := if b < 0 then -(Int.gcd t b : Int) else (Int.gcd t b : Int)
def redF (t b : Int) : Int × Int := (t.fdiv (sgnG t b), b.fdiv (sgnG t b))

theorem sgnG_ne {t b : Int} (hb : b ≠ 0) : sgnG t b ≠ 0 := by
  have : 0 < Int.gcd t b := Int.gcd_pos_of_ne_zero_right t hb
  unfold sgnG; split <;> omega
theorem gcd_split {t b : Int} (hb : b ≠ 0) : ∃ x y : Int, t = (Int.gcd t b : Int) * x ∧ b = (Int.gcd t b : Int) * y ∧ Int.gcd x y = 1 := by
  have hg : 0 < Int.gcd t b := Int.gcd_pos_of_ne_zero_right t hb
  obtain ⟨x, hx⟩ := Int.gcd_dvd_left (a := t) (b := b)
  obtain ⟨y, hy⟩ := Int.gcd_dvd_right (a := t) (b := b)
  refine ⟨x, y, hx, hy, ?_⟩
  have h1 : Int.gcd t b = Int.gcd t b * Int.gcd x y := by
    have := Int.gcd_mul_left (Int.gcd t b : Int) x y
    rw [← hx, ← hy] at this
    simpa using this
  have := Nat.eq_of_mul_eq_mul_left hg (show Int.gcd t b * 1 = Int.gcd t b * Int.gcd x y by omega)
  omega

structure Low (t b : Int) (p : Int × Int) : Prop where
  pos : 0 < p.2
  cross : p.1 * b = p.2 * t
  cop : Int.gcd p.1 p.2 = 1
  le1 : p.1.natAbs ≤ t.natAbs
  le2 : p.2.natAbs ≤ b.natAbs
theorem redF_low {t b : Int} (hb : b ≠ 0) : Low t b (redF t b) := by
  obtain ⟨x, y, hx, hy, hg⟩ := gcd_split (t := t) hb
  have hG : 0 < Int.gcd t b := Int.gcd_pos_of_ne_zero_right t hb
  generalize hq : Int.gcd t b = G at *
  have hy0 : y ≠ 0 := fun z => by rw [z, Int.mul_zero] at hy; exact hb hy
  by_cases hneg : b < 0
  · have e1 : t.fdiv (sgnG t b) = -x := by
      unfold sgnG; rw [if_pos hneg, hq, hx, show (G : Int) * x = (-x) * (-(G : Int)) by rw [Int.neg_mul_neg, Int.mul_comm]]
      exact Int.mul_fdiv_cancel _ (by omega)
    have e2 : b.fdiv (sgnG t b) = -y := by
      unfold sgnG; rw [if_pos hneg, hq]; conv => lhs; rw [hy, show (G : Int) * y = (-y) * (-(G : Int)) by rw [Int.neg_mul_neg, Int.mul_comm]]
      exact Int.mul_fdiv_cancel _ (by omega)
    have hy1 : y < 0 := by
      rcases Int.lt_trichotomy y 0 with h | h | h
      · exact h
      · exact absurd h hy0
      · have := Int.mul_pos (show (0 : Int) < G by omega) h; omega
    refine ⟨?_, ?_, ?_, ?_, ?_⟩ <;> simp only [redF, e1, e2]
    · omega
    · rw [hx, hy]; grind
    · rw [Int.neg_gcd, Int.gcd_neg]; exact hg
    · rw [Int.natAbs_neg, hx, Int.natAbs_mul]; exact Nat.le_mul_of_pos_left _ (by simpa using hG)
    · rw [Int.natAbs_neg, hy, Int.natAbs_mul]; exact Nat.le_mul_of_pos_left _ (by simpa using hG)
  · have e1 : t.fdiv (sgnG t b) = x := by
      unfold sgnG; rw [if_neg hneg, hq, hx, Int.mul_comm]
      exact Int.mul_fdiv_cancel _ (by omega)
    have e2 : b.fdiv (sgnG t b) = y := by
      unfold sgnG; rw [if_neg hneg, hq]; conv => lhs; rw [hy, Int.mul_comm]
      exact Int.mul_fdiv_cancel _ (by omega)
    have hy1 : 0 < y := by
      rcases Int.lt_trichotomy y 0 with h | h | h
      · have := Int.mul_neg_of_pos_of_neg (show (0 : Int) < G by omega) h; omega
      · exact absurd h hy0
      · exact h
    refine ⟨?_, ?_, ?_, ?_, ?_⟩ <;> simp only [redF, e1, e2]
    · omega
    · rw [hx, hy]; grind
    · exact hg
    · rw [hx, Int.natAbs_mul]; exact Nat.le_mul_of_pos_left _ (by simpa using hG)
    · rw [hy, Int.natAbs_mul]; exact Nat.le_mul_of_pos_left _ (by simpa using hG)
theorem redF_one (t : Int) : redF t 1 = (t, 1) := by
  unfold redF sgnG
  rw [if_neg (by decide), Int.gcd_one]
  simp
end Mine
end
section
namespace Mine
theorem gcd_step (a b : Int) (h : b ≠ 0) (ha : 0 ≤ a) (hb : 0 ≤ b) : (a.fmod b).natAbs < b.natAbs ∧ 0 ≤ a.fmod b ∧ Int.gcd b (a.fmod b) = Int.gcd a b := by
  have h1 : a.fmod b = a % b := Int.fmod_eq_emod_of_nonneg a hb
  have h2 := Int.emod_nonneg a h
  have h3 := Int.emod_lt_of_pos a (show 0 < b by omega)
  rw [h1]
  refine ⟨by omega, h2, ?_⟩
  rw [Int.gcd_comm]
  obtain ⟨m, rfl⟩ := Int.eq_ofNat_of_zero_le ha
  obtain ⟨k, rfl⟩ := Int.eq_ofNat_of_zero_le hb
  show Nat.gcd (m % k) k = Nat.gcd m k
  rw [Nat.gcd_comm m k]
  exact (Nat.gcd_rec k m).symm
theorem gcd_even_odd (x y : Int) (h : y % 2 = 1) : Int.gcd (2 * x) y = Int.gcd x y := by
  unfold Int.gcd
  rw [Int.natAbs_mul]
  have : Nat.Coprime 2 y.natAbs := by
    rw [Nat.coprime_iff_gcd_eq_one]
    rw [Nat.gcd_rec]
    have : y.natAbs % 2 = 1 := by omega
    simp [this]
  exact Nat.Coprime.gcd_mul_left_cancel _ this
theorem gcd_half {a b : Int} (ha : a % 2 = 0) (hb : b % 2 = 1) : Int.gcd (a / 2) b = Int.gcd a b := by
  have : a = 2 * (a / 2) := by omega
  rw [← gcd_even_odd (a / 2) b hb, ← this]
theorem gcd_both {a b : Int} (ha : a % 2 = 0) (hb : b % 2 = 0) : 2 * Int.gcd (a / 2) (b / 2) = Int.gcd a b := by
  have h1 : a = 2 * (a / 2) := by omega
  have h2 : b = 2 * (b / 2) := by omega
  have := Int.gcd_mul_left 2 (a / 2) (b / 2)
  rw [← h1, ← h2] at this
  simpa using this.symm
theorem gcd_minus (a b : Int) : Int.gcd a (b - a) = Int.gcd a b := by
  simp [Int.gcd_sub_self_right]
theorem fmod2 (a : Int) : a.fmod 2 = a % 2 := Int.fmod_eq_emod_of_nonneg a (by decide)
theorem fdiv2 (a : Int) : a.fdiv 2 = a / 2 := Int.fdiv_eq_ediv_of_nonneg a (by decide)
end Mine
end
section
namespace Mine
/-! the binary way to the greatest common divisor -/
structure Bin (G : Nat) (x y t : Int) : Prop where
  x0 : 0 < x
  t0 : 0 < t
  y0 : 0 ≤ y
  eq : t * (Int.gcd x y : Int) = G
theorem Bin.both {G : Nat} {x y t : Int} (h : Bin G x y t) (hy : 0 < y) (h1 : x % 2 = 0) (h2 : y % 2 = 0) : Bin G (x / 2) (y / 2) (t * 2) ∧ 0 < y / 2 := by
  refine ⟨⟨by have := h.x0; omega, by have := h.t0; omega, by omega, ?_⟩, by omega⟩
  have := gcd_both h1 h2
  have e := h.eq
  rw [← this] at e
  rw [← e, Int.natCast_mul, Int.mul_assoc]
  rfl
theorem Bin.left {G : Nat} {x y t : Int} (h : Bin G x y t) (h1 : x % 2 = 0) (h2 : y % 2 = 1) : Bin G (x / 2) y t :=
  ⟨by have := h.x0; omega, h.t0, h.y0, by rw [gcd_half h1 h2]; exact h.eq⟩
theorem Bin.right {G : Nat} {x y t : Int} (h : Bin G x y t) (h1 : x % 2 = 1) (h2 : y % 2 = 0) : Bin G x (y / 2) t :=
  ⟨h.x0, h.t0, by have := h.y0; omega, by rw [Int.gcd_comm, gcd_half h2 h1, Int.gcd_comm]; exact h.eq⟩
theorem Bin.swap {G : Nat} {x y t : Int} (h : Bin G x y t) (hy : 0 < y) : Bin G y x t :=
  ⟨hy, h.t0, by have := h.x0; omega, by rw [Int.gcd_comm]; exact h.eq⟩
theorem Bin.minus {G : Nat} {x y t : Int} (h : Bin G x y t) (hxy : x ≤ y) : Bin G x (y - x) t :=
  ⟨h.x0, h.t0, by omega, by rw [gcd_minus]; exact h.eq⟩
theorem Bin.fin {G : Nat} {x t : Int} (h : Bin G x 0 t) : x * t = G := by
  have := h.eq
  rw [Int.gcd_zero_right] at this
  rw [← this, Int.mul_comm]
  congr 1
  have := h.x0
  omega
theorem Bin.t_le {G : Nat} {x y t : Int} (h : Bin G x y t) : t ≤ G := by
  have h1 : 0 < Int.gcd x y := Int.gcd_pos_of_ne_zero_left y (by have := h.x0; omega)
  have := h.eq
  rw [← this]
  have h2 : t * 1 ≤ t * (Int.gcd x y : Int) := Int.mul_le_mul_of_nonneg_left (by omega) (by have := h.t0; omega)
  omega
end Mine
end
section
set_option maxHeartbeats 10000000
set_option exponentiation.threshold 5000
open PySem PySem.W PySem.Calls PyProof.Rows
namespace Mine
/-- the arguments' binding, for one to five arguments -/
local macro_rules | `(tactic| walk_at "bind") => `(tactic| (intro _ _ _ vs hv; first
  | (rcases vs with _ | ⟨v1, _ | ⟨v2, r⟩⟩ <;> first | rfl | (exfalso; simp at hv; done))
  | (rcases vs with _ | ⟨v1, _ | ⟨v2, _ | ⟨v3, r⟩⟩⟩ <;> first | rfl | (exfalso; simp at hv; done))
  | (rcases vs with _ | ⟨v1, _ | ⟨v2, _ | ⟨v3, _ | ⟨v4, r⟩⟩⟩⟩ <;> first | rfl | (exfalso; simp at hv; done))
  | (rcases vs with _ | ⟨v1, _ | ⟨v2, _ | ⟨v3, _ | ⟨v4, _ | ⟨v5, _ | ⟨v6, r⟩⟩⟩⟩⟩⟩ <;> first | rfl | (exfalso; simp at hv; done))))
local macro_rules | `(tactic| walk_at "sub") => `(tactic| (refine Sub.of ?_; repeat (first | exact List.forall_mem_nil _ | refine List.forall_mem_cons.mpr ⟨rfl, ?_⟩)))
local macro_rules | `(tactic| walk_at "cap") => `(tactic| (refine Cap.of ?_ ?_ <;> repeat (first | exact List.forall_mem_nil _ | refine List.forall_mem_cons.mpr ⟨rfl, ?_⟩ | refine List.forall_mem_cons.mpr ⟨⟨rfl, rfl, ⟨_, rfl⟩, rfl, rfl, ⟨_, rfl⟩⟩, ?_⟩)))
/-- sizes -/
local macro_rules | `(tactic| walk_at "sz") => `(tactic| (refine' Sz.to ?h ?hk; (case h => repeat (first | assumption | with_reducible apply Sz.mul | with_reducible apply Sz.add2 | with_reducible apply Sz.sub2 | with_reducible apply Sz.neg | ((with_reducible refine (?_ : Sz 64 _)); exact Sz.dec (by decide)))); (case hk => decide)))
local macro_rules | `(tactic| walk_at "sm") => `(tactic| first
  | (refine Sz.sm (k := 4000) ?_; walk_at "sz")
  | (refine And.intro (Sz.sm (k := 4000) ?_) (Sz.sm (k := 4000) ?_) <;> walk_at "sz")
  | (refine And.intro ?_ ?_ <;> walk_at "sz")
  | walk_at "sz"
  | fail "no size")
local macro_rules | `(tactic| walk_at "if") => `(tactic| with_reducible refine EX_if ?_)
/-- one step -/
local macro_rules | `(tactic| walk_at "ev") => `(tactic| first
  | ((with_reducible refine gEV ?_); first
    | ((with_reducible refine' EV_name ?hx ?_ ?hk ?hd ?hd'); (case hx => exact rfl); (case hk => exact rfl); (case hd => decide); (case hd' => decide))
    | with_reducible refine EV_int ?_
    | with_reducible refine EV_bin ?_
    | with_reducible refine EV_sub ?_
    | ((with_reducible refine' EV_callK ?hK ?hx ?_ ?T ?he ?hd); (case hK => exact Facts.known (by with_reducible assumption) (by decide +kernel)); (case hx => exact rfl); (case T => exact ⟨rfl, rfl, rfl⟩); (case he => exact rfl); (case hd => decide))
    | ((with_reducible refine' EV_isTuple ?h0 ?hb ?hx ?h1 ?hb1 ?hy ?_ ?T ?he ?hd ?hd1); (case h0 => exact (Facts.blt (by with_reducible assumption) "isinstance" (by decide)).1); (case hb => exact (Facts.blt (by with_reducible assumption) "isinstance" (by decide)).2); (case hx => exact rfl); (case h1 => exact (Facts.typ (by with_reducible assumption) "tuple" (by decide)).1); (case hb1 => exact (Facts.typ (by with_reducible assumption) "tuple" (by decide)).2); (case hy => exact rfl); (case T => exact ⟨rfl, rfl, rfl⟩); (case he => exact rfl); (case hd => decide); (case hd1 => decide))
    | with_reducible refine EV_tuple ?_
    | with_reducible refine EV_un ?_
    | with_reducible refine EV_list ?_
    | ((with_reducible refine' EV_cmp ?_ ?hm); (case hm => with_unfolding_all rfl))
    | with_reducible refine EV_bool ?_
    | with_reducible refine EV_none ?_
    | with_reducible refine EV_str ?_
    | with_reducible refine EV_if ?_
    | with_reducible refine EV_bool1 ?_
    | with_reducible refine EV_and ?_
    | with_reducible refine EV_or ?_
    | ((with_reducible refine' EV_cmp2 ?_ ?hm); (case hm => with_unfolding_all rfl))
    | ((with_reducible refine' EV_callB ?h0 ?hb ?hx ?_ ?T ?he ?hp ?hd); (case h0 => exact (Facts.blt (by with_reducible assumption) _ (by decide)).1); (case hb => exact (Facts.blt (by with_reducible assumption) _ (by decide)).2); (case hx => exact rfl); (case T => exact ⟨rfl, rfl, rfl⟩); (case he => exact rfl); (case hp => exact rfl); (case hd => decide))
    | ((with_reducible refine' EV_callT ?h0 ?hb ?hx ?_ ?T ?he ?hp ?hd); (case h0 => exact (Facts.typ (by with_reducible assumption) _ (by decide)).1); (case hb => exact (Facts.typ (by with_reducible assumption) _ (by decide)).2); (case hx => exact rfl); (case T => exact ⟨rfl, rfl, rfl⟩); (case he => exact rfl); (case hp => exact rfl); (case hd => decide))
    | ((with_reducible refine' EV_glob ?h0 ?hx ?_ ?T ?hd); (case h0 => exact Facts.num (by with_reducible assumption) _ _ (by decide)); (case hx => exact rfl); (case T => exact ⟨rfl, rfl, rfl⟩); (case hd => decide))
    | walk_at "xv")
  | ((with_reducible refine gTVs ?_); first
    | ((with_reducible refine' TVs_cons ?_ ?he); (case he => exact rfl))
    | with_reducible refine TVs_nil ?_)
  | ((with_reducible refine gO2 ?_); first
    | ((with_reducible refine' O2_item ?h1 ?h2 ?h3 ?h4 ?_); (case h1 => decide); (case h2 => decide); (case h3 => exact rfl); (case h4 => exact rfl))
    | with_reducible refine O2_mul ?_ ?_
    | with_reducible refine O2_add ?_
    | with_reducible refine O2_sub ?_
    | with_reducible refine O2_div ?_ ?_ ?_
    | with_reducible refine O2_mod ?_ ?_
    | with_reducible refine O2_subB ?_
    | with_reducible refine O2_addS ?_ ?_
    | with_reducible refine O2_mulS ?_ ?_
    | ((with_reducible refine' O2_pow ?h0 ?_); (case h0 => decide)))
  | ((with_reducible refine gCMP ?_); first
    | with_reducible refine CMP_eq ?_
    | with_reducible refine CMP_ne ?_
    | with_reducible refine CMP_lt ?_
    | with_reducible refine CMP_le ?_
    | with_reducible refine CMP_gt ?_
    | with_reducible refine CMP_ge ?_
    | with_reducible refine CMP_isNone ?_
    | with_reducible refine CMP_isNotNone ?_
    | with_reducible refine CMP_eqS ?_
    | with_reducible refine CMP_neB ?_
    | with_reducible refine CMP_eqT ?_
    | with_reducible refine CMP_inS ?_)
  | ((with_reducible refine gO1 ?_); first
    | with_reducible refine O1_neg ?_
    | with_reducible refine O1_not ?_)
  | ((with_reducible refine gFNn ?_); walk_at "sp")
  | ((with_reducible refine gFN ?_); first
    | with_reducible refine FN_abs ?_
    | with_reducible refine FN_str ?_ ?_
    | with_reducible refine FN_int ?_ ?_
    | with_reducible refine FN_lenT ?_ ?_
    | with_reducible refine FN_lenS ?_ ?_
    | with_reducible refine FN_lenL ?_ ?_)
  | ((with_reducible refine gEX ?_); first
    | with_reducible refine EX_return ?_
    | walk_at "if"
    | with_reducible refine EX_nil ?_
    | ((with_reducible refine' EX_assign ?_ ?hx ?hs); (case hx => first | exact .inl rfl | exact .inr ⟨rfl, _, rfl⟩); (case hs => exact rfl))
    | with_reducible refine EX_continue ?_
    | ((with_reducible refine' EX_swap2 ?hx ?hy ?_ ?hw ?hs); (case hw => exact rfl); (case hs => exact rfl); (case hx => first | exact .inl rfl | exact .inr ⟨rfl, _, rfl⟩); (case hy => first | exact .inl rfl | exact .inr ⟨rfl, _, rfl⟩))
    | ((with_reducible refine' EX_swap3 ?hx ?hy ?hz ?_ ?hw ?hs); (case hw => exact rfl); (case hs => exact rfl); (case hx => first | exact .inl rfl | exact .inr ⟨rfl, _, rfl⟩); (case hy => first | exact .inl rfl | exact .inr ⟨rfl, _, rfl⟩); (case hz => first | exact .inl rfl | exact .inr ⟨rfl, _, rfl⟩))
    | ((with_reducible refine' EX_assignT ?_ ?hs ?hw); (case hs => exact rfl); (case hw => exact rfl))
    | walk_at "xs")
  | ((with_reducible refine' AS_tuple ?hlen ?hstar ?_); (case hlen => exact rfl); (case hstar => exact rfl))
  | ((with_reducible refine' ASs_cons ?hl ?_); (case hl => exact rfl))
  | ((with_reducible refine' ASs_nil ?_ ?ht); (case ht => exact rfl))
  | ((with_reducible refine gEB ?_); first
    | ((with_reducible refine' EB_cmp ?_ ?hm); (case hm => with_unfolding_all rfl))
    | with_reducible refine EB_not ?_
    | ((with_reducible refine' EB_cmp2 ?_ ?hm); (case hm => with_unfolding_all rfl))
    | with_reducible refine EB_if ?_
    | with_reducible refine TB_and ?_
    | with_reducible refine TB_or ?_
    | ((with_reducible refine' EB_plain ?_ ?he); (case he => with_unfolding_all rfl))
    | walk_at "xb")
  | with_reducible refine OB_int ?_
  | with_reducible refine OB_bool ?_
  | with_reducible refine OB_none ?_
  | ((with_reducible refine gTB ?_); first
    | with_reducible refine TB_and ?_
    | with_reducible refine TB_or ?_
    | with_reducible refine TB_and_nil ?_
    | with_reducible refine TB_or_nil ?_)
  | ((with_reducible refine' AS_name ?_ ?hx); (case hx => first | exact .inl rfl | exact .inr ⟨rfl, _, rfl⟩))
  | (with_reducible refine And.intro (Nat.le_of_ble_eq_true rfl) ?_)
  | with_reducible exact True.intro
  | with_reducible refine SQn ?_
  | with_reducible refine SQr ?_
  | with_reducible refine SQc ?_
  | with_reducible refine TUr ?_
  | with_reducible refine RTr ?_
  | with_reducible refine BR (fun _ => ?_) (fun _ => ?_)
  | with_reducible refine BRt ?_
  | with_reducible refine BRf ?_
  | with_reducible refine BRn (fun _ => ?_) (fun _ => ?_)
  | with_reducible refine BRnt ?_
  | with_reducible refine BRnf ?_
  | with_reducible refine BRnone ?_
  | with_reducible refine BRtup ?_
  | with_reducible refine BRnone' ?_
  | with_reducible refine BRtup' ?_
  | with_reducible refine BRg (fun _ => ?_) (fun _ => ?_)
  | with_reducible refine exT ?_
  | with_reducible refine exI ?_
  | with_reducible refine exS ?_
  | with_reducible refine exL ?_
  | with_reducible refine exT2 ?_
  | with_reducible refine exT3 ?_
  | exact (Nat.le_of_ble_eq_true rfl)
  | fail "no step")
section
section
variable {c : Cx} {n : Nat} {P : D → Prop}
theorem neg_s (F : Facts c) {a b : Int} (hn : 1 ≤ n) (h : P (.tup [.int (-a), .int b])) : FNn c n (S' "neg") [.tup [.int a, .int b]] P := by
  refine FNn_at 0 hn fun m hm => FNn_intro (F.fn 12 _ _ _ _ _ _ _ _ _ _ rfl) (by decide) rfl (by walk_at "bind") (by decide) ?_
  intro mu L a' cd
  repeat' walk_at "ev"
  exact h
theorem gcd_of_s (F : Facts c) {a b : Int} (hn : 1 ≤ n) (h : P (.int (Int.gcd a b : Int))) : FNn c n (S' "gcd_of") [.int a, .int b] P := by
  refine FNn_at 0 hn fun m hm => FNn_intro (F.fn 6 _ _ _ _ _ _ _ _ _ _ rfl) (by decide) rfl (by walk_at "bind") (by decide) ?_
  intro mu L a' cd
  repeat' walk_at "ev"
  refine EX_while (ρ₀ := [(S' "a", .new, .int a.natAbs), (S' "b", .new, .int b.natAbs)]) (fun k ρ => ∃ a' b' : Int, ρ = [(S' "a", .new, .int a'), (S' "b", .new, .int b')] ∧ k = b'.natAbs ∧ 0 ≤ a' ∧ 0 ≤ b' ∧ Int.gcd a' b' = Int.gcd a b) b.natAbs ⟨_, _, rfl, by omega, by omega, by omega, ?_⟩ (by walk_at "sub") ?_
  · simp [Int.gcd]
  · rintro k ρ ⟨x, y, rfl, rfl, hx, hy, hg⟩
    repeat' walk_at "ev"
    · rename_i q; exact q
    · rename_i q
      have := gcd_step x y q hx hy
      exact ⟨_, [(S' "a", .new, .int y), (S' "b", .new, .int (x.fmod y))], this.1, by walk_at "sub", _, _, rfl, rfl, hy, this.2.1, by rw [this.2.2, hg]⟩
    · rename_i q
      have : y = 0 := by omega
      subst this
      rw [Int.gcd_zero_right] at hg
      show P (.int x)
      rw [show x = ((Int.gcd a b : Nat) : Int) by rw [← hg]; omega]
      exact h
def cmpI (l r : Int) : Int := b2i (decide (r < l)) - b2i (decide (l < r))
theorem sign_of_s (F : Facts c) {a b : Int} (hn : 1 ≤ n) (h : P (.int (cmpI a 0))) : FNn c n (S' "sign_of") [.tup [.int a, .int b]] P := by
  refine FNn_at 0 hn fun m hm => FNn_intro (F.fn 16 _ _ _ _ _ _ _ _ _ _ rfl) (by decide) rfl (by walk_at "bind") (by decide) ?_
  intro mu L a' cd
  repeat' walk_at "ev"
  exact h
theorem whole_s (F : Facts c) {a : Int} (hn : 1 ≤ n) (h : P (.tup [.int a, .int 1])) : FNn c n (S' "whole") [.int a] P := by
  refine FNn_at 0 hn fun m hm => FNn_intro (F.fn 10 _ _ _ _ _ _ _ _ _ _ rfl) (by decide) rfl (by walk_at "bind") (by decide) ?_
  intro mu L a' cd
  repeat' walk_at "ev"
  exact h
theorem is_whole_s (F : Facts c) {a b : Int} (hn : 1 ≤ n) (h : P (.bool (decide (b = 1)))) : FNn c n (S' "is_whole") [.tup [.int a, .int b]] P := by
  refine FNn_at 0 hn fun m hm => FNn_intro (F.fn 20 _ _ _ _ _ _ _ _ _ _ rfl) (by decide) rfl (by walk_at "bind") (by decide) ?_
  intro mu L a' cd
  repeat' walk_at "ev"
  exact h
theorem compare_s (F : Facts c) {a b a' b' : Int} (hn : 1 ≤ n) (hs : Sz 400 a ∧ Sz 400 b ∧ Sz 400 a' ∧ Sz 400 b') (h : P (.int (cmpI (a * b') (a' * b)))) : FNn c n (S' "compare") [.tup [.int a, .int b], .tup [.int a', .int b']] P := by
  refine FNn_at 0 hn fun m hm => FNn_intro (F.fn 17 _ _ _ _ _ _ _ _ _ _ rfl) (by decide) rfl (by walk_at "bind") (by decide) ?_
  intro mu L a' cd
  have h1 := hs.1.mono (k := 4000) (by decide)
  have h2 := hs.2.1.mono (k := 4000) (by decide)
  have h3 := hs.2.2.1.mono (k := 4000) (by decide)
  have h4 := hs.2.2.2.mono (k := 4000) (by decide)
  repeat' walk_at "ev"
  · exact ⟨h1, h4⟩
  · exact ⟨h3, h2⟩
  · exact h
theorem floor_of_s (F : Facts c) {a b : Int} (hn : 1 ≤ n) (hs : Sz 400 b) (hb : b ≠ 0) (h : P (.int (a.fdiv b))) : FNn c n (S' "floor_of") [.tup [.int a, .int b]] P := by
  refine FNn_at 0 hn fun m hm => FNn_intro (F.fn 18 _ _ _ _ _ _ _ _ _ _ rfl) (by decide) rfl (by walk_at "bind") (by decide) ?_
  intro mu L a' cd
  repeat' walk_at "ev"
  · exact hs.mono (by decide)
  · exact hb
  · exact h
theorem ceil_of_s (F : Facts c) {a b : Int} (hn : 1 ≤ n) (hs : Sz 400 b) (hb : b ≠ 0) (h : P (.int (-((-a).fdiv b)))) : FNn c n (S' "ceil_of") [.tup [.int a, .int b]] P := by
  refine FNn_at 0 hn fun m hm => FNn_intro (F.fn 19 _ _ _ _ _ _ _ _ _ _ rfl) (by decide) rfl (by walk_at "bind") (by decide) ?_
  intro mu L a' cd
  repeat' walk_at "ev"
  · exact hs.mono (by decide)
  · exact hb
  · exact h
end
end
local macro_rules | `(tactic| walk_at "sp") => `(tactic| first
  | with_reducible refine gcd_of_s (by assumption) (by omega) ?_
  | with_reducible refine neg_s (by assumption) (by omega) ?_
  | with_reducible refine sign_of_s (by assumption) (by omega) ?_
  | with_reducible refine whole_s (by assumption) (by omega) ?_
  | with_reducible refine is_whole_s (by assumption) (by omega) ?_
  | with_reducible refine compare_s (by assumption) (by omega) ?_ ?_
  | with_reducible refine floor_of_s (by assumption) (by omega) ?_ ?_ ?_
  | with_reducible refine ceil_of_s (by assumption) (by omega) ?_ ?_ ?_
  | fail "no summary")
section
theorem Sz.sm {k : Nat} {x : Int} (h : Sz k x) (hk : k ≤ 4000 := by decide) : Sm x := Nat.lt_of_lt_of_le h (Nat.pow_le_pow_right (by decide) hk)
theorem Sz.gcd {k : Nat} {t b : Int} (h : Sz k b) (hb : b ≠ 0) : Sz k (Int.gcd t b : Int) := h.le (by
  have := Int.gcd_dvd_right (a := t) (b := b)
  have h2 : Int.gcd t b ∣ b.natAbs := Nat.gcd_dvd_right _ _
  exact Nat.le_of_dvd (by omega) h2)
theorem gcd_ne {t b : Int} (hb : b ≠ 0) : (Int.gcd t b : Int) ≠ 0 := by
  have : 0 < Int.gcd t b := Int.gcd_pos_of_ne_zero_right t hb
  omega
abbrev dR (p : Int × Int) : D := .tup [.int p.1, .int p.2]
section
variable {c : Cx} {n : Nat} {P : D → Prop}
theorem ratio_s (F : Facts c) {t b : Int} (hn : 2 ≤ n) (hb : b ≠ 0) (hs : Sz 3900 b) (h : P (dR (redF t b))) : FNn c n (S' "ratio") [.int t, .int b] P := by
  refine FNn_at 1 hn fun m hm => FNn_intro (F.fn 9 _ _ _ _ _ _ _ _ _ _ rfl) (by decide) rfl (by walk_at "bind") (by decide) ?_
  intro mu L a' cd
  repeat' walk_at "ev"
  all_goals first | (exfalso; exact hb (by assumption)) | exact (hs.gcd hb).sm | exact (hs.gcd hb).neg.sm | exact gcd_ne hb | exact Int.neg_ne_zero.mpr (gcd_ne hb) | skip
  · rename_i q
    simp only [redF, sgnG, if_pos q] at h; exact h
  · rename_i q
    simp only [redF, sgnG, if_neg q] at h; exact h
theorem lcm_of_s (F : Facts c) {a b : Int} (hn : 2 ≤ n) (hb : b ≠ 0) (ha : Sz 1900 a) (hs : Sz 1900 b) (h : P (.int ((a.natAbs : Int).fdiv (Int.gcd a b) * b.natAbs))) : FNn c n (S' "lcm_of") [.int a, .int b] P := by
  refine FNn_at 1 hn fun m hm => FNn_intro (F.fn 8 _ _ _ _ _ _ _ _ _ _ rfl) (by decide) rfl (by walk_at "bind") (by decide) ?_
  intro mu L a' cd
  repeat' walk_at "ev"
  · exact (hs.gcd hb).sm
  · exact gcd_ne hb
  · refine ⟨Sz.sm (k := 1900) ?_, Sz.sm (k := 1900) (hs.le (by simp))⟩
    refine ha.le ?_
    rw [Int.fdiv_eq_ediv_of_nonneg _ (by omega), ← Int.natCast_ediv]
    simp only [Int.natAbs_natCast]
    exact Nat.div_le_self _ _
  · exact h
end
end
local macro_rules | `(tactic| walk_at "sp") => `(tactic| first
  | with_reducible refine ratio_s (by assumption) (by omega) ?_ ?_ ?_
  | with_reducible refine lcm_of_s (by assumption) (by omega) ?_ ?_ ?_ ?_
  | fail "no summary")
section
section
variable {c : Cx} {n : Nat} {P : D → Prop}
def Sz2 (k : Nat) (p : Int × Int) : Prop := Sz k p.1 ∧ Sz k p.2
theorem add_s (F : Facts c) {a b a' b' : Int} (hn : 3 ≤ n) (hb : b ≠ 0 ∧ b' ≠ 0) (hs : Sz2 1000 (a, b) ∧ Sz2 1000 (a', b')) (h : P (dR (redF (a * b' + a' * b) (b * b')))) : FNn c n (S' "add") [.tup [.int a, .int b], .tup [.int a', .int b']] P := by
  refine FNn_at 2 hn fun m hm => FNn_intro (F.fn 11 _ _ _ _ _ _ _ _ _ _ rfl) (by decide) rfl (by walk_at "bind") (by decide) ?_
  intro mu L x cd
  obtain ⟨⟨h1, h2⟩, h3, h4⟩ := hs
  repeat' walk_at "ev"
  all_goals first | exact ⟨h1.sm, h4.sm⟩ | exact ⟨h3.sm, h2.sm⟩ | exact ⟨h2.sm, h4.sm⟩ | exact Int.mul_ne_zero hb.1 hb.2 | exact (h2.mul h4).mono (by decide) | exact h | skip
  rename_i q1 q2
  subst q2
  obtain rfl := q1
  simpa [redF_one] using h
end
end
local macro_rules | `(tactic| walk_at "sp") => `(tactic| first
  | with_reducible refine add_s (by assumption) (by omega) ?_ ?_ ?_
  | fail "no summary")
section
section
variable {c : Cx} {n : Nat} {P : D → Prop}
theorem sub_s (F : Facts c) {a b a' b' : Int} (hn : 4 ≤ n) (hb : b ≠ 0 ∧ b' ≠ 0) (hs : Sz2 1000 (a, b) ∧ Sz2 1000 (a', b')) (h : P (dR (redF (a * b' + -a' * b) (b * b')))) : FNn c n (S' "sub") [.tup [.int a, .int b], .tup [.int a', .int b']] P := by
  refine FNn_at 3 hn fun m hm => FNn_intro (F.fn 13 _ _ _ _ _ _ _ _ _ _ rfl) (by decide) rfl (by walk_at "bind") (by decide) ?_
  intro mu L x cd
  repeat' walk_at "ev"
  · exact hb
  · exact ⟨hs.1, hs.2.1.neg, hs.2.2⟩
  · exact h
theorem mul_s (F : Facts c) {a b a' b' : Int} (hn : 3 ≤ n) (hb : b ≠ 0 ∧ b' ≠ 0) (hs : Sz2 1000 (a, b) ∧ Sz2 1000 (a', b')) (h : P (dR (redF (a * a') (b * b')))) : FNn c n (S' "mul") [.tup [.int a, .int b], .tup [.int a', .int b']] P := by
  refine FNn_at 2 hn fun m hm => FNn_intro (F.fn 14 _ _ _ _ _ _ _ _ _ _ rfl) (by decide) rfl (by walk_at "bind") (by decide) ?_
  intro mu L x cd
  obtain ⟨⟨h1, h2⟩, h3, h4⟩ := hs
  repeat' walk_at "ev"
  all_goals first | exact ⟨h1.sm, h3.sm⟩ | exact ⟨h2.sm, h4.sm⟩ | exact Int.mul_ne_zero hb.1 hb.2 | exact (h2.mul h4).mono (by decide) | exact h | skip
  rename_i q1 q2
  subst q2
  obtain rfl := q1
  simpa [redF_one] using h
theorem div_s (F : Facts c) {a b a' b' : Int} (hn : 3 ≤ n) (hb : b ≠ 0 ∧ a' ≠ 0) (hs : Sz2 1000 (a, b) ∧ Sz2 1000 (a', b')) (h : P (dR (redF (a * b') (b * a')))) : FNn c n (S' "div") [.tup [.int a, .int b], .tup [.int a', .int b']] P := by
  refine FNn_at 2 hn fun m hm => FNn_intro (F.fn 15 _ _ _ _ _ _ _ _ _ _ rfl) (by decide) rfl (by walk_at "bind") (by decide) ?_
  intro mu L x cd
  obtain ⟨⟨h1, h2⟩, h3, h4⟩ := hs
  repeat' walk_at "ev"
  all_goals first | exact ⟨h1.sm, h4.sm⟩ | exact ⟨h2.sm, h3.sm⟩ | exact Int.mul_ne_zero hb.1 hb.2 | exact (h2.mul h3).mono (by decide) | exact h | (exfalso; exact hb.2 (by assumption))
theorem gcd_all_s (F : Facts c) {l : List Int} (hn : 2 ≤ n) (h : P (.int (l.foldl (fun g x => (Int.gcd g x : Int)) 0))) : FNn c n (S' "gcd_all") [.lst (l.map .int)] P := by
  refine FNn_at 1 hn fun m hm => FNn_intro (F.fn 7 _ _ _ _ _ _ _ _ _ _ rfl) (by decide) rfl (by walk_at "bind") (by decide) ?_
  intro mu L x cd
  repeat' walk_at "ev"
  refine EX_forM l D.int (fun pre ρ => ρ = [(S' "found", .new, .int (pre.foldl (fun g x => (Int.gcd g x : Int)) 0))]) ?_ (fun pre y post ρ hl hI => ?_) (fun ρ hI => ?_)
  · repeat' walk_at "ev"
    exact ⟨Itb.lst, _, by walk_at "sub", rfl⟩
  · subst hI
    repeat' walk_at "ev"
    · rename_i q
      have e : l.foldl (fun g x => (Int.gcd g x : Int)) 0 = 1 := by
        rw [hl, List.foldl_append, List.foldl_cons, q]
        clear hl h
        induction post with
        | nil => rfl
        | cons z r ih => rw [List.foldl_cons]; simpa using ih
      rw [e] at h; exact h
    · exact ⟨[(S' "found", .new, .int ((Int.gcd (pre.foldl (fun g x => (Int.gcd g x : Int)) 0) y : Nat) : Int))], by walk_at "sub", by simp⟩
  · subst hI
    repeat' walk_at "ev"
    exact h
end
end
local macro_rules | `(tactic| walk_at "sp") => `(tactic| first
  | with_reducible refine sub_s (by assumption) (by omega) ?_ ?_ ?_
  | with_reducible refine mul_s (by assumption) (by omega) ?_ ?_ ?_
  | with_reducible refine div_s (by assumption) (by omega) ?_ ?_ ?_
  | with_reducible refine gcd_all_s (by assumption) (by omega) ?_
  | fail "no summary")
section
abbrev dD (x : (Int × Int) × (Int × Int)) : D := .tup [dR x.1, dR x.2]
def addF (p q : Int × Int) : Int × Int := redF (p.1 * q.2 + q.1 * p.2) (p.2 * q.2)
def subF (p q : Int × Int) : Int × Int := redF (p.1 * q.2 + -q.1 * p.2) (p.2 * q.2)
def mulF (p q : Int × Int) : Int × Int := redF (p.1 * q.1) (p.2 * q.2)
def divF (p q : Int × Int) : Int × Int := redF (p.1 * q.2) (p.2 * q.1)
def cmpR (p q : Int × Int) : Int := cmpI (p.1 * q.2) (q.1 * p.2)
/-- a good pair: a bottom, and small -/
def Ok (k : Nat) (p : Int × Int) : Prop := p.2 ≠ 0 ∧ Sz2 k p
def OkD (k : Nat) (x : (Int × Int) × (Int × Int)) : Prop := Ok k x.1 ∧ Ok k x.2
theorem Ok.mono {j k : Nat} {p : Int × Int} (h : Ok j p) (hjk : j ≤ k) : Ok k p := ⟨h.1, h.2.1.mono hjk, h.2.2.mono hjk⟩
theorem Ok.red {k : Nat} {t b : Int} (hb : b ≠ 0) (h1 : Sz k t) (h2 : Sz k b) : Ok k (redF t b) :=
  have L := redF_low (t := t) hb
  ⟨by have := L.pos; omega, h1.le L.le1, h2.le L.le2⟩
theorem Ok.add {j k : Nat} {p q : Int × Int} (h : Ok j p) (h' : Ok k q) : Ok (j + k + 1) (addF p q) :=
  .red (Int.mul_ne_zero h.1 h'.1) ((h.2.1.mul h'.2.2).add (by have := h'.2.1.mul h.2.2; rwa [Nat.add_comm] at this)) ((h.2.2.mul h'.2.2).mono (by omega))
theorem Ok.sub {j k : Nat} {p q : Int × Int} (h : Ok j p) (h' : Ok k q) : Ok (j + k + 1) (subF p q) :=
  .red (Int.mul_ne_zero h.1 h'.1) ((h.2.1.mul h'.2.2).add (by have := h'.2.1.neg.mul h.2.2; rwa [Nat.add_comm] at this)) ((h.2.2.mul h'.2.2).mono (by omega))
theorem Ok.mul {j k : Nat} {p q : Int × Int} (h : Ok j p) (h' : Ok k q) : Ok (j + k) (mulF p q) :=
  .red (Int.mul_ne_zero h.1 h'.1) (h.2.1.mul h'.2.1) (h.2.2.mul h'.2.2)
theorem Ok.div {j k : Nat} {p q : Int × Int} (h : Ok j p) (h' : Ok k q) (h0 : q.1 ≠ 0) : Ok (j + k) (divF p q) :=
  .red (Int.mul_ne_zero h.1 h0) (h.2.1.mul h'.2.2) (h.2.2.mul h'.2.1)
section
variable {c : Cx} {n : Nat} {P : D → Prop}
theorem d_add_s (F : Facts c) {x y : (Int × Int) × (Int × Int)} (hn : 4 ≤ n) (hx : OkD 1000 x) (hy : OkD 1000 y) (h : P (dD (addF x.1 y.1, addF x.2 y.2))) : FNn c n (S' "d_add") [dD x, dD y] P := by
  refine FNn_at 3 hn fun m hm => FNn_intro (F.fn 29 _ _ _ _ _ _ _ _ _ _ rfl) (by decide) rfl (by walk_at "bind") (by decide) ?_
  intro mu L a' cd
  repeat' walk_at "ev"
  all_goals first | exact ⟨hx.1.1, hy.1.1⟩ | exact ⟨hx.2.1, hy.2.1⟩ | exact ⟨hx.1.2, hy.1.2⟩ | exact ⟨hx.2.2, hy.2.2⟩ | exact h
theorem d_sub_s (F : Facts c) {x y : (Int × Int) × (Int × Int)} (hn : 5 ≤ n) (hx : OkD 1000 x) (hy : OkD 1000 y) (h : P (dD (subF x.1 y.1, subF x.2 y.2))) : FNn c n (S' "d_sub") [dD x, dD y] P := by
  refine FNn_at 4 hn fun m hm => FNn_intro (F.fn 30 _ _ _ _ _ _ _ _ _ _ rfl) (by decide) rfl (by walk_at "bind") (by decide) ?_
  intro mu L a' cd
  repeat' walk_at "ev"
  all_goals first | exact ⟨hx.1.1, hy.1.1⟩ | exact ⟨hx.2.1, hy.2.1⟩ | exact ⟨hx.1.2, hy.1.2⟩ | exact ⟨hx.2.2, hy.2.2⟩ | exact h
theorem d_scale_s (F : Facts c) {x : (Int × Int) × (Int × Int)} {r : Int × Int} (hn : 4 ≤ n) (hx : OkD 1000 x) (hr : Ok 1000 r) (h : P (dD (mulF x.1 r, mulF x.2 r))) : FNn c n (S' "d_scale") [dD x, dR r] P := by
  refine FNn_at 3 hn fun m hm => FNn_intro (F.fn 31 _ _ _ _ _ _ _ _ _ _ rfl) (by decide) rfl (by walk_at "bind") (by decide) ?_
  intro mu L a' cd
  repeat' walk_at "ev"
  all_goals first | exact ⟨hx.1.1, hr.1⟩ | exact ⟨hx.2.1, hr.1⟩ | exact ⟨hx.1.2, hr.2⟩ | exact ⟨hx.2.2, hr.2⟩ | exact h
theorem d_at_s (F : Facts c) {x : (Int × Int) × (Int × Int)} {r1 r2 : Int} (hn : 4 ≤ n) (h1 : Ok 1000 x.1) (h2 : Ok 500 x.2) (hr : Ok 500 (r1, r2)) (h : P (dR (addF x.1 (mulF x.2 (r1, r2))))) : FNn c n (S' "d_at") [dD x, .tup [.int r1, .int r2]] P := by
  refine FNn_at 3 hn fun m hm => FNn_intro (F.fn 33 _ _ _ _ _ _ _ _ _ _ rfl) (by decide) rfl (by walk_at "bind") (by decide) ?_
  intro mu L a' cd
  have hm := h2.mul hr
  repeat' walk_at "ev"
  · exact ⟨h2.1, hr.1⟩
  · exact ⟨(h2.mono (by decide)).2, (hr.mono (by decide)).2⟩
  · exact ⟨h1.1, hm.1⟩
  · exact ⟨h1.2, hm.2⟩
  · exact h
theorem d_compare_s (F : Facts c) {x y : (Int × Int) × (Int × Int)} (hn : 2 ≤ n) (hs : OkD 400 x ∧ OkD 400 y) (h : P (.int (if cmpR x.1 y.1 ≠ 0 then cmpR x.1 y.1 else cmpR x.2 y.2))) : FNn c n (S' "d_compare") [dD x, dD y] P := by
  refine FNn_at 1 hn fun m hm => FNn_intro (F.fn 32 _ _ _ _ _ _ _ _ _ _ rfl) (by decide) rfl (by walk_at "bind") (by decide) ?_
  intro mu L a' cd
  unfold cmpR at h
  repeat' walk_at "ev"
  · exact ⟨hs.1.1.2.1, hs.1.1.2.2, hs.2.1.2.1, hs.2.1.2.2⟩
  · rename_i q; rw [if_pos q] at h; exact h
  · exact ⟨hs.1.2.2.1, hs.1.2.2.2, hs.2.2.2.1, hs.2.2.2.2⟩
  · rename_i q; rw [if_neg q] at h; exact h
theorem d_make_s (F : Facts c) {r : Int × Int} (hn : 1 ≤ n) (h : P (dD (r, (0, 1)))) : FNn c n (S' "d_make") [dR r] P := by
  refine FNn_at 0 hn fun m hm => FNn_intro (F.fn 26 _ _ _ _ _ _ _ _ _ _ rfl) (by decide) rfl (by walk_at "bind") (by decide) ?_
  intro mu L a' cd
  repeat' walk_at "ev"
  refine EV_glob (F.num "ZERO" 0 (by decide)) rfl ?_ ⟨rfl, rfl, rfl⟩ (by decide)
  repeat' walk_at "ev"
  exact h
theorem d_below_s (F : Facts c) {r : Int × Int} (hn : 1 ≤ n) (h : P (dD (r, (-1, 1)))) : FNn c n (S' "d_below") [dR r] P := by
  refine FNn_at 0 hn fun m hm => FNn_intro (F.fn 27 _ _ _ _ _ _ _ _ _ _ rfl) (by decide) rfl (by walk_at "bind") (by decide) ?_
  intro mu L a' cd
  repeat' walk_at "ev"
  refine EV_glob (F.num "MINUS_ONE" (-1) (by decide)) rfl ?_ ⟨rfl, rfl, rfl⟩ (by decide)
  repeat' walk_at "ev"
  exact h
theorem d_above_s (F : Facts c) {r : Int × Int} (hn : 1 ≤ n) (h : P (dD (r, (1, 1)))) : FNn c n (S' "d_above") [dR r] P := by
  refine FNn_at 0 hn fun m hm => FNn_intro (F.fn 28 _ _ _ _ _ _ _ _ _ _ rfl) (by decide) rfl (by walk_at "bind") (by decide) ?_
  intro mu L a' cd
  repeat' walk_at "ev"
  refine EV_glob (F.num "ONE" 1 (by decide)) rfl ?_ ⟨rfl, rfl, rfl⟩ (by decide)
  repeat' walk_at "ev"
  exact h
def sgnI (a b : Int) : Int := if a = b then 0 else if b < a then 1 else -1
theorem law_sign_s (F : Facts c) {a b : Int} (hn : 1 ≤ n) (h : P (.int (sgnI a b))) : FNn c n (S' "_law_sign") [.int a, .int b] P := by
  refine FNn_at 0 hn fun m hm => FNn_intro (F.fn 38 _ _ _ _ _ _ _ _ _ _ rfl) (by decide) rfl (by walk_at "bind") (by decide) ?_
  intro mu L a' cd
  unfold sgnI at h
  repeat' walk_at "ev"
  all_goals simp_all
end
end
local macro_rules | `(tactic| walk_at "sp") => `(tactic| first
  | with_reducible refine d_add_s (by assumption) (by omega) ?_ ?_ ?_
  | with_reducible refine d_sub_s (by assumption) (by omega) ?_ ?_ ?_
  | with_reducible refine d_scale_s (by assumption) (by omega) ?_ ?_ ?_
  | with_reducible refine d_at_s (by assumption) (by omega) ?_ ?_ ?_ ?_
  | with_reducible refine d_compare_s (by assumption) (by omega) ?_ ?_
  | with_reducible refine d_make_s (by assumption) (by omega) ?_
  | with_reducible refine d_below_s (by assumption) (by omega) ?_
  | with_reducible refine d_above_s (by assumption) (by omega) ?_
  | with_reducible refine law_sign_s (by assumption) (by omega) ?_
  | fail "no summary")
section
section
variable {c : Cx} {n : Nat} {P : D → Prop}
abbrev envC (x y t : Int) : Loc := [(S' "a", .new, .int x), (S' "b", .new, .int y), (S' "twos", .new, .int t)]
theorem law_common_s (F : Facts c) {a b : Int} (hn : 1 ≤ n) (hs : Sz 3900 a ∧ Sz 3900 b) (h : P (.int (Int.gcd a b : Int))) : FNn c n (S' "_law_common") [.int a, .int b] P := by
  refine FNn_at 0 hn fun m hm => FNn_intro (F.fn 37 _ _ _ _ _ _ _ _ _ _ rfl) (by decide) rfl (by walk_at "bind") (by decide) ?_
  intro mu L x cd
  repeat' walk_at "ev"
  · rename_i q
    have : a = 0 := by omega
    subst this
    rw [Int.gcd_zero_left] at h
    simpa using h
  · rename_i q1 q2
    have : b = 0 := by omega
    subst this
    rw [Int.gcd_zero_right] at h
    simpa using h
  rename_i q1 q2
  have smT : ∀ {x y t : Int}, Bin (Int.gcd a b) x y t → Sm t := fun hB => by
    have h1 := hB.t_le
    have h0 := hB.t0
    have h2 : (Int.gcd a b : Int) ≤ b.natAbs := by
      have h2 : Int.gcd a b ∣ b.natAbs := Nat.gcd_dvd_right _ _
      exact Int.ofNat_le.mpr (Nat.le_of_dvd (by omega) h2)
    exact (hs.2.le (a := _) (by omega)).sm
  refine EX_whileJ (ρ₀ := envC a.natAbs b.natAbs 1) (fun k ρ => ∃ x y t : Int, ρ = envC x y t ∧ k = x.natAbs ∧ Bin (Int.gcd a b) x y t ∧ 0 < y)
    (fun ρ => ∃ x y t : Int, ρ = envC x y t ∧ Bin (Int.gcd a b) x y t ∧ 0 < y ∧ (x % 2 = 1 ∨ y % 2 = 1))
    a.natAbs ⟨_, _, _, rfl, by omega, ⟨by omega, by omega, by omega, by simp [Int.gcd]⟩, by omega⟩ (by walk_at "sub") ?_ ?_
  · rintro k ρ ⟨x, y, t, rfl, rfl, hB, hy⟩
    have h2 : Sm 2 := Sz.sm (k := 10) (by exact Sz.dec (by decide))
    have ht := smT hB
    repeat' walk_at "ev"
    all_goals first | exact (by decide : (2 : Int) ≠ 0) | exact h2 | exact ⟨ht, h2⟩ | skip
    · rename_i q1 q2
      rw [fmod2] at q1 q2
      have := hB.both hy q1 q2
      exact ⟨(x.fdiv 2).natAbs, envC (x.fdiv 2) (y.fdiv 2) (t * 2), by rw [fdiv2]; have := hB.x0; omega, by walk_at "sub", _, _, _, rfl, rfl, by rw [fdiv2, fdiv2]; exact this.1, by rw [fdiv2]; exact this.2⟩
    · rename_i q1 q2
      rw [fmod2] at q1 q2
      exact ⟨_, _, _, rfl, hB, hy, by omega⟩
    · rename_i q1
      rw [fmod2] at q1
      exact ⟨_, _, _, rfl, hB, hy, by omega⟩
  rintro ρ ⟨x, y, t, rfl, hB, hy, ho⟩
  refine EX_whileJ (ρ₀ := envC x y t) (fun k ρ => ∃ x y t : Int, ρ = envC x y t ∧ k = x.natAbs ∧ Bin (Int.gcd a b) x y t ∧ (x % 2 = 1 ∨ y % 2 = 1))
    (fun ρ => ∃ x y t : Int, ρ = envC x y t ∧ Bin (Int.gcd a b) x y t ∧ x % 2 = 1)
    x.natAbs ⟨_, _, _, rfl, rfl, hB, ho⟩ (by walk_at "sub") ?_ ?_
  · rintro k ρ ⟨x, y, t, rfl, rfl, hB, ho⟩
    have h2 : Sm 2 := Sz.sm (k := 10) (by exact Sz.dec (by decide))
    repeat' walk_at "ev"
    all_goals first | exact (by decide : (2 : Int) ≠ 0) | exact h2 | skip
    · rename_i q1
      rw [fmod2] at q1
      have hy : y % 2 = 1 := by omega
      exact ⟨(x.fdiv 2).natAbs, envC (x.fdiv 2) y t, by rw [fdiv2]; have := hB.x0; omega, by walk_at "sub", _, _, _, rfl, rfl, by rw [fdiv2]; exact hB.left q1 hy, .inr hy⟩
    · rename_i q1
      rw [fmod2] at q1
      exact ⟨_, _, _, rfl, hB, by omega⟩
  rintro ρ ⟨x, y, t, rfl, hB, ho⟩
  refine EX_whileJ (ρ₀ := envC x y t) (fun k ρ => ∃ x y t : Int, ρ = envC x y t ∧ k = (x + y).natAbs ∧ Bin (Int.gcd a b) x y t ∧ x % 2 = 1)
    (fun ρ => ∃ x t : Int, ρ = envC x 0 t ∧ Bin (Int.gcd a b) x 0 t)
    (x + y).natAbs ⟨_, _, _, rfl, rfl, hB, ho⟩ (by walk_at "sub") ?_ ?_
  · rintro k ρ ⟨x, y, t, rfl, rfl, hB, ho⟩
    have h2 : Sm 2 := Sz.sm (k := 10) (by exact Sz.dec (by decide))
    repeat' walk_at "ev"
    · rename_i q
      refine EX_whileJ (ρ₀ := envC x y t) (fun k ρ => ∃ z : Int, ρ = envC x z t ∧ k = z.natAbs ∧ Bin (Int.gcd a b) x z t ∧ 0 < z ∧ z ≤ y)
        (fun ρ => ∃ z : Int, ρ = envC x z t ∧ Bin (Int.gcd a b) x z t ∧ 0 < z ∧ z ≤ y ∧ z % 2 = 1)
        y.natAbs ⟨_, rfl, rfl, hB, by have := hB.y0; omega, by omega⟩ (by walk_at "sub") ?_ ?_
      · rintro k ρ ⟨z, rfl, rfl, hB, hz, hzy⟩
        repeat' walk_at "ev"
        all_goals first | exact (by decide : (2 : Int) ≠ 0) | exact h2 | skip
        · rename_i q1
          rw [fmod2] at q1
          exact ⟨(z.fdiv 2).natAbs, envC x (z.fdiv 2) t, by rw [fdiv2]; omega, by walk_at "sub", _, rfl, rfl, by rw [fdiv2]; exact hB.right ho q1, by rw [fdiv2]; omega, by rw [fdiv2]; omega⟩
        · rename_i q1
          rw [fmod2] at q1
          exact ⟨_, rfl, hB, hz, hzy, by omega⟩
      · rintro ρ ⟨z, rfl, hB', hz, hzy, hzo⟩
        repeat' walk_at "ev"
        · rename_i q2
          exact ⟨(z + (x - z)).natAbs, envC z (x - z) t, by have := hB.x0; omega, by walk_at "sub", _, _, _, rfl, rfl, (hB'.swap hz).minus (by omega), hzo⟩
        · rename_i q2
          exact ⟨(x + (z - x)).natAbs, envC x (z - x) t, by have := hB.x0; omega, by walk_at "sub", _, _, _, rfl, rfl, hB'.minus (by omega), ho⟩
    · rename_i q
      have : y = 0 := by omega
      subst this
      exact ⟨_, _, rfl, hB⟩
  rintro ρ ⟨x, t, rfl, hB⟩
  repeat' walk_at "ev"
  · refine ⟨?_, smT hB⟩
    have h1 := hB.fin
    have h2 : x ≤ Int.gcd a b := by
      rw [← h1]
      have := Int.mul_le_mul_of_nonneg_left (show (1 : Int) ≤ t by have := hB.t0; omega) (show 0 ≤ x by have := hB.x0; omega)
      omega
    have h3 : (Int.gcd a b : Int) ≤ b.natAbs := by
      have h2 : Int.gcd a b ∣ b.natAbs := Nat.gcd_dvd_right _ _
      exact Int.ofNat_le.mpr (Nat.le_of_dvd (by omega) h2)
    exact (hs.2.le (a := x) (by have := hB.x0; omega)).sm
  · rw [hB.fin]; exact h
end
end
local macro_rules | `(tactic| walk_at "sp") => `(tactic| first
  | with_reducible refine law_common_s (by assumption) (by omega) ?_ ?_
  | fail "no summary")
section
section
variable {c : Cx} {n : Nat} {P : D → Prop}
def isF (f : Int × Int) (t b : Int) : Bool := decide (1 ≤ f.2) && decide (f.1 * b = f.2 * t) && decide (Int.gcd f.1 f.2 = 1)
theorem law_is_s (F : Facts c) {x y t b : Int} (hn : 2 ≤ n) (hs : Sz2 1900 (x, y)) (ht : Sz 1900 t) (hb : Sz 1900 b) (h : P (.bool (isF (x, y) t b))) : FNn c n (S' "_law_is") [.tup [.int x, .int y], .int t, .int b] P := by
  refine FNn_at 1 hn fun m hm => FNn_intro (F.fn 39 _ _ _ _ _ _ _ _ _ _ rfl) (by decide) rfl (by walk_at "bind") (by decide) ?_
  intro mu L a' cd
  repeat' walk_at "ev"
  all_goals first | exact ⟨hs.1.sm, hb.sm⟩ | exact ⟨hs.2.sm, ht.sm⟩ | exact ⟨hs.1.mono (by decide), hs.2.mono (by decide)⟩ | skip
  · rename_i q; exact absurd rfl q
  · rename_i q1 q2
    have e : isF (x, y) t b = false := by unfold isF; simp [show ¬ 1 ≤ y by omega]
    rw [e] at h; exact h
  · rename_i q1 q2 q3
    have e : isF (x, y) t b = decide ((Int.gcd x y : Int) = 1) := by
      unfold isF; rw [decide_eq_true (show 1 ≤ (x, y).2 by show 1 ≤ y; omega), decide_eq_true (show (x, y).1 * b = (x, y).2 * t from q3)]
      simp; omega
    rw [e] at h; exact h
  · rename_i q1 q2 q3
    have e : isF (x, y) t b = false := by unfold isF; simp [show ¬ x * b = y * t from q3]
    rw [e] at h; simpa [q3] using h
theorem law_value_s (F : Facts c) {x : (Int × Int) × (Int × Int)} {r1 r2 : Int} (hn : 1 ≤ n) (hx : OkD 500 x) (hr : Ok 500 (r1, r2)) (h : P (dR (x.1.1 * x.2.2 * r2 + x.2.1 * r1 * x.1.2, x.1.2 * x.2.2 * r2))) : FNn c n (S' "_law_value") [dD x, .tup [.int r1, .int r2]] P := by
  refine FNn_at 0 hn fun m hm => FNn_intro (F.fn 45 _ _ _ _ _ _ _ _ _ _ rfl) (by decide) rfl (by walk_at "bind") (by decide) ?_
  intro mu L a' cd
  repeat' walk_at "ev"
  all_goals first | exact h | (obtain ⟨⟨_, _, _⟩, _, _, _⟩ := hx; obtain ⟨_, _, _⟩ := hr; walk_at "sm")
end
end
local macro_rules | `(tactic| walk_at "sp") => `(tactic| first
  | with_reducible refine law_is_s (by assumption) (by omega) ?_ ?_ ?_ ?_
  | with_reducible refine law_value_s (by assumption) (by omega) ?_ ?_ ?_
  | fail "no summary")
section
section
variable {c : Cx} {n : Nat} {P : D → Prop}
def valI (x : (Int × Int) × (Int × Int)) (r : Int × Int) : Int × Int := (x.1.1 * x.2.2 * r.2 + x.2.1 * r.1 * x.1.2, x.1.2 * x.2.2 * r.2)
theorem law_order_s (F : Facts c) {x y : (Int × Int) × (Int × Int)} {r1 r2 : Int} (hn : 2 ≤ n) (hs : OkD 500 x ∧ OkD 500 y) (hr : Ok 400 (r1, r2)) (h : P (.int (sgnI ((valI x (r1, r2)).1 * (valI y (r1, r2)).2) ((valI y (r1, r2)).1 * (valI x (r1, r2)).2)))) : FNn c n (S' "_law_order_at") [dD x, dD y, .tup [.int r1, .int r2]] P := by
  refine FNn_at 1 hn fun m hm => FNn_intro (F.fn 47 _ _ _ _ _ _ _ _ _ _ rfl) (by decide) rfl (by walk_at "bind") (by decide) ?_
  intro mu L a' cd
  unfold valI at h
  repeat' walk_at "ev"
  all_goals first | exact hs.1 | exact hs.2 | exact hr.mono (by decide) | exact h | (obtain ⟨⟨⟨_, _, _⟩, _, _, _⟩, ⟨_, _, _⟩, _, _, _⟩ := hs; obtain ⟨_, _, _⟩ := hr; walk_at "sm")
/-- a bound: side, strict, limit -/
abbrev dB (b : Int × Bool × (Int × Int)) : D := .tup [.int b.1, .bool b.2.1, dR b.2.2]
def liesI (p : Int × Int) (b : Int × Bool × (Int × Int)) : Int := sgnI (p.1 * b.2.2.2) (b.2.2.1 * p.2) * (if b.1 = 0 then 1 else -1)
def keepsB (p : Int × Int) (b : Int × Bool × (Int × Int)) : Bool := decide (0 < liesI p b) || (decide (liesI p b = 0) && !b.2.1)
theorem sgnI_sz (a b : Int) : Sz 64 (sgnI a b) := by
  unfold sgnI
  split
  · exact Sz.dec (by decide)
  · split <;> exact Sz.dec (by decide)
theorem sgnI_cases (a b : Int) : sgnI a b = 0 ∨ sgnI a b = 1 ∨ sgnI a b = -1 := by
  unfold sgnI
  split
  · exact .inl rfl
  · split
    · exact .inr (.inl rfl)
    · exact .inr (.inr rfl)
theorem law_keeps_s (F : Facts c) {p : Int × Int} {b : Int × Bool × (Int × Int)} (hn : 2 ≤ n) (hp : Ok 1000 p) (hb : Ok 1000 b.2.2) (h : P (.bool (keepsB p b))) : FNn c n (S' "_law_keeps") [dR p, dB b] P := by
  refine FNn_at 1 hn fun m hm => FNn_intro (F.fn 49 _ _ _ _ _ _ _ _ _ _ rfl) (by decide) rfl (by walk_at "bind") (by decide) ?_
  intro mu L a' cd
  have hz := sgnI_sz (p.1 * b.2.2.2) (b.2.2.1 * p.2)
  unfold keepsB liesI at h
  repeat' walk_at "ev"
  all_goals first | (obtain ⟨_, _, _⟩ := hp; obtain ⟨_, _, _⟩ := hb; walk_at "sm") | (simp_all; done) | (have hc := sgnI_cases (p.1 * b.2.2.2) (b.2.2.1 * p.2); clear hz; generalize sgnI (p.1 * b.2.2.2) (b.2.2.1 * p.2) = s at *; rcases hc with rfl | rfl | rfl <;> simp_all)
def deltaI (b : Int × Bool × (Int × Int)) : (Int × Int) × (Int × Int) := (b.2.2, if b.2.1 = false then (0, 1) else if b.1 = 0 then (1, 1) else (-1, 1))
theorem law_delta_s (F : Facts c) {b : Int × Bool × (Int × Int)} (hn : 2 ≤ n) (h : P (dD (deltaI b))) : FNn c n (S' "_law_delta") [dB b] P := by
  refine FNn_at 1 hn fun m hm => FNn_intro (F.fn 51 _ _ _ _ _ _ _ _ _ _ rfl) (by decide) rfl (by walk_at "bind") (by decide) ?_
  intro mu L a' cd
  unfold deltaI at h
  repeat' walk_at "ev"
  all_goals simp_all
end
end
local macro_rules | `(tactic| walk_at "sp") => `(tactic| first
  | with_reducible refine law_order_s (by assumption) (by omega) ?_ ?_ ?_
  | with_reducible refine law_keeps_s (by assumption) (by omega) ?_ ?_ ?_
  | with_reducible refine law_delta_s (by assumption) (by omega) ?_
  | fail "no summary")
section
def dO : Option (Int × Int) → D
  | none => .none
  | some p => dR p
def roomI (x y : (Int × Int) × (Int × Int)) : Option (Int × Int) :=
  if 0 < cmpI (subF y.1 x.1).1 0 ∧ 0 < cmpI (subF x.2 y.2).1 0 then some (divF (subF y.1 x.1) (subF x.2 y.2)) else none
theorem Ok.to {j k : Nat} {p : Int × Int} (h : Ok j p) (hk : j ≤ k) : Ok k p := h.mono hk
theorem Ok.sz2 {j k : Nat} {p : Int × Int} (h : Ok j p) (hk : j ≤ k) : Sz2 k (p.1, p.2) := (h.mono hk).2
theorem OkD.to {k : Nat} {x : (Int × Int) × (Int × Int)} (h1 : Ok k x.1) (h2 : Ok k x.2) : OkD k x := ⟨h1, h2⟩
theorem cmpI_pos {a b : Int} : 0 < cmpI a b ↔ b < a := by
  unfold cmpI
  by_cases h1 : b < a <;> by_cases h2 : a < b <;> simp [h1, h2, b2i] <;> omega
theorem cmpI_neg {a b : Int} : cmpI a b < 0 ↔ a < b := by
  unfold cmpI
  by_cases h1 : b < a <;> by_cases h2 : a < b <;> simp [h1, h2, b2i] <;> omega
theorem cmpI_zero {a b : Int} : cmpI a b = 0 ↔ a = b := by
  unfold cmpI
  by_cases h1 : b < a <;> by_cases h2 : a < b <;> simp [h1, h2, b2i] <;> omega
theorem cmpI_eq (a b : Int) : cmpI a b = sgnI a b := by
  unfold cmpI sgnI
  by_cases h1 : b < a <;> by_cases h2 : a < b <;> simp [h1, h2, b2i] <;> (try split) <;> (try omega)
end
local macro_rules | `(tactic| walk_at "ok1") => `(tactic| (repeat (first | assumption | with_reducible apply Ok.add | with_reducible apply Ok.sub | with_reducible apply Ok.mul)))
local macro_rules | `(tactic| walk_at "ok") => `(tactic| first
  | (refine' Ok.to ?h ?hk; (case h => walk_at "ok1"); (case hk => decide))
  | (refine' Ok.sz2 ?h ?hk; (case h => walk_at "ok1"); (case hk => decide))
  | (refine OkD.to ?_ ?_ <;> (refine' Ok.to ?h ?hk; (case h => walk_at "ok1"); (case hk => decide)))
  | fail "no size")
section
section
variable {c : Cx} {n : Nat} {P : D → Prop}
theorem d_room_s (F : Facts c) {x y : (Int × Int) × (Int × Int)} (hn : 5 ≤ n) (hs : OkD 400 x ∧ OkD 400 y) (h : P (dO (roomI x y))) : FNn c n (S' "d_room") [dD x, dD y] P := by
  refine FNn_at 4 hn fun m hm => FNn_intro (F.fn 34 _ _ _ _ _ _ _ _ _ _ rfl) (by decide) rfl (by walk_at "bind") (by decide) ?_
  intro mu L a' cd
  obtain ⟨hx, hy⟩ := hs
  have g1 : Ok 801 (subF y.1 x.1) := hy.1.sub hx.1
  have g2 : Ok 801 (subF x.2 y.2) := hx.2.sub hy.2
  unfold roomI divF at h
  unfold subF at h g1 g2
  repeat' walk_at "ev"
  · exact ⟨hy.1.1, hx.1.1⟩
  · exact ⟨(hy.1.mono (by decide)).2, (hx.1.mono (by decide)).2⟩
  · exact ⟨hx.2.1, hy.2.1⟩
  · exact ⟨(hx.2.mono (by decide)).2, (hy.2.mono (by decide)).2⟩
  · rename_i q1 q2; rw [cmpI_pos] at q2; exact ⟨g1.1, by omega⟩
  · exact ⟨(g1.mono (by decide)).2, (g2.mono (by decide)).2⟩
  · rename_i q1 q2; rw [if_pos ⟨q1, q2⟩] at h; exact h
  · rename_i q1 q2; rw [if_neg (fun z => q2 z.2)] at h; exact h
  · rename_i q1; rw [if_neg (fun z => q1 z.1)] at h; exact h
theorem law_sums_s (F : Facts c) {x y : (Int × Int) × (Int × Int)} {r : Int × Int} (hn : 8 ≤ n) (hs : OkD 200 x ∧ OkD 200 y) (hr : Ok 200 r) 
    (hall : ∀ s : Int × Int, s = (0, 1) ∨ s = (1, 1) →
      isF (addF (addF x.1 y.1) (mulF (addF x.2 y.2) s)) ((valI x s).1 * (valI y s).2 + (valI y s).1 * (valI x s).2) ((valI x s).2 * (valI y s).2) = true ∧
      isF (addF (subF x.1 y.1) (mulF (subF x.2 y.2) s)) ((valI x s).1 * (valI y s).2 - (valI y s).1 * (valI x s).2) ((valI x s).2 * (valI y s).2) = true ∧
      isF (addF (mulF x.1 r) (mulF (mulF x.2 r) s)) ((valI x s).1 * r.1) ((valI x s).2 * r.2) = true)
    (h : P (.bool true)) : FNn c n (S' "_law_sums_right") [dD x, dD y, dR r] P := by
  refine FNn_at 7 hn fun m hm => FNn_intro (F.fn 46 _ _ _ _ _ _ _ _ _ _ rfl) (by decide) rfl (by walk_at "bind") (by decide) ?_
  intro mu L a' cd
  refine EX_forM [((0 : Int), (1 : Int)), (1, 1)] (fun p => dR p) (fun _ ρ => ρ = [(S' "one", .old, dD x), (S' "other", .old, dD y), (S' "times", .old, dR r)]) ?_ (fun pre z post ρ hl hI => ?_) (fun ρ hI => ?_)
  · repeat' walk_at "ev"
    exact ⟨Itb.tup, _, by walk_at "sub", rfl⟩
  · subst hI
    have hz : z = (0, 1) ∨ z = (1, 1) := by
      have : z ∈ [((0 : Int), (1 : Int)), (1, 1)] := by rw [hl]; simp
      simpa using this
    have hzo : Ok 1 z := by rcases hz with rfl | rfl <;> exact ⟨by decide, by exact Sz.dec (by decide), by exact Sz.dec (by decide)⟩
    obtain ⟨i1, i2, i3⟩ := hall z hz
    obtain ⟨⟨hx1, hx2⟩, hy1, hy2⟩ := hs
    have hx1' := hx1; have hx2' := hx2; have hy1' := hy1; have hy2' := hy2; have hr' := hr; have hz' := hzo
    obtain ⟨_, _, _⟩ := hx1'; obtain ⟨_, _, _⟩ := hx2'; obtain ⟨_, _, _⟩ := hy1'; obtain ⟨_, _, _⟩ := hy2'; obtain ⟨_, _, _⟩ := hr'; obtain ⟨_, _, _⟩ := hz'
    repeat' walk_at "ev"
    all_goals first | walk_at "ok" | walk_at "sm" | skip
    · rename_i q; exact absurd ((congrArg not i1).symm.trans q) (by simp)
    · rename_i q; exact absurd ((congrArg not i2).symm.trans q) (by simp)
    · rename_i q; exact absurd ((congrArg not i3).symm.trans q) (by simp)
    · exact ⟨[(S' "one", .old, dD x), (S' "other", .old, dD y), (S' "times", .old, dR r)], by walk_at "sub", rfl⟩
  · subst hI
    repeat' walk_at "ev"
    exact h
end
end
local macro_rules | `(tactic| walk_at "sp") => `(tactic| first
  | with_reducible refine law_sums_s (by assumption) (by omega) ?_ ?_ ?_
  | fail "no summary")
section
def ordI (x y : (Int × Int) × (Int × Int)) (r : Int × Int) : Int := sgnI ((valI x r).1 * (valI y r).2) ((valI y r).1 * (valI x r).2)
def RoomOk (x y : (Int × Int) × (Int × Int)) : Prop :=
  match roomI x y with
  | none => ordI x y (10 ^ 12, 1) ≤ 0
  | some p => isF p p.1 p.2 = true ∧ 1 ≤ p.1 ∧ ordI x y p = 0 ∧ ordI x y (p.1, 2 * p.2) < 0 ∧ 0 < ordI x y (2 * p.1, p.2)
theorem roomI_ok {x y : (Int × Int) × (Int × Int)} {p : Int × Int} (hx : OkD 40 x) (hy : OkD 40 y) (h : roomI x y = some p) : Ok 162 p := by
  unfold roomI at h
  split at h
  · rename_i q
    cases h
    have q2 := q.2
    rw [cmpI_pos] at q2
    exact ((hy.1.sub hx.1).div (hx.2.sub hy.2) (by omega)).mono (by decide)
  · cases h
section
variable {c : Cx} {n : Nat} {P : D → Prop}
theorem law_room_s (F : Facts c) {x y : (Int × Int) × (Int × Int)} (hn : 6 ≤ n) (hs : OkD 40 x ∧ OkD 40 y) (hR : RoomOk x y) (h : P (.bool true)) : FNn c n (S' "_law_room_right") [dD x, dD y] P := by
  refine FNn_at 5 hn fun m hm => FNn_intro (F.fn 48 _ _ _ _ _ _ _ _ _ _ rfl) (by decide) rfl (by walk_at "bind") (by decide) ?_
  intro mu L a' cd
  obtain ⟨hx, hy⟩ := hs
  have hx5 : OkD 500 x := ⟨hx.1.mono (by decide), hx.2.mono (by decide)⟩
  have hy5 : OkD 500 y := ⟨hy.1.mono (by decide), hy.2.mono (by decide)⟩
  have hx4 : OkD 400 x := ⟨hx.1.mono (by decide), hx.2.mono (by decide)⟩
  have hy4 : OkD 400 y := ⟨hy.1.mono (by decide), hy.2.mono (by decide)⟩
  unfold RoomOk at hR
  have hp := @roomI_ok x y
  cases hr : roomI x y with
  | none =>
    rw [hr] at hR
    dsimp only at hR
    unfold ordI at hR
    repeat' walk_at "ev"
    refine d_room_s F (by omega) ⟨hx4, hy4⟩ ?_
    rw [hr]
    simp only [dO]
    repeat' walk_at "ev"
    · exact ⟨hx5, hy5⟩
    · exact ⟨by decide, by exact Sz.dec (by decide), by exact Sz.dec (by decide)⟩
    · have e : (10 : Int) ^ Int.toNat 12 = 10 ^ 12 := rfl
      rw [e, decide_eq_true (show _ ≤ _ from hR)]; exact h
  | some p =>
    rw [hr] at hR
    have hp := hp hx hy hr
    obtain ⟨i1, i2, i3, i4, i5⟩ := hR
    have hp' := hp
    obtain ⟨_, hpa, hpb⟩ := hp'
    have pp : 0 < p.2 := by
      unfold isF at i1
      simp only [Bool.and_eq_true, decide_eq_true_eq] at i1
      omega
    unfold ordI at i3 i4 i5
    have hh : Ok 400 (p.1, 2 * p.2) := ⟨by show 2 * p.2 ≠ 0; omega, hpa.mono (by decide), by walk_at "sz"⟩
    have ht : Ok 400 (2 * p.1, p.2) := ⟨by show p.2 ≠ 0; omega, by walk_at "sz", hpb.mono (by decide)⟩
    repeat' walk_at "ev"
    refine d_room_s F (by omega) ⟨hx4, hy4⟩ ?_
    rw [hr]
    simp only [dO]
    repeat' walk_at "ev"
    all_goals first | exact ⟨hx5, hy5⟩ | walk_at "ok" | walk_at "sm" | (rename_i q; exact absurd ((congrArg not i1).symm.trans q) (by simp)) | (exfalso; omega) | exact hh | exact ht | skip
    · rename_i q; exact absurd i3 q
    · rw [decide_eq_true i5]; exact h
end
end
local macro_rules | `(tactic| walk_at "sp") => `(tactic| first
  | with_reducible refine law_room_s (by assumption) (by omega) ?_ ?_ ?_
  | fail "no summary")
section
theorem range_take {α : Type} (l : List α) : ∀ n : Nat, (List.range n).filterMap (fun k => l[k]?) = l.take n
  | 0 => rfl
  | n + 1 => by
    rw [List.range_succ, List.filterMap_append, range_take l n, List.take_add_one]
    cases e : l[n]? <;> simp [e]
theorem range_pick {α : Type} (l : List α) (a b : Nat) : (sliceRange a b 1).filterMap (fun k => l[k]?) = (l.drop a).take (b - a) := by
  have e : sliceRange a b 1 = (List.range (b - a)).map fun k => a + k := by
    unfold sliceRange
    dsimp only
    rw [if_pos (by decide)]
    have : (if (a : Int) < b then ((b : Int) - a + 1 - 1) / 1 else 0).toNat = b - a := by split <;> omega
    rw [this]
    refine List.map_congr_left fun k _ => ?_
    omega
  rw [e, List.filterMap_map, ← range_take (l.drop a) (b - a)]
  refine congrArg (fun f => List.filterMap f (List.range (b - a))) (funext fun k => ?_)
  simp [List.getElem?_drop]
theorem pick_nat {ds : List D} {lo hi : Option Int} {a b : Nat} (e : sliceBounds lo hi none ds.length = ((a : Int), (b : Int), 1)) : pick ds lo hi = (ds.drop a).take (b - a) := by
  unfold pick
  rw [e]
  exact range_pick ds a b
theorem pick_upto (ds : List D) (k : Nat) : pick ds none (some (k : Int)) = ds.take k := by
  rw [pick_nat (a := 0) (b := min k ds.length) (by unfold sliceBounds; simp; omega)]
  simp [List.take_eq_take_iff]
theorem pick_from (ds : List D) (k : Nat) : pick ds (some (k : Int)) none = ds.drop k := by
  rw [pick_nat (a := min k ds.length) (b := ds.length) (by unfold sliceBounds; simp; omega)]
  rw [List.take_of_length_le (by simp)]
  by_cases h : k ≤ ds.length
  · rw [Nat.min_eq_left h]
  · rw [Nat.min_eq_right (by omega), List.drop_of_length_le (by omega), List.drop_of_length_le (by omega)]
theorem pick_mid (ds : List D) (j k : Nat) (h : j ≤ ds.length ∧ k ≤ ds.length) : pick ds (some (j : Int)) (some (k : Int)) = (ds.drop j).take (k - j) := by
  rw [pick_nat (a := j) (b := k) (by unfold sliceBounds; simp; omega)]
end
section
def lcmI (a b : Int) : Int := (a.natAbs : Int).fdiv (Int.gcd a b) * b.natAbs
def lcmL (l : List (Int × Int)) : Int := l.foldl (fun f p => lcmI f p.2) 1
section
variable {c : Cx} {n : Nat} {P : D → Prop}
theorem common_bottom_s (F : Facts c) {l : List (Int × Int)} (hn : 3 ≤ n) (hs : (∀ p ∈ l, Ok 1000 p) ∧ ∀ pre post, l = pre ++ post → Sz 1900 (lcmL pre)) (h : P (.int (lcmL l))) : FNn c n (S' "common_bottom") [.lst (l.map fun p => dR p)] P := by
  refine FNn_at 2 hn fun m hm => FNn_intro (F.fn 21 _ _ _ _ _ _ _ _ _ _ rfl) (by decide) rfl (by walk_at "bind") (by decide) ?_
  intro mu L a' cd
  repeat' walk_at "ev"
  refine EX_forM l (fun p => dR p) (fun pre ρ => ρ = [(S' "found", .new, .int (lcmL pre))]) ?_ (fun pre z post ρ hl hI => ?_) (fun ρ hI => ?_)
  · repeat' walk_at "ev"
    exact ⟨Itb.lst, _, by walk_at "sub", rfl⟩
  · subst hI
    have hz := hs.1 z (by rw [hl]; simp)
    repeat' walk_at "ev"
    · exact hz.1
    · exact hs.2 pre _ hl
    · exact (hz.mono (k := 1000) (by decide)).2.2.mono (by decide)
    · exact ⟨[(S' "found", .new, .int (lcmL (pre ++ [z])))], by simp only [lcmL, List.foldl_append, List.foldl_cons, List.foldl_nil, lcmI]; walk_at "sub", rfl⟩
  · subst hI
    repeat' walk_at "ev"
    exact h
end
end
local macro_rules | `(tactic| walk_at "sp") => `(tactic| first
  | with_reducible refine common_bottom_s (by assumption) (by omega) ?_ ?_
  | fail "no summary")
section
section
local macro_rules | `(tactic| walk_at "if") => `(tactic| with_reducible refine EX_guard True ?_ (fun _ => ?_))
variable {c : Cx} {n : Nat} {P : D → Prop}
def DivOk (a b : Int) (l : List Int) : Prop :=
  ((a ≠ 0 ∧ b ≠ 0) → (lcmI a b) * (Int.gcd a b : Int) = ((a * b).natAbs : Int)) ∧ Int.gcd b (0 - a) = Int.gcd a b ∧ ([a, 0, b, a].foldl (fun g x => (Int.gcd g x : Int)) 0) = Int.gcd a b ∧
  1 ≤ lcmL (l.map fun b => redF 1 b) ∧ (∀ x ∈ l, (lcmL (l.map fun b => redF 1 b)).fmod x = 0) ∧
  ∀ p : Int, 1 < p → (lcmL (l.map fun b => redF 1 b)).fmod p = 0 → ¬ ∀ x ∈ l, ((lcmL (l.map fun b => redF 1 b)).fdiv p).fmod x = 0
theorem law_div_s (F : Facts c) {a b : Int} {l : List Int} (hn : 6 ≤ n) (hs : Sz 30 a ∧ Sz 30 b) (hl : ∀ x ∈ l, x ≠ 0 ∧ Sz 30 x) (hlen : l.length ≤ 1000) (hpre : ∀ pre post, (l.map fun b => redF 1 b) = pre ++ post → Sz 1000 (lcmL pre)) (hD : DivOk a b l)
    (h : P (.bool true)) : FNn c n (S' "_law_divisors_right") [.int a, .int b, .lst (l.map .int)] P := by
  refine FNn_at 5 hn fun m hm => FNn_intro (F.fn 53 _ _ _ _ _ _ _ _ _ _ rfl) (by decide) rfl (by walk_at "bind") (by decide) ?_
  intro mu L a' cd
  obtain ⟨d1, d2, d3, d4, d5, d6⟩ := hD
  generalize hL : lcmL (l.map fun b => redF 1 b) = LL at d4 d5 d6
  have hs' : Sz 3900 a ∧ Sz 3900 b := ⟨hs.1.mono (by decide), hs.2.mono (by decide)⟩
  have ha := hs.1
  have hb := hs.2
  have sg : b ≠ 0 → Sz 1900 ((a.natAbs : Int).fdiv (Int.gcd a b) * b.natAbs) ∧ Sz 1900 (Int.gcd a b : Int) := fun q => by
    refine ⟨Sz.mono (k := 1900) (j := 60) (Sz.mul (j := 30) (k := 30) (ha.le ?_) (hb.le (by simp))) (by decide), (hb.gcd q).mono (by decide)⟩
    rw [Int.fdiv_eq_ediv_of_nonneg _ (by omega), ← Int.natCast_ediv]
    simp only [Int.natAbs_natCast]
    exact Nat.div_le_self _ _
  repeat' walk_at "ev"
  · exact hs'
  · rename_i q; exact absurd rfl q
  · rename_i q; rw [d2] at q; exact absurd rfl q
  refine gcd_all_s F (l := [a, 0, b, a]) (by omega) ?_
  rw [d3]
  repeat' walk_at "ev"
  · rename_i q; exact absurd rfl q
  refine gcd_all_s F (l := []) (by omega) ?_
  simp only [List.foldl_nil]
  repeat' walk_at "ev"
  all_goals first | (rename_i q; exact absurd rfl q) | (rename_i q; exact q) | exact ha.mono (k := 1900) (by decide) | exact hb.mono (k := 1900) (by decide) | exact ⟨((sg (by assumption)).1).sm, ((sg (by assumption)).2).sm⟩ | exact ⟨ha.sm, hb.sm⟩ | (rename_i q1 q2 q3; exact absurd (d1 ⟨q1, q2⟩) q3) | skip
  refine EV_comp l D.int (fun b => dR (redF 1 b)) (fun _ => true) (ρc := []) (cl := []) rfl Cap.nil (by decide) rfl (by decide) (by decide) (by omega) ?_ ?_
  rotate_left
  · intro C y hy
    refine ⟨rfl, fun _ => ⟨?_, rfl⟩⟩
    repeat' walk_at "ev"
    · exact (hl y hy).1
    · exact (hl y hy).2.mono (by decide)
    · rfl
  repeat' walk_at "ev"
  refine ⟨Itb.lst, ?_⟩
  rw [filtT, show l.map (fun b => dR (redF 1 b)) = (l.map fun b => redF 1 b).map (fun p => dR p) by simp]
  repeat' walk_at "ev"
  · refine ⟨fun p hp => ?_, fun pre post e => (hpre pre post e).mono (by decide)⟩
    obtain ⟨y, hy, rfl⟩ := List.mem_map.mp hp
    exact (Ok.red (k := 30) (hl y hy).1 (by exact Sz.dec (by decide)) (hl y hy).2).mono (by decide)
  all_goals rw [hL] at *
  · rename_i q; omega
  refine EV_comp l D.int (fun x => .bool (decide (LL.fmod x = 0))) (fun _ => true) (ρc := [(S' "least", .old, .int LL)]) (cl := _) rfl (by walk_at "cap") (by decide) rfl (by decide) (by decide) (by omega) ?_ ?_
  rotate_left
  · intro C y hy
    refine ⟨rfl, fun _ => ⟨?_, rfl⟩⟩
    repeat' walk_at "ev"
    · exact (hl y hy).1
    · rfl
  repeat' walk_at "ev"
  rotate_left
  · refine ⟨Itb.lst, ?_⟩
    rw [filtT]
    repeat' walk_at "ev"
    refine FN_all (Bools.map _ l) ?_
    have e : (l.map fun x => decide (LL.fmod x = 0)).all id = true := by
      rw [List.all_eq_true]
      intro z hz
      obtain ⟨y, hy, rfl⟩ := List.mem_map.mp hz
      simpa using d5 y hy
    rw [e]
    repeat' walk_at "ev"
  refine EX_forM [(2 : Int), 3, 5, 7, 11, 13, 17, 19, 23] D.int (fun _ ρ => ρ = [(S' "least", .new, .int LL), (S' "bottoms", .old, .lst (l.map D.int))]) ?_ (fun pre pr post ρ hl' hI => ?_) (fun ρ hI => ?_)
  · repeat' walk_at "ev"
    exact ⟨Itb.tup, _, by walk_at "sub", rfl⟩
  · subst hI
    have hpr : 1 < pr := by
      have : pr ∈ [(2 : Int), 3, 5, 7, 11, 13, 17, 19, 23] := by rw [hl']; simp
      simp only [List.mem_cons, List.not_mem_nil, or_false] at this
      omega
    have hprs : Sz 64 pr := by
      have : pr ∈ [(2 : Int), 3, 5, 7, 11, 13, 17, 19, 23] := by rw [hl']; simp
      simp only [List.mem_cons, List.not_mem_nil, or_false] at this
      rcases this with rfl | rfl | rfl | rfl | rfl | rfl | rfl | rfl | rfl <;> exact Sz.dec (by decide)
    repeat' walk_at "ev"
    · omega
    refine EV_comp l D.int (fun x => .bool (decide ((LL.fdiv pr).fmod x = 0))) (fun _ => true) (ρc := [(S' "least", .old, .int LL), (S' "prime", .old, .int pr)]) (cl := _) rfl (by walk_at "cap") (by decide) rfl (by decide) (by decide) (by omega) ?_ ?_
    · repeat' walk_at "ev"
      refine ⟨Itb.lst, ?_⟩
      rw [filtT]
      repeat' walk_at "ev"
      refine FN_all (Bools.map _ l) ?_
      have e : LL.fmod pr = 0 → (l.map fun x => decide ((LL.fdiv pr).fmod x = 0)).all id = false := fun q => by
        cases hq : (l.map fun x => decide ((LL.fdiv pr).fmod x = 0)).all id with
        | false => rfl
        | true =>
          exfalso
          refine d6 pr hpr q fun x hx => ?_
          rw [List.all_eq_true] at hq
          simpa using hq _ (List.mem_map_of_mem hx)
      rw [e (by assumption)]
      repeat' walk_at "ev"
    · intro C y hy
      refine ⟨rfl, fun _ => ⟨?_, rfl⟩⟩
      repeat' walk_at "ev"
      · exact hprs.sm
      · omega
      · exact (hl y hy).1
      · rfl
    · exact ⟨[(S' "least", .new, .int LL), (S' "bottoms", .old, .lst (l.map D.int))], by walk_at "sub", rfl⟩
  · subst hI
    repeat' walk_at "ev"
    refine common_bottom_s F (l := []) (by omega) ⟨by simp, fun pre post e => ?_⟩ ?_
    · cases pre with
      | nil => exact Sz.dec (by decide)
      | cons x r => simp at e
    · repeat' walk_at "ev"
      exact h
end
end
section
section
variable {c : Cx} {n : Nat} {P : D → Prop}
theorem flats_ints (q : List Int) : flats (q.map D.int) = true := by
  induction q with
  | nil => rfl
  | cons x r ih => rw [List.map_cons]; unfold flats; rw [ih]; rfl
theorem law_drawn_s (F : Facts c) {l : List Int} (hn : 1 ≤ n) (hlen : l.length ≤ 1000) (h : ∀ q : List Int, q.length = 27 → P (.lst (q.map .int))) : FNn c n (S' "_law_drawn") [.lst (l.map .int), .int 27] P := by
  refine FNn_at 0 hn fun m hm => FNn_introT (F.fn 36 _ _ _ _ _ _ _ _ _ _ rfl) (by decide) rfl (by walk_at "bind") (by decide) ?_
  intro L a' cd
  refine EX_ownCopy (F.typ "list" (by decide)).1 (F.typ "list" (by decide)).2 rfl ?_ (.inl rfl) ⟨rfl, rfl, rfl⟩
  refine EV_sliceL ?_
  repeat' walk_at "ev"
  refine EVo_none (EVo_some ?_)
  repeat' walk_at "ev"
  refine ⟨by simp; omega, ?_⟩
  rw [show (27 : Int) = ((27 : Nat) : Int) from rfl, pick_upto, ← List.map_take]
  refine ⟨_, rfl, by simp; omega, ?_⟩
  refine EX_whileJ (ρ₀ := [(S' "found", .own, .lst ((l.take 27).map .int)), (S' "many", .old, .int 27)]) (fun k ρ => ∃ q : List Int, ρ = [(S' "found", .own, .lst (q.map .int)), (S' "many", .old, .int 27)] ∧ k = 27 - q.length ∧ q.length ≤ 27)
    (fun ρ => ∃ q : List Int, ρ = [(S' "found", .own, .lst (q.map .int)), (S' "many", .old, .int 27)] ∧ q.length = 27) _ ⟨_, rfl, rfl, by simp; omega⟩ (by walk_at "sub") ?_ ?_
  · rintro k ρ ⟨q, rfl, rfl, hq⟩
    repeat' walk_at "ev"
    · simp; omega
    · rename_i qq
      rw [List.length_map] at qq
      refine EX_append rfl (flats_ints q) (by simp; omega) ?_
      repeat' walk_at "ev"
      · simp; omega
      · exact ⟨Sz.sm (k := 64) (Nat.lt_of_le_of_lt (m := 27) (by simp; omega) (by decide)), Sz.sm (k := 64) (by exact Sz.dec (by decide))⟩
      · refine ⟨rfl, [(S' "many", .old, .int 27)], Kept.of (List.forall_mem_cons.mpr ⟨⟨rfl, rfl, .inl rfl⟩, List.forall_mem_nil _⟩), ?_⟩
        repeat' walk_at "ev"
        refine ⟨27 - (q ++ [((q.map D.int).length : Int) * 97 + 31]).length, [(S' "found", .own, .lst ((q ++ [((q.map D.int).length : Int) * 97 + 31]).map .int)), (S' "many", .old, .int 27)], by simp; omega, by rw [List.map_append]; walk_at "sub", _, rfl, rfl, by simp; omega⟩
    · rename_i qq
      rw [List.length_map] at qq
      exact ⟨q, rfl, by omega⟩
  · rintro ρ ⟨q, rfl, hq⟩
    repeat' walk_at "ev"
    exact h q hq
end
end
section
theorem pow_sz (k : Nat) (hk : k ≤ 100) : Sz 400 ((10 : Int) ^ k) := by
  unfold Sz
  rw [Int.natAbs_pow]
  exact Nat.lt_of_le_of_lt (Nat.pow_le_pow_right (by decide) hk) (by decide)
theorem pow_ne (k : Nat) : (10 : Int) ^ k ≠ 0 := by
  have : (0 : Int) < 10 ^ k := Int.pow_pos (by decide)
  omega
section
variable {c : Cx} {n : Nat} {P : D → Prop}
theorem ratio_of_decimal_s (F : Facts c) {x y : Str} {i j : Int} (hn : 3 ≤ n) (hx : PySem.intText? x = some i ∧ x.length ≤ 100) (hy : PySem.intText? y = some j ∧ y.length ≤ 100) (hs : Sz 400 i ∧ Sz 400 j)
    (h : P (dR (redF (i * 10 ^ y.length + j) (10 ^ y.length)))) : FNn c n (S' "ratio_of_decimal") [.str x, .str y] P := by
  refine FNn_at 2 hn fun m hm => FNn_intro (F.fn 22 _ _ _ _ _ _ _ _ _ _ rfl) (by decide) rfl (by walk_at "bind") (by decide) ?_
  intro mu L a' cd
  have hp := pow_sz y.length hy.2
  repeat' walk_at "ev"
  · omega
  refine O2_pow ⟨by omega, by omega, by decide⟩ ?_
  rw [show ((y.length : Int)).toNat = y.length by simp]
  repeat' walk_at "ev"
  refine FN_int (k := i) ⟨hx.1, by omega⟩ ?_
  repeat' walk_at "ev"
  · obtain ⟨_, _⟩ := hs; walk_at "sm"
  refine FN_int (k := j) ⟨hy.1, by omega⟩ ?_
  repeat' walk_at "ev"
  · exact pow_ne _
  · exact hp.mono (by decide)
  · exact h
/-- what a word of the machine gives -/
def behindS (b : Int) : Str := Txt.mul (Str.ofString "0") ((b.natAbs : Int).fmod 3) ++ Str.ofString (toString (b.natAbs : Int))
def doneI (w : Int) (a b : Int × Int) (t m : Int) : Option (Int × Int) :=
  if w = 0 then (if m = 0 then none else some (redF t m))
  else if w = 1 then some (addF a b)
  else if w = 2 then some (subF a b)
  else if w = 3 then some (mulF a b)
  else if w = 4 then (if b.1 = 0 then none else some (divF a b))
  else if w = 5 then some (-a.1, a.2)
  else if w = 6 then some (t, 1)
  else some (redF ((t.natAbs : Int) * 10 ^ (behindS m).length + m.natAbs) (10 ^ (behindS m).length))
theorem ratio_raise (F : Facts c) {C N fI cc cda : Addr} {mN : Str → Option Value} {qual : Str} {doc pm ct : Value} (H : Smt c C N fI cc cda mN qual doc pm ct) {t : Int} (hn : 1 ≤ n) : FNr c C n (S' "ratio") [.int t, .int 0] := by
  obtain ⟨m, rfl⟩ : ∃ m, n = m + 1 := ⟨n - 1, by omega⟩
  refine FNr_intro (F.fn 9 _ _ _ _ _ _ _ _ _ _ rfl) (by decide) rfl (by walk_at "bind") (by decide) ?_
  intro L a' cd
  refine EXh_if ?_
  repeat' walk_at "ev"
  refine ⟨by decide, EXh_raise H rfl ⟨rfl, rfl, rfl⟩ ?_ rfl⟩
  repeat' walk_at "ev"
theorem div_raise (F : Facts c) {C N fI cc cda : Addr} {mN : Str → Option Value} {qual : Str} {doc pm ct : Value} (H : Smt c C N fI cc cda mN qual doc pm ct) {a b y : Int} (hn : 1 ≤ n) : FNr c C n (S' "div") [.tup [.int a, .int b], .tup [.int 0, .int y]] := by
  obtain ⟨m, rfl⟩ : ∃ m, n = m + 1 := ⟨n - 1, by omega⟩
  refine FNr_intro (F.fn 15 _ _ _ _ _ _ _ _ _ _ rfl) (by decide) rfl (by walk_at "bind") (by decide) ?_
  intro L a' cd
  refine EXh_if ?_
  repeat' walk_at "ev"
  refine ⟨by decide, EXh_raise H rfl ⟨rfl, rfl, rfl⟩ ?_ rfl⟩
  repeat' walk_at "ev"
end
end
local macro_rules | `(tactic| walk_at "sp") => `(tactic| first
  | with_reducible refine ratio_of_decimal_s (by assumption) (by omega) ?_ ?_ ?_ ?_
  | fail "no summary")
section
section
variable {c : Cx} {n : Nat} {P : D → Prop}
/-- what is asked of a text for the decimal word -/
def DecOk (t m : Int) : Prop :=
  (PySem.intText? (Str.ofString (toString (t.natAbs : Int))) = some (t.natAbs : Int) ∧ (Str.ofString (toString (t.natAbs : Int))).length ≤ 50) ∧
  (PySem.intText? (behindS m) = some (m.natAbs : Int) ∧ (behindS m).length ≤ 50)
theorem law_done_s (F : Facts c) {w t m : Int} {a b : Int × Int} (hn : 5 ≤ n) (hw : 0 ≤ w ∧ w < 8) (ha : Ok 400 a) (hb : Ok 400 b) (ht : Sz 40 t ∧ Sz 40 m) (hD : DecOk t m) (h : P (dO (doneI w a b t m))) :
    FNn c n (S' "_law_done") [.int w, dR a, dR b, .int t, .int m] P := by
  refine FNn_at 4 hn fun k hk => FNn_intro (F.fn 40 _ _ _ _ _ _ _ _ _ _ rfl) (by decide) rfl (by walk_at "bind") (by decide) ?_
  intro mu L a' cd
  obtain ⟨C, N, fI, cc, cda, mN, qual, doc, pm, ct, H⟩ := F.smt
  obtain ⟨ht1, hm1⟩ := ht
  have hw8 : w = 0 ∨ w = 1 ∨ w = 2 ∨ w = 3 ∨ w = 4 ∨ w = 5 ∨ w = 6 ∨ w = 7 := by omega
  by_cases hr : w = 0 ∧ m = 0
  · obtain ⟨rfl, rfl⟩ := hr
    refine EX_tryRaise H rfl ⟨rfl, rfl, rfl⟩ ?_ h
    refine EXf_if ?_
    repeat' walk_at "ev"
    · refine EXf_return (F.fn 9 _ _ _ _ _ _ _ _ _ _ rfl) rfl ?_ ⟨rfl, rfl, rfl⟩ rfl (by decide)
      repeat' walk_at "ev"
      exact ratio_raise F H (by omega)
    · exfalso; omega
  by_cases hr4 : w = 4 ∧ b.1 = 0
  · obtain ⟨rfl, hb0⟩ := hr4
    have h' : P .none := by simpa [doneI, hb0, dO] using h
    refine EX_tryRaise H rfl ⟨rfl, rfl, rfl⟩ ?_ h'
    refine EXf_if ?_
    repeat' walk_at "ev"
    · exfalso; omega
    refine EXf_if ?_
    repeat' walk_at "ev"
    · exfalso; omega
    refine EXf_if ?_
    repeat' walk_at "ev"
    · exfalso; omega
    refine EXf_if ?_
    repeat' walk_at "ev"
    · exfalso; omega
    refine EXf_if ?_
    repeat' walk_at "ev"
    · refine EXf_return (F.fn 15 _ _ _ _ _ _ _ _ _ _ rfl) rfl ?_ ⟨rfl, rfl, rfl⟩ rfl (by decide)
      repeat' walk_at "ev"
      show FNr c C k _ [dR a, .tup [.int b.1, .int b.2]]
      rw [hb0]
      exact div_raise F H (by omega)
    · exfalso; omega
  refine EX_tryOk ?_
  have hm' : w = 0 → m ≠ 0 := fun q z => hr ⟨q, z⟩
  have hb' : w = 4 → b.1 ≠ 0 := fun q z => hr4 ⟨q, z⟩
  have z2 : a.2 ≠ 0 ∧ b.2 ≠ 0 := ⟨ha.1, hb.1⟩
  have zs : Sz2 1000 (a.1, a.2) ∧ Sz2 1000 (b.1, b.2) := ⟨(ha.mono (by decide)).2, (hb.mono (by decide)).2⟩
  have hm39 : Sz 3900 m := hm1.mono (by decide)
  clear hr hr4 hw
  rcases hw8 with rfl | rfl | rfl | rfl | rfl | rfl | rfl | rfl
  · have e : doneI 0 a b t m = some (redF t m) := by unfold doneI; rw [if_pos rfl, if_neg (hm' rfl)]
    rw [e] at h
    repeat' walk_at "ev"
    all_goals first | (exfalso; omega) | exact hm' rfl | exact hm39 | exact h
  · have e : doneI 1 a b t m = some (addF a b) := rfl
    rw [e] at h
    repeat' walk_at "ev"
    all_goals first | (exfalso; omega) | exact z2 | exact zs | exact h
  · have e : doneI 2 a b t m = some (subF a b) := rfl
    rw [e] at h
    repeat' walk_at "ev"
    all_goals first | (exfalso; omega) | exact z2 | exact zs | exact h
  · have e : doneI 3 a b t m = some (mulF a b) := rfl
    rw [e] at h
    repeat' walk_at "ev"
    all_goals first | (exfalso; omega) | exact z2 | exact zs | exact h
  · have e : doneI 4 a b t m = some (divF a b) := by unfold doneI; rw [if_neg (by decide), if_neg (by decide), if_neg (by decide), if_neg (by decide), if_pos rfl, if_neg (hb' rfl)]
    rw [e] at h
    repeat' walk_at "ev"
    all_goals first | (exfalso; omega) | exact ⟨z2.1, hb' rfl⟩ | exact zs | exact h
  · have e : doneI 5 a b t m = some (-a.1, a.2) := rfl
    rw [e] at h
    repeat' walk_at "ev"
    all_goals first | (exfalso; omega) | exact h
  · have e : doneI 6 a b t m = some (t, 1) := rfl
    rw [e] at h
    repeat' walk_at "ev"
    all_goals first | (exfalso; omega) | exact h
  · have e : doneI 7 a b t m = some (redF ((t.natAbs : Int) * 10 ^ (behindS m).length + m.natAbs) (10 ^ (behindS m).length)) := rfl
    rw [e] at h
    repeat' walk_at "ev"
    all_goals first | (exfalso; omega) | skip
    · exact Nat.lt_of_lt_of_le (show _ < 2 ^ 40 from by simpa [Sz] using ht1) (Nat.pow_le_pow_right (by decide) (by decide))
    · decide
    · have h3 := Int.fmod_nonneg_of_pos (m.natAbs : Int) (show (0 : Int) < 3 by decide)
      have h4 := Int.fmod_lt_of_pos (m.natAbs : Int) (show (0 : Int) < 3 by decide)
      have h5 : (Str.ofString "0").length = 1 := by decide
      rw [h5]
      refine ⟨by omega, by omega, by omega, by omega⟩
    · exact Nat.lt_of_lt_of_le (show _ < 2 ^ 40 from by simpa [Sz] using hm1) (Nat.pow_le_pow_right (by decide) (by decide))
    · have h5 := hD.2.2
      unfold behindS at h5
      rw [← Str.length_append]
      omega
    · refine ratio_of_decimal_s F (by omega) ⟨hD.1.1, by have := hD.1.2; omega⟩ ⟨hD.2.1, Nat.le_trans (show (behindS m).length ≤ 50 from hD.2.2) (by decide)⟩ ⟨?_, ?_⟩ h
      · exact (ht1.le (a := (t.natAbs : Int)) (by simp)).mono (by decide)
      · exact (hm1.le (a := (m.natAbs : Int)) (by simp)).mono (by decide)
end
end
section
theorem BRlitT {p : Prop} [Decidable p] {X Y : Prop} (h : p) (h1 : X) : (decide p = true → X) ∧ (decide p = false → Y) := ⟨fun _ => h1, fun e => absurd h (of_decide_eq_false e)⟩
theorem BRlitF {p : Prop} [Decidable p] {X Y : Prop} (h : ¬p) (h1 : Y) : (decide p = true → X) ∧ (decide p = false → Y) := ⟨fun e => absurd (of_decide_eq_true e) h, fun _ => h1⟩
/-- the figures of a whole number -/
abbrev numS (k : Nat) : Str := Str.ofString (toString (k : Int))
def dueF (w : Int) (a b : Int × Int) (t m : Int) : Int × Int :=
  if w = 0 then (t, m)
  else if w = 1 then (a.1 * b.2 + b.1 * a.2, a.2 * b.2)
  else if w = 2 then (a.1 * b.2 - b.1 * a.2, a.2 * b.2)
  else if w = 3 then (a.1 * b.1, a.2 * b.2)
  else if w = 4 then (a.1 * b.2, a.2 * b.1)
  else if w = 5 then (0 - a.1, a.2)
  else if w = 6 then (t, 1)
  else ((t.natAbs : Int) * 10 ^ (behindS m).length + m.natAbs, 10 ^ (behindS m).length)
def turnI (f : Int × Int) : Option (Int × Int) := if f.2 = 0 then none else if 0 < f.2 then some f else some (0 - f.1, 0 - f.2)
def dueI (w : Int) (a b : Int × Int) (t m : Int) : Option (Int × Int) := turnI (dueF w a b t m)
theorem turn_none {f : Int × Int} (h : f.2 = 0) : turnI f = none := if_pos h
theorem turn_pos {f : Int × Int} (h : 0 < f.2) : turnI f = some f := by unfold turnI; rw [if_neg (by omega), if_pos h]
theorem turn_neg {f : Int × Int} (h : f.2 ≠ 0) (h' : ¬ 0 < f.2) : turnI f = some (0 - f.1, 0 - f.2) := by unfold turnI; rw [if_neg h, if_neg h']
end
local macro_rules | `(tactic| walk_at "ev") => `(tactic| first
  | with_reducible refine BRlitT (by decide) ?_
  | with_reducible refine BRlitF (by decide) ?_
  | fail "no literal")
section
section
variable {c : Cx} {n : Nat} {P : D → Prop}
theorem law_due_s (F : Facts c) {w t m : Int} {a b : Int × Int} (hn : 1 ≤ n) (hw : 0 ≤ w ∧ w < 8) (ha : Ok 400 a) (hb : Ok 400 b) (ht : Sz 40 t ∧ Sz 40 m) (hD : DecOk t m)
    (hC : PySem.intText? (numS t.natAbs ++ behindS m) = some ((t.natAbs : Int) * 10 ^ (behindS m).length + m.natAbs)) (h : P (dO (dueI w a b t m))) :
    FNn c n (S' "_law_due") [.int w, dR a, dR b, .int t, .int m] P := by
  refine FNn_at 0 hn fun k hk => FNn_intro (F.fn 41 _ _ _ _ _ _ _ _ _ _ rfl) (by decide) rfl (by walk_at "bind") (by decide) ?_
  intro mu L a' cd
  obtain ⟨ht1, hm1⟩ := ht
  have hw8 : w = 0 ∨ w = 1 ∨ w = 2 ∨ w = 3 ∨ w = 4 ∨ w = 5 ∨ w = 6 ∨ w = 7 := by omega
  obtain ⟨a1, a2⟩ := a
  obtain ⟨b1, b2⟩ := b
  obtain ⟨ha0, ha1, ha2⟩ := ha
  obtain ⟨hb0, hb1, hb2⟩ := hb
  dsimp only at ha1 ha2 hb1 hb2
  clear hw
  rcases hw8 with rfl | rfl | rfl | rfl | rfl | rfl | rfl | rfl
  · have e : dueI 0 (a1, a2) (b1, b2) t m = turnI (t, m) := rfl
    rw [e] at h
    repeat' walk_at "ev"
    all_goals first | (rename_i q; rw [turn_none (by exact q)] at h; exact h) | (rename_i q1 q2; first | (rw [turn_pos (by exact q2)] at h; exact h) | (rw [turn_neg (by exact q1) (by exact q2)] at h; exact h))
  · have e : dueI 1 (a1, a2) (b1, b2) t m = turnI (a1 * b2 + b1 * a2, a2 * b2) := rfl
    rw [e] at h
    repeat' walk_at "ev"
    all_goals first | walk_at "sm" | (rename_i q; rw [turn_none (by exact q)] at h; exact h) | (rename_i q1 q2; first | (rw [turn_pos (by exact q2)] at h; exact h) | (rw [turn_neg (by exact q1) (by exact q2)] at h; exact h))
  · have e : dueI 2 (a1, a2) (b1, b2) t m = turnI (a1 * b2 - b1 * a2, a2 * b2) := rfl
    rw [e] at h
    repeat' walk_at "ev"
    all_goals first | walk_at "sm" | (rename_i q; rw [turn_none (by exact q)] at h; exact h) | (rename_i q1 q2; first | (rw [turn_pos (by exact q2)] at h; exact h) | (rw [turn_neg (by exact q1) (by exact q2)] at h; exact h))
  · have e : dueI 3 (a1, a2) (b1, b2) t m = turnI (a1 * b1, a2 * b2) := rfl
    rw [e] at h
    repeat' walk_at "ev"
    all_goals first | walk_at "sm" | (rename_i q; rw [turn_none (by exact q)] at h; exact h) | (rename_i q1 q2; first | (rw [turn_pos (by exact q2)] at h; exact h) | (rw [turn_neg (by exact q1) (by exact q2)] at h; exact h))
  · have e : dueI 4 (a1, a2) (b1, b2) t m = turnI (a1 * b2, a2 * b1) := rfl
    rw [e] at h
    repeat' walk_at "ev"
    all_goals first | walk_at "sm" | (rename_i q; rw [turn_none (by exact q)] at h; exact h) | (rename_i q1 q2; first | (rw [turn_pos (by exact q2)] at h; exact h) | (rw [turn_neg (by exact q1) (by exact q2)] at h; exact h))
  · have e : dueI 5 (a1, a2) (b1, b2) t m = turnI (0 - a1, a2) := rfl
    rw [e] at h
    repeat' walk_at "ev"
    all_goals first | walk_at "sm" | (rename_i q; rw [turn_none (by exact q)] at h; exact h) | (rename_i q1 q2; first | (rw [turn_pos (by exact q2)] at h; exact h) | (rw [turn_neg (by exact q1) (by exact q2)] at h; exact h))
  · have e : dueI 6 (a1, a2) (b1, b2) t m = some (t, 1) := rfl
    rw [e] at h
    repeat' walk_at "ev"
    exact h
  · have e : dueI 7 (a1, a2) (b1, b2) t m = some ((t.natAbs : Int) * 10 ^ (behindS m).length + m.natAbs, 10 ^ (behindS m).length) := turn_pos (Int.pow_pos (by decide))
    rw [e] at h
    repeat' walk_at "ev"
    · decide
    · have h3 := Int.fmod_nonneg_of_pos (m.natAbs : Int) (show (0 : Int) < 3 by decide)
      have h4 := Int.fmod_lt_of_pos (m.natAbs : Int) (show (0 : Int) < 3 by decide)
      have h5 : (Str.ofString "0").length = 1 := by decide
      rw [h5]
      refine ⟨by omega, by omega, by omega, by omega⟩
    · exact Nat.lt_of_lt_of_le (show _ < 2 ^ 40 from by simpa [Sz] using hm1) (Nat.pow_le_pow_right (by decide) (by decide))
    · have h5 := hD.2.2
      unfold behindS at h5
      rw [← Str.length_append]
      omega
    · exact Nat.lt_of_lt_of_le (show _ < 2 ^ 40 from by simpa [Sz] using ht1) (Nat.pow_le_pow_right (by decide) (by decide))
    · have h5 := hD.2.2
      have h6 := hD.1.2
      show _ + (behindS m).length ≤ _
      omega
    refine FN_int (k := (t.natAbs : Int) * 10 ^ (behindS m).length + m.natAbs) ⟨hC, ?_⟩ ?_
    · have h5 := hD.2.2
      have h6 := hD.1.2
      rw [Str.length_append]
      show _ + (behindS m).length ≤ _
      omega
    repeat' walk_at "ev"
    · have h5 := hD.2.2
      show (behindS m).length ≤ _
      omega
    refine O2_pow ⟨by omega, ?_, by decide⟩ ?_
    · have h5 := hD.2.2
      show ((behindS m).length : Int) ≤ _
      omega
    have ep : ((10 : Int) ^ (((behindS m).length : Int)).toNat) = 10 ^ (behindS m).length := by rw [Int.toNat_natCast]
    repeat' walk_at "ev"
    all_goals (have hp : (0 : Int) < 10 ^ (behindS m).length := Int.pow_pos (by decide))
    · rename_i q; exact absurd (ep.symm.trans q) (by omega)
    · exact (congrArg (fun z => P (D.tup [.int _, .int z])) ep).mpr h
    · rename_i q; exact absurd (ep.symm ▸ hp) q
end
end
section
def signT (b : Bool) (x : Str) : Str := if b then Str.empty ++ S' "(- " ++ x ++ S' ")" else x
/-- the text of a ratio -/
def coreT (real : Bool) (x y : Int) : Str :=
  if real then (if y = 1 then Str.empty ++ numS x.natAbs ++ S' ".0" else Str.empty ++ S' "(/ " ++ numS x.natAbs ++ S' ".0 " ++ Str.ofString (toString y) ++ S' ".0)")
  else (if y = 1 then numS x.natAbs else Str.empty ++ S' "(/ " ++ numS x.natAbs ++ S' " " ++ Str.ofString (toString y) ++ S' ")")
def textT (real : Bool) (x y : Int) : Str := signT (decide (x < 0)) (coreT real x y)
theorem lenS {x : String} (k : Nat) (h : x.length ≤ k) : (Str.ofString x).length ≤ k := by
  rw [PySem.ofString_length]; exact h
theorem andLe {a b : Nat} {X : Prop} (h : a ≤ b) (k : X) : a ≤ b ∧ X := ⟨h, k⟩
theorem andLt {a b : Nat} {X : Prop} (h : a < b) (k : X) : a < b ∧ X := ⟨h, k⟩
theorem lenN {x : Int} (h0 : 0 ≤ x) (h : Sz 64 x) : (Str.ofString (toString x)).length ≤ 20 :=
  toString_length_le h0 (by decide) (by unfold Sz at h; omega)
theorem lenA {x : Int} (h : Sz 64 x) : (Str.ofString (toString (x.natAbs : Int))).length ≤ 20 := lenN (by omega) (h.le (by simp))
theorem lenE : Str.empty.length = 0 := rfl
section
local macro_rules | `(tactic| walk_at "jp") => `(tactic| first | with_reducible refine JP_cons ?_ | with_reducible refine JP_nil ?_ ?_ | with_reducible refine andLe ?_ ?_ | with_reducible refine andLt ?_ ?_ | with_reducible refine EV_joined ?_ | with_reducible refine EV_fmtI ?_ | walk_at "ev")
variable {c : Cx} {n : Nat} {P : D → Prop}
theorem signed_text_s (F : Facts c) {x : Str} {b : Bool} (hn : 1 ≤ n) (hx : x.length ≤ 1000) (h : P (.str (signT b x))) : FNn c n (S' "signed_text") [.str x, .bool b] P := by
  refine FNn_at 0 hn fun m hm => FNn_intro (F.fn 23 _ _ _ _ _ _ _ _ _ _ rfl) (by decide) rfl (by walk_at "bind") (by decide) ?_
  intro mu L a' cd
  unfold signT at h
  have l1 := lenS (x := "(- ") 5 (by decide)
  have l2 := lenS (x := ")") 5 (by decide)
  have l0 := lenE
  repeat' first | walk_at "ev" | with_reducible refine EV_joined ?_ | with_reducible refine JP_cons ?_ | with_reducible refine JP_nil ?_ ?_ | with_reducible refine EV_fmtS ?_ | with_reducible refine andLe ?_ ?_
  all_goals first | (simp only [Str.length_append]; omega) | omega | skip
  · rename_i q; rw [if_pos q] at h; exact h
  · rename_i q; rw [if_neg (by simp [q])] at h; exact h
local macro_rules | `(tactic| walk_at "sp") => `(tactic| with_reducible refine signed_text_s (by assumption) (by omega) ?_ ?_)
theorem fits {x : Int} (h : Sz 64 x) : x.natAbs < 2 ^ 1900 := h.mono (k := 1900) (by decide)
theorem ratio_text_s (F : Facts c) {x y : Int} (hn : 2 ≤ n) (hx : Sz 64 x ∧ Sz 64 y) (hy : 0 ≤ y) (h : P (.str (textT false x y))) : FNn c n (S' "ratio_text") [.tup [.int x, .int y]] P := by
  refine FNn_at 1 hn fun m hm => FNn_intro (F.fn 24 _ _ _ _ _ _ _ _ _ _ rfl) (by decide) rfl (by walk_at "bind") (by decide) ?_
  intro mu L a' cd
  obtain ⟨hx, hy1⟩ := hx
  have n1 := lenA hx
  have n2 := lenN hy hy1
  have f1 : ((x.natAbs : Int)).natAbs < 2 ^ 1900 := by simpa using fits hx
  have f2 := fits hy1
  have l1 := lenS (x := "(/ ") 5 (by decide)
  have l2 := lenS (x := ")") 5 (by decide)
  have l3 := lenS (x := " ") 5 (by decide)
  have l0 := lenE
  unfold textT coreT at h
  simp only [Bool.false_eq_true, if_false] at h
  repeat' walk_at "jp"
  all_goals first | exact f1 | exact f2 | (simp only [Str.length_append]; omega) | omega | skip
  · rename_i q; rw [if_pos q] at h; exact h
  · rename_i q; rw [if_neg q] at h; exact h
theorem real_text_s (F : Facts c) {x y : Int} (hn : 2 ≤ n) (hx : Sz 64 x ∧ Sz 64 y) (hy : 0 ≤ y) (h : P (.str (textT true x y))) : FNn c n (S' "real_text") [.tup [.int x, .int y]] P := by
  refine FNn_at 1 hn fun m hm => FNn_intro (F.fn 25 _ _ _ _ _ _ _ _ _ _ rfl) (by decide) rfl (by walk_at "bind") (by decide) ?_
  intro mu L a' cd
  obtain ⟨hx, hy1⟩ := hx
  have n1 := lenA hx
  have n2 := lenN hy hy1
  have f1 : ((x.natAbs : Int)).natAbs < 2 ^ 1900 := by simpa using fits hx
  have f2 := fits hy1
  have l1 := lenS (x := "(/ ") 5 (by decide)
  have l2 := lenS (x := ".0)") 5 (by decide)
  have l3 := lenS (x := ".0 ") 5 (by decide)
  have l4 := lenS (x := ".0") 5 (by decide)
  have l0 := lenE
  unfold textT coreT at h
  simp only [if_true] at h
  repeat' walk_at "jp"
  all_goals first | exact f1 | exact f2 | (simp only [Str.length_append]; omega) | omega | skip
  · rename_i q; rw [if_pos q] at h; exact h
  · rename_i q; rw [if_neg q] at h; exact h
end
end
section
/-- the word is made of figures -/
def Figs (w : Str) (k : Int) : Prop := (0 < w.length ∧ w.length ≤ 600) ∧ (∀ s ∈ w.cps.toList, s ∈ (S' "0123456789").cps.toList) ∧ PySem.intText? w = some k
/-- the words within -/
def Words (real : Bool) (T : Str) (raw ws : List Str) : Prop :=
  raw = (if (Txt.slice T none (some 3) == S' "(/ ") = true then Txt.split (Txt.slice T (some 3) (some (-1))) (S' " ") else [T]) ∧
  ((real = true ∧ (∀ w ∈ raw, (Txt.slice w (some (-2)) none == S' ".0") = true) ∧ ws = raw.map fun w => Txt.slice w none (some (-2))) ∨ (real = false ∧ ws = raw))
def ReadOk (T : Str) (real : Bool) (x y : Int) : Prop :=
  T.length ≤ 1000 ∧ ∃ neg T' raw ws k, (Txt.slice T none (some 3) == S' "(- ") = neg ∧ T' = (if neg = true then Txt.slice T (some 3) (some (-1)) else T) ∧ Words real T' raw ws ∧ x = (if neg = true then 0 - k else k) ∧
    ((∃ w, ws = [w] ∧ Figs w k ∧ y = 1) ∨ ∃ w v, ws = [w, v] ∧ Figs w k ∧ Figs v y)
/-- both ways of an if meet -/
def Join (J : Loc → Prop) : Fl → Loc → Prop
  | .next, ρ => J ρ
  | _, _ => False
theorem EX_ifJ {c : Cx} {n : Nat} {env : Env} {ρ : Loc} {mu : Bool} {test : Expr} {body : List Stmt} {pos : Pos} {rest : List Stmt} {P : Fl → Loc → Prop} (J : Loc → Prop)
    (h : EB c n env ρ test fun q => (q = true → EX c n mu env ρ body (Join J)) ∧ (q = false → J ρ)) (fin : ∀ ρ, J ρ → EX c n mu env ρ rest P) : EX c n mu env ρ (.If test body [] pos :: rest) P :=
  EX_if fun h₀ A s Q R S hQ => h h₀ A s Q R S fun q s' u p => hQ q s' u ⟨fun e => (p.1 e).mono fun f ρ' t => by
    cases f with
    | next => exact fin ρ' t
    | _ => exact t.elim, fun e => EX_nil (fin ρ (p.2 e))⟩
theorem JOn {J : Loc → Prop} {ρ : Loc} (h : J ρ) : Join J .next ρ := h
section
local macro_rules | `(tactic| walk_at "ev") => `(tactic| first | ((with_reducible refine' EV_sliceS ?_ ?ht); (case ht => intro _ _; exact rfl)) | with_reducible refine EVo_none ?_ | with_reducible refine EVo_some ?_ | with_reducible refine andLe ?_ ?_)
local macro_rules | `(tactic| walk_at "to") => `(tactic| ((fail_if_success (with_reducible refine EX_if ?_)); (fail_if_success (with_reducible refine EV_if ?_)); walk_at "ev"))
variable {c : Cx} {n : Nat} {P : D → Prop}
theorem law_read_s (F : Facts c) {T : Str} {real : Bool} {x y : Int} (hn : 1 ≤ n) (hR : ReadOk T real x y) (h : P (.tup [.int x, .int y])) : FNn c n (S' "_law_read") [.str T, .bool real] P := by
  refine FNn_at 0 hn fun m hm => FNn_intro (F.fn 42 _ _ _ _ _ _ _ _ _ _ rfl) (by decide) rfl (by walk_at "bind") (by decide) ?_
  intro mu L a' cd
  obtain ⟨hl, neg, T', raw, ws, k, e1, e2, hW, ex, hws⟩ := hR
  have hlT : ∀ l u, (Txt.slice T l u).length ≤ 1000 := fun l u => Nat.le_trans (Txt.slice_le _ _ _) hl
  have hlT' : T'.length ≤ 1000 := by rw [e2]; split; exact hlT _ _; exact hl
  have hl1 : T.length ≤ 100000 := by omega
  have hl2 : T'.length ≤ 100000 := by omega
  obtain ⟨hraw, hW⟩ := hW
  have hl3 : (Txt.slice T' (some 3) (some (-1))).length ≤ 1000 := Nat.le_trans (Txt.slice_le _ _ _) hlT'
  have hl4 : (Txt.slice T' (some 3) (some (-1))).length ≤ 100000 := by omega
  have hocc : (Builtin.Str.partsBetween (Txt.slice T' (some 3) (some (-1))) (Builtin.Str.occurrences (Txt.slice T' (some 3) (some (-1))) (S' " ") 0 (Txt.slice T' (some 3) (some (-1))).length ((Txt.slice T' (some 3) (some (-1))).length + 1)) (S' " ").length).length ≤ 200000 := by
    rw [len_partsBetween]
    have := StrLaws.occ_length_le (Txt.slice T' (some 3) (some (-1))) (S' " ") 0 (Txt.slice T' (some 3) (some (-1))).length ((Txt.slice T' (some 3) (some (-1))).length + 1)
    omega
  repeat' walk_at "to"
  · exact hl1
  refine EX_ifJ (fun ρ => ∃ g, Sub [(S' "text", g, .str T'), (S' "is_real", .old, .bool real), (S' "is_below", .new, .bool neg)] ρ) ?_ ?_
  · repeat' walk_at "ev"
    · exact hl1
    · rename_i q
      have q' := e1.symm.trans q
      rw [q', if_pos rfl] at e2
      subst e2
      refine JOn ⟨.new, ?_⟩
      rw [q', ← q]
      walk_at "sub"
    · rename_i q
      have q' := e1.symm.trans q
      rw [q', if_neg (by decide)] at e2
      subst e2
      refine ⟨.old, ?_⟩
      rw [q', ← q]
      walk_at "sub"
  rintro ρ ⟨g, hs⟩
  refine EX_forget hs ?_
  repeat' walk_at "to"
  refine TV.mono (P := fun d => d = .lst (raw.map .str)) ?_ ?_
  · repeat' walk_at "ev"
    · exact hl2
    · refine EV_split rfl rfl ?_
      repeat' walk_at "ev"
      · exact hl2
      · exact hl4
      · rename_i q
        refine ⟨by decide, hocc, ?_⟩
        rw [hraw, if_pos (show (Txt.slice T' none (some 3) == S' "(/ ") = true from q)]
    · rename_i q
      rw [hraw, if_neg (by rw [show (Txt.slice T' none (some 3) == S' "(/ ") = false from q]; decide)]; rfl
  rintro d rfl
  have hrl : raw.length ≤ 1000 ∧ ∀ w ∈ raw, w.length ≤ 1000 := by
    have hb : 1 ≤ ws.length ∧ ws.length ≤ 2 := by rcases hws with ⟨w, rfl, _⟩ | ⟨w, v, rfl, _⟩ <;> simp
    have hw : ws.length = raw.length := by rcases hW with ⟨_, _, rfl⟩ | ⟨_, rfl⟩ <;> simp
    refine ⟨by omega, fun w hw' => ?_⟩
    rw [hraw] at hw'
    split at hw'
    · exact Nat.le_trans (part_short hw') hl3
    · rw [List.mem_singleton.mp hw']; exact hlT'
  refine EX_ifJ (fun ρ => Sub [(S' "words", .new, .lst (ws.map .str)), (S' "is_below", .new, .bool neg)] ρ) ?_ ?_
  · repeat' walk_at "to"
    · rename_i q
      rcases hW with ⟨hr, hW1, hW2⟩ | ⟨hr, _⟩
      rotate_left
      · rw [hr] at q; cases q
      repeat' walk_at "ev"
      refine EV_comp raw D.str (fun w => .bool (Txt.slice w (some (-2)) none == S' ".0")) (fun _ => true) (ρc := []) (cl := []) rfl Cap.nil (by decide) rfl (by decide) (by decide) (by omega) ?_ ?_
      rotate_left
      · intro C w hw
        refine ⟨rfl, fun _ => ⟨?_, rfl⟩⟩
        repeat' walk_at "ev"
        · exact Nat.le_trans (hrl.2 w hw) (by decide)
        · rfl
      repeat' walk_at "ev"
      refine ⟨Itb.lst, ?_⟩
      rw [filtT]
      repeat' walk_at "ev"
      refine FN_all (Bools.map _ raw) ?_
      have e : (raw.map fun w => (Txt.slice w (some (-2)) none == S' ".0")).all id = true := by
        rw [List.all_eq_true]
        intro z hz
        obtain ⟨w, hw, rfl⟩ := List.mem_map.mp hz
        exact hW1 w hw
      rw [e]
      repeat' walk_at "ev"
      refine EX_assignComp raw D.str (fun w => .str (Txt.slice w none (some (-2)))) (fun _ => true) (ρc := []) (cl := []) rfl rfl Cap.nil (by decide) rfl (by decide) (by decide) (by omega) (.inl rfl) ?_ ?_
      rotate_left
      · intro C w hw
        refine ⟨rfl, fun _ => ⟨?_, rfl⟩⟩
        repeat' walk_at "ev"
        · exact Nat.le_trans (hrl.2 w hw) (by decide)
        · rfl
      repeat' walk_at "ev"
      refine ⟨Itb.lst, ?_⟩
      rw [filtT, show (raw.map fun w => D.str (Txt.slice w none (some (-2)))) = ws.map .str by rw [hW2, List.map_map]; rfl]
      repeat' walk_at "ev"
      exact JOn (by walk_at "sub")
    · rename_i q
      rcases hW with ⟨hr, _⟩ | ⟨hr, rfl⟩
      · rw [hr] at q; cases q
      · walk_at "sub"
  intro ρ hs
  refine EX_forget hs ?_
  have hfig : ∀ w ∈ ws, ∃ k, Figs w k := by
    rcases hws with ⟨w, rfl, hw, _⟩ | ⟨w, v, rfl, hw, hv⟩
    · intro z hz; rw [List.mem_singleton.mp hz]; exact ⟨_, hw⟩
    · intro z hz
      rcases List.mem_cons.mp hz with rfl | hz
      · exact ⟨_, hw⟩
      · rw [List.mem_singleton.mp hz]; exact ⟨_, hv⟩
  have hwl : ws.length ≤ 2 := by rcases hws with ⟨w, rfl, _⟩ | ⟨w, v, rfl, _⟩ <;> simp
  repeat' walk_at "ev"
  refine EV_comp ws D.str (fun w => .bool true) (fun _ => true) (ρc := []) (cl := []) rfl Cap.nil (by decide) rfl (by decide) (by decide) (by omega) ?_ ?_
  rotate_left
  · intro C w hw
    obtain ⟨kw, ⟨hw0, hw6⟩, hwd, _⟩ := hfig w hw
    refine ⟨rfl, fun _ => ⟨?_, rfl⟩⟩
    repeat' walk_at "ev"
    · exact Nat.le_trans hw6 (by decide)
    · refine EV_comp w.cps.toList (fun k => D.str ⟨#[k]⟩) (fun _ => .bool true) (fun _ => true) (ρc := []) (cl := []) rfl Cap.nil (by decide) rfl (by decide) (by decide) (Nat.le_trans (show w.length ≤ 600 from hw6) (by decide)) ?_ ?_
      rotate_left
      · intro C s hs
        refine ⟨rfl, fun _ => ⟨?_, rfl⟩⟩
        repeat' walk_at "ev"
        rw [StrLaws.found_one, decide_eq_true (hwd s hs)]
      repeat' walk_at "ev"
      refine ⟨Itb.str, ?_⟩
      rw [filtT]
      repeat' walk_at "ev"
      refine FN_all (Bools.map (fun _ => true) w.cps.toList) ?_
      rw [show (w.cps.toList.map fun _ => true).all id = true by simp]
    · exfalso; omega
  repeat' walk_at "ev"
  refine ⟨Itb.lst, ?_⟩
  rw [filtT]
  repeat' walk_at "ev"
  refine FN_all (Bools.map (fun _ => true) ws) ?_
  rw [show (ws.map fun _ => true).all id = true by simp]
  rcases hws with ⟨w, rfl, hw, rfl⟩ | ⟨w, v, rfl, hw, hv⟩
  · repeat' walk_at "ev"
    refine O2_itemL (by decide) (by decide) rfl ?_
    repeat' walk_at "ev"
    refine FN_int (k := k) ⟨hw.2.2, by have := hw.1; omega⟩ ?_
    repeat' walk_at "ev"
    all_goals first
      | (rename_i q; exact absurd (show (1 : Int) = 2 from q) (by decide))
      | (rename_i q1 _; rw [if_pos q1] at ex; rw [← ex]; exact h)
      | (rename_i q1 _; rw [if_neg (by rw [q1]; decide)] at ex; rw [← ex]; exact h)
  · repeat' walk_at "ev"
    refine O2_itemL (by decide) (by decide) rfl ?_
    repeat' walk_at "ev"
    refine FN_int (k := k) ⟨hw.2.2, by have := hw.1; omega⟩ ?_
    repeat' walk_at "ev"
    all_goals first
      | (rename_i q; exact absurd rfl q)
      | (refine O2_itemL (by decide) (by decide) rfl ?_)
    all_goals repeat' walk_at "ev"
    all_goals (refine FN_int (k := y) ⟨hv.2.2, by have := hv.1; omega⟩ ?_)
    all_goals repeat' walk_at "ev"
    all_goals first
      | (rename_i q1 _; rw [if_pos q1] at ex; rw [← ex]; exact h)
      | (rename_i q1 _; rw [if_neg (by rw [q1]; decide)] at ex; rw [← ex]; exact h)
end
end
section
structure OneOk (x y : Int) : Prop where
  pos : 0 < y
  f1 : x.fdiv y * y ≤ x
  f2 : x < (x.fdiv y + 1) * y
  c1 : (-((-x).fdiv y) - 1) * y < x
  c2 : x ≤ -((-x).fdiv y) * y
  wh : decide (y = 1) = decide (x.fdiv y = -((-x).fdiv y))
  r1 : ReadOk (textT false x y) false x y
  r2 : ReadOk (textT true x y) true x y
section
local macro_rules | `(tactic| walk_at "sp") => `(tactic| first | with_reducible refine ratio_text_s (by assumption) (by omega) ?_ ?_ ?_ | with_reducible refine real_text_s (by assumption) (by omega) ?_ ?_ ?_ | with_reducible refine law_read_s (x := _) (y := _) (by assumption) (by omega) (by assumption) ?_)
variable {c : Cx} {n : Nat} {P : D → Prop}
theorem law_one_s (F : Facts c) {x y : Int} (hn : 3 ≤ n) (hs : Sz 64 x ∧ Sz 64 y) (hO : OneOk x y) (h : P (.bool true)) : FNn c n (S' "_law_one_right") [.tup [.int x, .int y]] P := by
  refine FNn_at 2 hn fun m hm => FNn_intro (F.fn 43 _ _ _ _ _ _ _ _ _ _ rfl) (by decide) rfl (by walk_at "bind") (by decide) ?_
  intro mu L a' cd
  obtain ⟨hs1, hs2⟩ := hs
  obtain ⟨pos, f1, f2, c1, c2, wh, r1, r2⟩ := hO
  have zlo : Sz 64 (x.fdiv y) := hs1.le (by rw [Int.fdiv_eq_ediv_of_nonneg _ (by omega)]; exact Int.natAbs_ediv_le_natAbs x y)
  have zhi : Sz 64 ((-x).fdiv y) := hs1.le (by rw [Int.fdiv_eq_ediv_of_nonneg _ (by omega)]; have := Int.natAbs_ediv_le_natAbs (-x) y; simpa using this)
  have s4 : Sz 400 y := hs2.mono (by decide)
  have y0 : y ≠ 0 := by omega
  have y1 : 0 ≤ y := by omega
  have hsg := cmpI_eq x 0
  repeat' walk_at "ev"
  all_goals first | exact s4 | exact y0 | exact y1 | exact ⟨hs1, hs2⟩ | walk_at "sm" | (exfalso; omega) | skip
  · rename_i q; rw [wh] at q; simp at q
  · rw [decide_eq_true (show x = x ∧ y = y from ⟨rfl, rfl⟩)]; exact h
end
end
section
open PySem PySem.W PySem.Calls PyProof.Rows PySem.NumText PySem.Builtin PySem.Builtin.Str
theorem str_eq {a b : Str} (h : a.cps.toList = b.cps.toList) : a = b := Str.ext' (Array.toList_inj.mp h)
theorem app_list (a b : Str) : (a ++ b).cps.toList = a.cps.toList ++ b.cps.toList := by
  rw [Str.cps_append, Array.toList_append]
theorem len_list (a : Str) : a.cps.toList.length = a.length := by simp [Str.length]
theorem sl_to {x : Str} {j : Nat} (h : j ≤ x.length) : Txt.slice x none (some (j : Int)) = ⟨(x.cps.toList.take j).toArray⟩ := by
  have := beq_iff_eq.mp (slice_closes_toL (x := x) (j := j) (by omega) (by omega))
  rw [this]; simp
theorem sl_from {x : Str} {i : Nat} (h : i ≤ x.length) : Txt.slice x (some (i : Int)) none = ⟨(x.cps.toList.drop i).toArray⟩ := by
  rw [slice_from_eq (b := x.length) (by omega) (by omega) rfl]
  congr 2
  rw [List.take_of_length_le (by rw [List.length_drop, len_list]; omega)]
  simp
theorem sl_mid {x : Str} {i j : Nat} (h : i ≤ j) (h' : j ≤ x.length) : Txt.slice x (some (i : Int)) (some (j : Int)) = ⟨((x.cps.toList.drop i).take (j - i)).toArray⟩ := by
  have := beq_iff_eq.mp (slice_closesL (x := x) (i := i) (j := j) (by omega) (by omega) (by omega))
  rw [this]
  congr 3
  omega
theorem sl_midneg {x : Str} {i j : Int} (h : j < 0) (h' : 0 ≤ (x.length : Int) + j) : Txt.slice x (some i) (some j) = Txt.slice x (some i) (some ((x.length : Int) + j)) := by
  have e : strSliceIndices (some i) (some j) 1 x.length = strSliceIndices (some i) (some ((x.length : Int) + j)) 1 x.length := by
    have h1 : ¬ ((x.length : Int) + j < 0) := by omega
    have h2 : (1 : Int) > 0 := by decide
    simp only [strSliceIndices, h, h1, h2, if_false, if_true]
    have h4 : j + (x.length : Int) = x.length + j := by omega
    have h5 : max 0 ((x.length : Int) + j) = x.length + j := by omega
    have h6 : min ((x.length : Int) + j) x.length = x.length + j := by omega
    simp only [h4, h5, h6]
  unfold Txt.slice
  rw [e]
theorem sl3 {a b : Str} (h : a.length = 3) : Txt.slice (a ++ b) none (some 3) = a := by
  have := sl_to (x := a ++ b) (j := 3) (by rw [Str.length_append]; omega)
  rw [show ((3 : Nat) : Int) = 3 from rfl] at this
  rw [this]
  refine str_eq ?_
  rw [app_list, List.take_append_of_le_length (by rw [len_list]; omega), List.take_of_length_le (by rw [len_list]; omega)]
theorem sl_within {a b e : Str} (h : a.length = 3) (h' : e.length = 1) : Txt.slice (a ++ b ++ e) (some 3) (some (-1)) = b := by
  have hl : (a ++ b ++ e).length = 3 + b.length + 1 := by rw [Str.length_append, Str.length_append]; omega
  rw [sl_midneg (by decide) (by omega)]
  have := sl_mid (x := a ++ b ++ e) (i := 3) (j := 3 + b.length) (by omega) (by omega)
  rw [show (((a ++ b ++ e).length : Int) + -1) = ((3 + b.length : Nat) : Int) by omega]
  rw [show ((3 : Nat) : Int) = 3 from rfl] at this
  rw [this]
  refine str_eq ?_
  rw [app_list, app_list, List.append_assoc, List.drop_left' (by rw [len_list]; exact h), List.take_append_of_le_length (by rw [len_list]; omega), List.take_of_length_le (by rw [len_list]; omega)]
theorem sl_end {a b : Str} (h : b.length = 2) : Txt.slice (a ++ b) (some (-2)) none = b := by
  have hl : (a ++ b).length = a.length + 2 := by rw [Str.length_append]; omega
  rw [slice_from_neg (by decide), show max 0 (((a ++ b).length : Int) + -2) = (a.length : Int) by omega, sl_from (by omega)]
  refine str_eq ?_
  rw [app_list, List.drop_left' (by rw [len_list])]
theorem sl_front {a b : Str} (h : b.length = 2) : Txt.slice (a ++ b) none (some (-2)) = a := by
  have hl : (a ++ b).length = a.length + 2 := by rw [Str.length_append]; omega
  rw [slice_to_neg (by decide), show max 0 (((a ++ b).length : Int) + -2) = (a.length : Int) by omega, sl_to (by omega)]
  refine str_eq ?_
  rw [app_list, List.take_append_of_le_length (by rw [len_list]; omega), List.take_of_length_le (by rw [len_list]; omega)]
theorem sl3_no {x y : Str} {c : Nat} (hx : c ∉ x.cps.toList) (hy : c ∈ y.cps.toList) : (Txt.slice x none (some 3) == y) = false := by
  rw [beq_eq_false_iff_ne]
  intro e
  refine hx ?_
  rw [← e] at hy
  by_cases h : 3 ≤ x.length
  · have := sl_to (x := x) (j := 3) h
    rw [show ((3 : Nat) : Int) = 3 from rfl] at this
    rw [this] at hy
    exact List.mem_of_mem_take hy
  · rw [slice_to_beyond (by omega), sl_to (Nat.le_refl _)] at hy
    exact List.mem_of_mem_take hy
theorem cut_same {c : Nat} : ∀ {p a x b : List Nat}, c ∉ p → c ∉ a → p ++ c :: x = a ++ c :: b → p = a ∧ x = b
  | [], [], _, _, _, _, e => by simpa using e
  | [], y :: a, _, _, _, h, e => by simp at e; exact absurd (by rw [e.1]; simp) h
  | y :: p, [], _, _, h, _, e => by simp at e; exact absurd (by rw [e.1]; simp) h
  | y :: p, z :: a, x, b, h, k, e => by
    simp only [List.cons_append, List.cons.injEq] at e
    obtain ⟨rfl, e⟩ := e
    obtain ⟨rfl, rfl⟩ := cut_same (fun q => h (List.mem_cons_of_mem _ q)) (fun q => k (List.mem_cons_of_mem _ q)) e
    exact ⟨rfl, rfl⟩
theorem sp_list : (S' " ").cps.toList = [32] := rfl
theorem split_two {A B : Str} (hA : 32 ∉ A.cps.toList) (hB : 32 ∉ B.cps.toList) : Txt.split (A ++ S' " " ++ B) (S' " ") = [A, B] := by
  have hs : S' " " = ⟨#[32]⟩ := by rfl
  have j := StrLaws.join_split (A ++ S' " " ++ B) (S' " ")
  have f := StrLaws.split_free (A ++ S' " " ++ B) 32
  rw [← hs] at f
  generalize Txt.split (A ++ S' " " ++ B) (S' " ") = l at *
  have e2 : (A ++ S' " " ++ B).cps.toList = A.cps.toList ++ 32 :: B.cps.toList := by rw [app_list, app_list, sp_list]; simp
  match l, j, f with
  | [], j, _ =>
    have := congrArg (fun x : Str => x.cps.toList.length) j
    simp only [e2] at this
    simp [Str.join] at this
    have h0 : Str.empty.cps.size = 0 := rfl
    omega
  | [p], j, f =>
    have j : p = _ := j
    have := f p (by simp)
    rw [j, e2] at this
    simp at this
  | p :: q :: r, j, f =>
    have j : p ++ S' " " ++ Str.join (S' " ") (q :: r) = _ := j
    have e3 : (p ++ S' " " ++ Str.join (S' " ") (q :: r)).cps.toList = p.cps.toList ++ 32 :: (Str.join (S' " ") (q :: r)).cps.toList := by rw [app_list, app_list, sp_list]; simp
    have j' := congrArg (fun x : Str => x.cps.toList) j
    simp only [e2, e3] at j'
    obtain ⟨h1, h2⟩ := cut_same (f p (by simp)) hA j'
    obtain rfl := str_eq h1
    match r, h2 with
    | [], h2 => rw [show q = B from str_eq h2]
    | z :: r, h2 =>
      exfalso
      refine hB ?_
      rw [← h2]
      show 32 ∈ (q ++ S' " " ++ Str.join (S' " ") (z :: r)).cps.toList
      rw [app_list, app_list, sp_list]
      simp

theorem num_digits (m : Nat) : AllDigits (numS m).cps.toList := by
  intro c hc
  rw [KIN.signs_num] at hc
  obtain ⟨ch, hch, e⟩ := List.mem_map.mp hc
  have r := digit_range (Nat.isDigit_of_mem_toDigits (by decide) (by decide) hch)
  rw [← e]
  exact r
theorem num_pos (m : Nat) : 0 < (numS m).length := by
  rw [← len_list, KIN.signs_num, List.length_map]
  exact toDigits_len_ge 10 m
theorem num_val (m : Nat) : digitsVal (numS m).cps.toList = m := by rw [KIN.signs_num, KIN.val_back]
theorem fig_mem {c : Nat} (h : 48 ≤ c ∧ c ≤ 57) : c ∈ (S' "0123456789").cps.toList := by
  have e : (S' "0123456789").cps.toList = [48, 49, 50, 51, 52, 53, 54, 55, 56, 57] := by rfl
  rw [e]
  simp only [List.mem_cons, List.not_mem_nil, or_false]
  omega
theorem figs_of {w : Str} {k : Nat} (hd : AllDigits w.cps.toList) (h0 : 0 < w.length) (h6 : w.length ≤ 600) (hv : digitsVal w.cps.toList = k) : Figs w k := by
  refine ⟨⟨h0, h6⟩, fun s hs => fig_mem (hd s hs), ?_⟩
  have := intText_digits hd (fun e => by rw [← len_list, e] at h0; simp at h0) (by omega)
  rw [this, hv]
theorem figs_num {m : Nat} (h : (numS m).length ≤ 600) : Figs (numS m) m := figs_of (num_digits m) (num_pos m) h (num_val m)
theorem num_no {c m : Nat} (h : c < 48 ∨ 57 < c) : c ∉ (numS m).cps.toList := fun q => by have := num_digits m c q; omega
theorem emp (x : Str) : Str.empty ++ x = x := str_eq (by rw [app_list]; rfl)
theorem sassoc (a b e : Str) : a ++ b ++ e = a ++ (b ++ e) := PySem.Str.append_assoc a b e
theorem real1 {x : Nat} : (Txt.slice (numS x ++ S' ".0") (some (-2)) none == S' ".0") = true := by
  rw [sl_end (by rfl)]; exact beq_self_eq_true _
def wordT (real : Bool) (m : Nat) : Str := if real then numS m ++ S' ".0" else numS m
theorem word_no {real : Bool} {c m : Nat} (h : c < 46 ∨ 57 < c) : c ∉ (wordT real m).cps.toList := by
  unfold wordT
  split
  · rw [app_list, List.mem_append]
    rintro (q | q)
    · exact num_no (by omega) q
    · have e : (S' ".0").cps.toList = [46, 48] := by rfl
      rw [e] at q
      simp at q
      omega
  · exact num_no (by omega)
theorem core_eq {real : Bool} {x y : Int} (hy : 0 ≤ y) : coreT real x y = if y = 1 then wordT real x.natAbs else S' "(/ " ++ (wordT real x.natAbs ++ S' " " ++ wordT real y.natAbs) ++ S' ")" := by
  have hyn : Str.ofString (toString y) = numS y.natAbs := by rw [numS, show ((y.natAbs : Nat) : Int) = y by omega]
  unfold coreT wordT
  cases real with
  | true =>
    simp only [if_true]
    split
    · rw [emp]
    · rw [emp, hyn]
      have e1 : S' ".0 " = S' ".0" ++ S' " " := by rfl
      have e2 : S' ".0)" = S' ".0" ++ S' ")" := by rfl
      rw [e1, e2]
      simp only [sassoc]
  | false =>
    simp only [Bool.false_eq_true, if_false]
    split
    · rfl
    · rw [emp, hyn]
      simp only [sassoc]
theorem words_of (real : Bool) (raw : List Nat) (T : Str) (h : raw.map (wordT real) = (if (Txt.slice T none (some 3) == S' "(/ ") = true then Txt.split (Txt.slice T (some 3) (some (-1))) (S' " ") else [T])) : Words real T (raw.map (wordT real)) (raw.map numS) := by
  refine ⟨h, ?_⟩
  cases real with
  | true =>
    refine .inl ⟨rfl, fun w hw => ?_, ?_⟩
    · obtain ⟨m, _, rfl⟩ := List.mem_map.mp hw
      exact real1
    · rw [List.map_map]
      refine List.map_congr_left fun m _ => ?_
      exact (sl_front (by rfl)).symm
  | false => exact .inr ⟨rfl, rfl⟩
theorem core_words {real : Bool} {x y : Int} (hy : 0 ≤ y) : Words real (coreT real x y) ((if y = 1 then [x.natAbs] else [x.natAbs, y.natAbs]).map (wordT real)) ((if y = 1 then [x.natAbs] else [x.natAbs, y.natAbs]).map numS) := by
  refine words_of real _ _ ?_
  rw [core_eq hy]
  split
  · rw [sl3_no (c := 40) (word_no (by omega)) (by decide)]; rfl
  · rw [sassoc, sl3 (by rfl), ← sassoc, sl_within (by rfl) (by rfl), split_two (word_no (by omega)) (word_no (by omega))]
    rfl
theorem core_no {real : Bool} {x y : Int} (hy : 0 ≤ y) : (Txt.slice (coreT real x y) none (some 3) == S' "(- ") = false := by
  rw [core_eq hy]
  split
  · exact sl3_no (c := 40) (word_no (by omega)) (by decide)
  · rw [sassoc, sl3 (by rfl)]; decide
theorem core_len {real : Bool} {x y : Int} (hy : 0 ≤ y) (hs : Sz 64 x ∧ Sz 64 y) : (coreT real x y).length ≤ 100 := by
  have h1 : (numS x.natAbs).length ≤ 20 := lenA hs.1
  have h2 : (numS y.natAbs).length ≤ 20 := lenA hs.2
  have h3 : ∀ m, (wordT real m).length ≤ (numS m).length + 2 := fun m => by
    unfold wordT
    split
    · rw [Str.length_append]; exact Nat.le_refl _
    · omega
  have h4 := h3 x.natAbs
  have h5 := h3 y.natAbs
  have e1 : (S' "(/ ").length = 3 := by rfl
  have e2 : (S' " ").length = 1 := by rfl
  have e3 : (S' ")").length = 1 := by rfl
  rw [core_eq hy]
  split
  · omega
  · simp only [Str.length_append]; omega
theorem read_ok {real : Bool} {x y : Int} (hy : 0 ≤ y) (hs : Sz 64 x ∧ Sz 64 y) : ReadOk (textT real x y) real x y := by
  have hl := core_len (real := real) hy hs
  have n1 : (numS x.natAbs).length ≤ 20 := lenA hs.1
  have n2 : (numS y.natAbs).length ≤ 20 := lenA hs.2
  have fin : (∃ w, (if y = 1 then [x.natAbs] else [x.natAbs, y.natAbs]).map numS = [w] ∧ Figs w (x.natAbs : Int) ∧ y = 1) ∨ ∃ w v, (if y = 1 then [x.natAbs] else [x.natAbs, y.natAbs]).map numS = [w, v] ∧ Figs w (x.natAbs : Int) ∧ Figs v y := by
    split
    · rename_i h; exact .inl ⟨_, rfl, figs_num (by omega), h⟩
    · refine .inr ⟨_, _, rfl, figs_num (by omega), ?_⟩
      have := figs_num (m := y.natAbs) (by omega)
      rwa [show ((y.natAbs : Nat) : Int) = y by omega] at this
  have e2 : (S' "(- ").length = 3 := by rfl
  have e3 : (S' ")").length = 1 := by rfl
  unfold textT signT
  by_cases hx : x < 0
  · rw [decide_eq_true hx, if_pos rfl, emp]
    refine ⟨by simp only [Str.length_append]; omega, true, coreT real x y, _, _, x.natAbs, ?_, ?_, core_words hy, ?_, fin⟩
    · rw [sassoc, sl3 (by rfl)]; exact beq_self_eq_true _
    · rw [if_pos rfl, sl_within (by rfl) (by rfl)]
    · rw [if_pos rfl]; omega
  · rw [decide_eq_false hx, if_neg (by decide)]
    refine ⟨by omega, false, coreT real x y, _, _, x.natAbs, core_no hy, ?_, core_words hy, ?_, fin⟩
    · rw [if_neg (by decide)]
    · rw [if_neg (by decide)]; omega
end
section
open PySem PySem.W PySem.Calls PyProof.Rows PySem.NumText PySem.Builtin PySem.Builtin.Str
theorem foldl_val : ∀ (b : List Nat) (s : Nat), b.foldl (fun acc c => acc * 10 + (c - 48)) s = s * 10 ^ b.length + digitsVal b
  | [], s => by simp [digitsVal]
  | c :: b, s => by
    unfold digitsVal
    rw [List.foldl_cons, List.foldl_cons, foldl_val b, foldl_val b, List.length_cons, Nat.pow_succ]
    grind
theorem val_app (a b : List Nat) : digitsVal (a ++ b) = digitsVal a * 10 ^ b.length + digitsVal b := by
  rw [← foldl_val]
  unfold digitsVal
  rw [List.foldl_append]
theorem val_zeros (k : Nat) (b : List Nat) : digitsVal (List.replicate k 48 ++ b) = digitsVal b := by
  induction k with
  | zero => simp
  | succ k ih => rw [List.replicate_succ]; exact ih
theorem behind_list (m : Int) : (behindS m).cps.toList = List.replicate ((m.natAbs : Int).fmod 3).toNat 48 ++ (numS m.natAbs).cps.toList := by
  unfold behindS
  rw [app_list, show Str.ofString "0" = ⟨#[48]⟩ from rfl, mul_one_list]
theorem behind_digits (m : Int) : AllDigits (behindS m).cps.toList := by
  rw [behind_list]
  intro c hc
  rcases List.mem_append.mp hc with h | h
  · rw [(List.mem_replicate.mp h).2]; decide
  · exact num_digits _ c h
theorem behind_val (m : Int) : digitsVal (behindS m).cps.toList = m.natAbs := by rw [behind_list, val_zeros, num_val]
theorem num_len {m : Nat} {k : Nat} (hk : 0 < k) (h : m < 10 ^ k) : (numS m).length ≤ k := toString_length_le (by omega) hk (by exact_mod_cast h)
theorem fmod3 (k : Nat) : ((k : Int).fmod 3).toNat ≤ 2 := by
  have h3 := Int.fmod_nonneg_of_pos (k : Int) (show (0 : Int) < 3 by decide)
  have h4 := Int.fmod_lt_of_pos (k : Int) (show (0 : Int) < 3 by decide)
  omega
theorem behind_len {m : Int} (h : m.natAbs < 100) : 0 < (behindS m).length ∧ (behindS m).length ≤ 4 := by
  have h1 := num_len (m := m.natAbs) (k := 2) (by decide) h
  have h2 := num_pos m.natAbs
  have h3 := fmod3 m.natAbs
  rw [← len_list] at h1 h2 ⊢
  rw [behind_list, List.length_append, List.length_replicate]
  omega
theorem dec_ok {t m : Int} (ht : t.natAbs < 100) (hm : m.natAbs < 100) : DecOk t m := by
  have h1 := num_len (m := t.natAbs) (k := 2) (by decide) ht
  have h2 := num_pos t.natAbs
  have h3 := behind_len hm
  refine ⟨⟨(figs_num (by omega)).2.2, by show (numS _).length ≤ _; omega⟩, ?_, by omega⟩
  exact (figs_of (behind_digits m) h3.1 (by omega) (behind_val m)).2.2
theorem dec_cat {t m : Int} (ht : t.natAbs < 100) (hm : m.natAbs < 100) : PySem.intText? (numS t.natAbs ++ behindS m) = some ((t.natAbs : Int) * 10 ^ (behindS m).length + m.natAbs) := by
  have h1 := num_len (m := t.natAbs) (k := 2) (by decide) ht
  have h3 := behind_len hm
  have hd : AllDigits (numS t.natAbs ++ behindS m).cps.toList := by
    rw [app_list]
    intro c hc
    rcases List.mem_append.mp hc with h | h
    · exact num_digits _ c h
    · exact behind_digits _ c h
  have := (figs_of (k := t.natAbs * 10 ^ (behindS m).length + m.natAbs) hd (by rw [Str.length_append]; omega) (by rw [Str.length_append]; omega) (by rw [app_list, val_app, num_val, behind_val, len_list])).2.2
  rw [this]
  simp
/-- what the machine's word gives and what is due -/
structure TurnOk (d f : Int × Int) : Prop where
  dpos : 0 < d.2
  fpos : 0 < f.2
  cross : f.1 * d.2 = f.2 * d.1
  cop : Int.gcd f.1 f.2 = 1
  d1 : Sz 63 d.1
  d2 : Sz 63 d.2
  f1 : Sz 63 f.1
  f2 : Sz 63 f.2
theorem turn_red {t b : Int} (hb : b ≠ 0) (h1 : Sz 63 t) (h2 : Sz 63 b) : ∃ d, turnI (t, b) = some d ∧ TurnOk d (redF t b) := by
  have L := redF_low (t := t) hb
  by_cases hp : 0 < b
  · exact ⟨_, turn_pos hp, hp, L.pos, L.cross, L.cop, h1, h2, h1.le L.le1, h2.le L.le2⟩
  · refine ⟨_, turn_neg hb hp, by show 0 < 0 - b; omega, L.pos, ?_, L.cop, h1.le (by show (0 - t).natAbs ≤ _; omega), h2.le (by show (0 - b).natAbs ≤ _; omega), h1.le L.le1, h2.le L.le2⟩
    have := L.cross
    show (redF t b).1 * (0 - b) = (redF t b).2 * (0 - t)
    rw [Int.mul_sub, Int.mul_sub, this]
    simp
structure Cell (p : Int × Int) : Prop where
  pos : 0 < p.2
  s1 : Sz 30 p.1
  s2 : Sz 30 p.2
  cop : Int.gcd p.1 p.2 = 1
theorem Cell.ok {p : Int × Int} (h : Cell p) : Ok 30 p := ⟨by have := h.pos; omega, h.s1, h.s2⟩
theorem turn_ok {w t m : Int} {a b : Int × Int} (hw : 0 ≤ w ∧ w < 8) (ha : Cell a) (hb : Cell b) (ht : t.natAbs < 100) (hm : m.natAbs < 100) :
    (dueI w a b t m = none ∧ doneI w a b t m = none) ∨ ∃ d f, dueI w a b t m = some d ∧ doneI w a b t m = some f ∧ TurnOk d f := by
  have ht' : Sz 63 t := Nat.lt_of_lt_of_le ht (by decide)
  have hm' : Sz 63 m := Nat.lt_of_lt_of_le hm (by decide)
  have a0 := ha.pos
  have b0 := hb.pos
  have go : ∀ {t b : Int}, b ≠ 0 → Sz 63 t → Sz 63 b → ∃ d f, turnI (t, b) = some d ∧ some (redF t b) = some f ∧ TurnOk d f := fun h1 h2 h3 => let ⟨d, e, k⟩ := turn_red h1 h2 h3; ⟨d, _, e, rfl, k⟩
  have z : ∀ {x y : Int}, Sz 30 x → Sz 30 y → Sz 60 (x * y) := fun h k => Sz.mul (j := 30) (k := 30) h k
  have e8 : w = 0 ∨ w = 1 ∨ w = 2 ∨ w = 3 ∨ w = 4 ∨ w = 5 ∨ w = 6 ∨ w = 7 := by omega
  rcases e8 with rfl | rfl | rfl | rfl | rfl | rfl | rfl | rfl
  · by_cases h0 : m = 0
    · subst h0; exact .inl ⟨rfl, rfl⟩
    · refine .inr ?_
      rw [show doneI 0 a b t m = some (redF t m) by unfold doneI; rw [if_pos rfl, if_neg h0]]
      exact go h0 ht' hm'
  · exact .inr (go (Int.mul_ne_zero (by omega) (by omega)) (((z ha.s1 hb.s2).add (z hb.s1 ha.s2)).mono (by decide)) ((z ha.s2 hb.s2).mono (by decide)))
  · refine .inr ?_
    have e : a.1 * b.2 - b.1 * a.2 = a.1 * b.2 + -b.1 * a.2 := by rw [Int.neg_mul]; rfl
    show ∃ d f, turnI (a.1 * b.2 - b.1 * a.2, a.2 * b.2) = some d ∧ _
    rw [e]
    exact go (Int.mul_ne_zero (by omega) (by omega)) (((z ha.s1 hb.s2).add (z hb.s1.neg ha.s2)).mono (by decide)) ((z ha.s2 hb.s2).mono (by decide))
  · exact .inr (go (Int.mul_ne_zero (by omega) (by omega)) ((z ha.s1 hb.s1).mono (by decide)) ((z ha.s2 hb.s2).mono (by decide)))
  · by_cases h0 : b.1 = 0
    · refine .inl ⟨?_, ?_⟩
      · show turnI (a.1 * b.2, a.2 * b.1) = none
        exact turn_none (by show a.2 * b.1 = 0; rw [h0, Int.mul_zero])
      · unfold doneI; rw [if_neg (by decide), if_neg (by decide), if_neg (by decide), if_neg (by decide), if_pos rfl, if_pos h0]
    · refine .inr ?_
      rw [show doneI 4 a b t m = some (divF a b) by unfold doneI; rw [if_neg (by decide), if_neg (by decide), if_neg (by decide), if_neg (by decide), if_pos rfl, if_neg h0]]
      exact go (Int.mul_ne_zero (by omega) h0) ((z ha.s1 hb.s2).mono (by decide)) ((z ha.s2 hb.s1).mono (by decide))
  · refine .inr ⟨(0 - a.1, a.2), (-a.1, a.2), turn_pos a0, rfl, a0, a0, ?_, ?_, ?_, ha.s2.mono (by decide), ha.s1.neg.mono (by decide), ha.s2.mono (by decide)⟩
    · show -a.1 * a.2 = a.2 * (0 - a.1); rw [Int.zero_sub, Int.mul_comm]
    · show Int.gcd (-a.1) a.2 = 1; rw [Int.neg_gcd]; exact ha.cop
    · show Sz 63 (0 - a.1); rw [Int.zero_sub]; exact ha.s1.neg.mono (by decide)
  · exact .inr ⟨(t, 1), (t, 1), rfl, rfl, by show (0 : Int) < 1; decide, by show (0 : Int) < 1; decide, by show t * 1 = 1 * t; omega, by show Int.gcd t 1 = 1; exact Int.gcd_one, ht', by show Sz 63 1; exact Sz.dec (by decide), ht', by show Sz 63 1; exact Sz.dec (by decide)⟩
  · refine .inr ?_
    have hp : (0 : Int) < 10 ^ (behindS m).length := Int.pow_pos (by decide)
    have h3 := (behind_len hm).2
    have hz : Sz 20 ((10 : Int) ^ (behindS m).length) := by
      unfold Sz
      rw [Int.natAbs_pow]
      exact Nat.lt_of_le_of_lt (Nat.pow_le_pow_right (by decide) h3) (by decide)
    have ht1 : Sz 7 (t.natAbs : Int) := by unfold Sz; simpa using Nat.lt_of_lt_of_le ht (by decide)
    have hm1 : Sz 27 (m.natAbs : Int) := by unfold Sz; simpa using Nat.lt_of_lt_of_le hm (by decide)
    exact go (by omega) (((Sz.mul ht1 hz).add hm1).mono (by decide)) (hz.mono (by decide))
theorem sgn_scale {A B C E k l : Int} (hk : 0 < k) (hl : 0 < l) (h : k * (A - B) = l * (C - E)) : sgnI A B = sgnI C E := by
  have key : ∀ {x y k l : Int}, 0 < k → 0 < l → k * x = l * y → 0 < x → 0 < y := fun hk hl e hx => by
    rename_i x y k l
    rcases Int.lt_trichotomy y 0 with h | h | h
    · have h1 := Int.mul_pos hk hx
      have h2 := Int.mul_neg_of_pos_of_neg hl h
      omega
    · have h1 := Int.mul_pos hk hx
      rw [e, h, Int.mul_zero] at h1
      omega
    · exact h
  have hz : ∀ {x y k l : Int}, 0 < k → 0 < l → k * x = l * y → x = 0 → y = 0 := fun hk hl e hx => by
    rw [hx, Int.mul_zero] at e
    rcases Int.mul_eq_zero.mp e.symm with h | h
    · omega
    · exact h
  have h1 := @key (A - B) (C - E) k l hk hl h
  have h2 := @key (C - E) (A - B) l k hl hk h.symm
  have h3 := @hz (A - B) (C - E) k l hk hl h
  have h4 := @hz (C - E) (A - B) l k hl hk h.symm
  unfold sgnI
  by_cases e1 : A = B
  · rw [if_pos e1, if_pos (show C = E by omega)]
  · rw [if_neg e1, if_neg (show ¬ C = E by omega)]
    by_cases e2 : B < A
    · rw [if_pos e2, if_pos (show E < C by omega)]
    · rw [if_neg e2, if_neg (show ¬ E < C by omega)]
theorem TurnOk.cmp {d f p : Int × Int} (h : TurnOk d f) : cmpI (f.1 * p.2) (p.1 * f.2) = sgnI (d.1 * p.2) (p.1 * d.2) := by
  rw [cmpI_eq]
  refine sgn_scale h.dpos h.fpos ?_
  have := h.cross
  generalize f.1 = x at *; generalize f.2 = y at *; generalize d.1 = z at *; generalize d.2 = w at *; generalize p.1 = u at *; generalize p.2 = v at *
  have e : w * (x * v - u * y) = (x * w) * v - w * u * y := by grind
  rw [e, this]; grind
theorem one_ok {x y : Int} (hy : 0 < y) (hs : Sz 64 x ∧ Sz 64 y) (hg : Int.gcd x y = 1) : OneOk x y := by
  have e1 := Int.ediv_mul_le x (show y ≠ 0 by omega)
  have e2 := Int.lt_ediv_add_one_mul_self x hy
  have e3 := Int.ediv_mul_le (-x) (show y ≠ 0 by omega)
  have e4 := Int.lt_ediv_add_one_mul_self (-x) hy
  refine ⟨hy, ?_, ?_, ?_, ?_, ?_, read_ok (by omega) hs, read_ok (by omega) hs⟩
  all_goals (try rw [Int.fdiv_eq_ediv_of_nonneg _ (by omega)])
  · exact e1
  · exact e2
  · rw [show (-(-x / y) - 1) * y = -((-x / y + 1) * y) by grind]; omega
  · rw [show -(-x / y) * y = -((-x / y) * y) by grind]; omega
  · rw [Int.fdiv_eq_ediv_of_nonneg _ (by omega)]
    by_cases h1 : y = 1
    · subst h1; simp
    · rw [decide_eq_false h1, eq_comm, decide_eq_false_iff_not]
      intro q
      have e5 : x / y * y = x := by
        have : -(-x / y) * y = -((-x / y) * y) := by grind
        rw [← q] at this
        omega
      have hd : y ∣ x := ⟨x / y, by rw [Int.mul_comm]; exact e5.symm⟩
      have h2 : y ∣ (Int.gcd x y : Int) := Int.dvd_coe_gcd hd (Int.dvd_refl y)
      rw [hg] at h2
      exact h1 (Int.eq_one_of_dvd_one (by omega) h2)
theorem cell_next {w : Int} {f : Int × Int} (hw : 0 ≤ w ∧ w < 8) (h0 : 0 < f.2) (hg : Int.gcd f.1 f.2 = 1) : Cell (if ((f.1.natAbs : Int) < 10 ^ 9 ∧ f.2 < 10 ^ 9) then f else (w, 1)) := by
  split
  · rename_i h
    refine ⟨h0, ?_, ?_, hg⟩
    · unfold Sz; omega
    · unfold Sz; omega
  · exact ⟨by show (0 : Int) < 1; decide, Nat.lt_of_lt_of_le (show w.natAbs < 8 by omega) (by decide), by show Sz 30 1; exact Sz.dec (by decide), Int.gcd_one⟩
end
section
theorem flats_R (q : List (Int × Int)) : flats (q.map fun p => dR p) = true := by
  induction q with
  | nil => rfl
  | cons x r ih => rw [List.map_cons]; unfold flats; rw [ih]; rfl
section
local macro_rules | `(tactic| walk_at "to") => `(tactic| ((fail_if_success (with_reducible refine EX_if ?_)); walk_at "ev"))
local macro_rules | `(tactic| walk_at "ev") => `(tactic| first | ((with_reducible refine' O2_itemL ?h1 ?h2 ?h3 ?_ ?hs); (case h3 => with_reducible assumption); (case h1 => omega); (case h2 => omega); (case hs => intro _ _; with_unfolding_all rfl)) | fail "no item")
variable {c : Cx} {n : Nat} {P : D → Prop}
theorem law_machine_s (F : Facts c) {l : List Int} (hn : 6 ≤ n) (hlen : l.length ≤ 1000) (h : P (.bool true)) : FNn c n (S' "_law_machine") [.lst (l.map .int)] P := by
  refine FNn_at 5 hn fun m hm => FNn_introT (F.fn 44 _ _ _ _ _ _ _ _ _ _ rfl) (by decide) rfl (by walk_at "bind") (by decide) ?_
  intro L a' cd
  with_reducible refine' EX_ownList ?_ ?hx ?hs
  case hx => exact .inl rfl
  case hs => exact rfl
  repeat' walk_at "ev"
  with_reducible refine' EX_forOld (l.map D.int) (fun _ ρ => ∃ cs : List (Int × Int), cs.length = 3 ∧ (∀ p ∈ cs, Cell p) ∧ ρ = [(S' "cells", .own, .lst (cs.map fun p => dR p)), (S' "numbers", .old, .lst (l.map .int))]) rfl (ρ₀ := [(S' "cells", .own, .lst ([((0 : Int), (1 : Int)), (1, 1), (-1, 2)].map fun p => dR p)), (S' "numbers", .old, .lst (l.map .int))]) ?hsub ?hI ?hturn ?hfin ?ht ?hd ?hd'
  case ht => intro _ _; exact rfl
  case hd => decide
  case hd' => decide
  case hsub => walk_at "sub"
  case hI =>
    refine ⟨_, rfl, ?_, rfl⟩
    intro p hp
    simp only [List.mem_cons, List.not_mem_nil, or_false] at hp
    rcases hp with rfl | rfl | rfl <;> exact ⟨by decide, by exact Sz.dec (by decide), by exact Sz.dec (by decide), by decide⟩
  case hturn =>
    rintro pre x post ρ hl ⟨cs, hc3, hcs, rfl⟩
    obtain ⟨k, -, rfl⟩ := List.mem_map.mp (show x ∈ l.map D.int by rw [hl]; simp)
    repeat' walk_at "to"
    all_goals first | (exfalso; revert a'; fail) | decide | skip
    have b8 : 0 ≤ k.fmod 8 ∧ k.fmod 8 < 8 := ⟨Int.fmod_nonneg_of_pos _ (by decide), Int.fmod_lt_of_pos _ (by decide)⟩
    have b3 : 0 ≤ (k.fdiv 8).fmod 3 ∧ (k.fdiv 8).fmod 3 < 3 := ⟨Int.fmod_nonneg_of_pos _ (by decide), Int.fmod_lt_of_pos _ (by decide)⟩
    have b4 : 0 ≤ (k.fdiv 24).fmod 3 ∧ (k.fdiv 24).fmod 3 < 3 := ⟨Int.fmod_nonneg_of_pos _ (by decide), Int.fmod_lt_of_pos _ (by decide)⟩
    have b5 : 0 ≤ (k.fdiv 72).fmod 121 ∧ (k.fdiv 72).fmod 121 < 121 := ⟨Int.fmod_nonneg_of_pos _ (by decide), Int.fmod_lt_of_pos _ (by decide)⟩
    have b6 : 0 ≤ (k.fdiv 8712).fmod 25 ∧ (k.fdiv 8712).fmod 25 < 25 := ⟨Int.fmod_nonneg_of_pos _ (by decide), Int.fmod_lt_of_pos _ (by decide)⟩
    generalize k.fmod 8 = w at *
    generalize (k.fdiv 8).fmod 3 = i at *
    generalize (k.fdiv 24).fmod 3 = j at *
    generalize (k.fdiv 72).fmod 121 = t at *
    generalize (k.fdiv 8712).fmod 25 = u at *
    have at3 : ∀ i : Int, 0 ≤ i ∧ i < 3 → ∃ a, a ∈ cs ∧ (cs.map fun p => dR p)[i.toNat]? = some (dR a) := fun i hi => by
      have hl : i.toNat < cs.length := by omega
      exact ⟨cs[i.toNat], List.getElem_mem hl, by rw [List.getElem?_map, List.getElem?_eq_getElem hl]; rfl⟩
    obtain ⟨a, ham, hia⟩ := at3 i b3
    obtain ⟨b, hbm, hjb⟩ := at3 j b4
    have ha := hcs a ham
    have hb := hcs b hbm
    have hT := turn_ok (t := t - 60) (m := u - 12) b8 ha hb (by omega) (by omega)
    have hD := dec_ok (t := t - 60) (m := u - 12) (by omega) (by omega)
    have hC := dec_cat (t := t - 60) (m := u - 12) (by omega) (by omega)
    have hz : Sz 40 (t - 60) ∧ Sz 40 (u - 12) := ⟨Nat.lt_of_lt_of_le (show (t - 60).natAbs < 100 by omega) (by decide), Nat.lt_of_lt_of_le (show (u - 12).natAbs < 100 by omega) (by decide)⟩
    have ha4 := ha.ok.mono (k := 400) (by decide)
    have hb4 := hb.ok.mono (k := 400) (by decide)
    repeat' walk_at "to"
    with_reducible refine law_due_s F (by omega) b8 ha4 hb4 hz hD hC ?_
    rcases hT with ⟨e1, e2⟩ | ⟨d, f, e1, e2, T⟩
    · rw [e1]
      simp only [dO]
      repeat' walk_at "to"
      with_reducible refine law_done_s F (by omega) b8 ha4 hb4 hz hD ?_
      rw [e2]
      simp only [dO]
      repeat' walk_at "ev"
      exact ⟨[(S' "cells", .own, .lst (cs.map fun p => dR p)), (S' "numbers", .old, .lst (l.map .int))], by walk_at "sub", cs, hc3, hcs, rfl⟩
    · rw [e1]
      simp only [dO]
      repeat' walk_at "to"
      with_reducible refine law_done_s F (by omega) b8 ha4 hb4 hz hD ?_
      rw [e2]
      simp only [dO]
      have i1 : isF f d.1 d.2 = true := by
        unfold isF
        rw [decide_eq_true (show 1 ≤ f.2 by have := T.fpos; omega), decide_eq_true T.cross, decide_eq_true T.cop]; rfl
      have f1 := T.f1
      have f2 := T.f2
      have d1 := T.d1
      have d2 := T.d2
      repeat' walk_at "ev"
      · exact ⟨f1.mono (by decide), f2.mono (by decide)⟩
      · exact d1.mono (by decide)
      · exact d2.mono (by decide)
      · rename_i q; exact absurd ((congrArg not i1).symm.trans q) (by simp)
      with_reducible refine law_one_s F (by omega) ⟨f1.mono (by decide), f2.mono (by decide)⟩ (one_ok T.fpos ⟨f1.mono (by decide), f2.mono (by decide)⟩ T.cop) ?_
      repeat' walk_at "ev"
      with_reducible refine' EX_forM cs (fun p => dR p) (fun _ ρ => ρ = [(S' "found", .new, dR f), (S' "due", .new, dR d), (S' "word", .new, .int w), (S' "one", .new, .int i), (S' "cells", .own, .lst (cs.map fun p => dR p)), (S' "numbers", .old, .lst (l.map .int))]) ?hcell ?hcturn ?hcfin ?hs ?ht
      case hs => intro _; exact rfl
      case ht => intro _ _; exact rfl
      case hcell =>
        repeat' walk_at "ev"
        exact ⟨Itb.lst, _, by walk_at "sub", rfl⟩
      case hcturn =>
        rintro pre2 p post2 ρ hl2 rfl
        have hp := hcs p (by rw [hl2]; simp)
        have p1 := hp.s1
        have p2 := hp.s2
        have hcmp := T.cmp (p := p)
        repeat' walk_at "ev"
        · exact ⟨f1.mono (by decide), f2.mono (by decide), p1.mono (by decide), p2.mono (by decide)⟩
        · walk_at "sm"
        · walk_at "sm"
        · rename_i q; exact absurd hcmp q
        · exact ⟨[(S' "found", .new, dR f), (S' "due", .new, dR d), (S' "word", .new, .int w), (S' "one", .new, .int i), (S' "cells", .own, .lst (cs.map fun p => dR p)), (S' "numbers", .old, .lst (l.map .int))], by walk_at "sub", rfl⟩
      case hcfin =>
        rintro ρ rfl
        repeat' walk_at "ev"
        with_reducible refine' EX_setitem ?hx ?fl ?h ?hs ?hw ?hd ?hd'
        case hx => exact rfl
        case fl => exact flats_R cs
        case hs => exact rfl
        case hw => exact rfl
        case hd => decide
        case hd' => decide
        case h =>
          have hnext := cell_next b8 T.fpos T.cop
          have e9 : (10 : Int) ^ Int.toNat 9 = 10 ^ 9 := rfl
          with_reducible refine TV.mono (P := fun d' => d' = dR (if ((f.1.natAbs : Int) < 10 ^ 9 ∧ f.2 < 10 ^ 9) then f else (w, 1))) ?_ ?_
          · repeat' walk_at "ev"
            · rename_i q1 q2; rw [e9] at q1 q2; rw [if_pos ⟨q1, q2⟩]
            · rename_i q1 q2; rw [e9] at q1 q2; rw [if_neg (fun z => q2 z.2)]
            · rename_i q1; rw [e9] at q1; rw [if_neg (fun z => q1 z.1)]
          generalize (if ((f.1.natAbs : Int) < 10 ^ 9 ∧ f.2 < 10 ^ 9) then f else (w, 1)) = g at hnext ⊢
          rintro _ rfl
          refine ⟨rfl, ?_⟩
          repeat' walk_at "ev"
          refine ⟨b3.1, by rw [List.length_map]; omega, by omega, [(S' "numbers", .old, .lst (l.map .int))], Kept.of (List.forall_mem_cons.mpr ⟨⟨rfl, rfl, .inl rfl⟩, List.forall_mem_nil _⟩), ?_⟩
          repeat' walk_at "ev"
          refine ⟨[(S' "cells", .own, .lst ((cs.set i.toNat g).map fun p => dR p)), (S' "numbers", .old, .lst (l.map .int))], by rw [List.map_set]; walk_at "sub", cs.set i.toNat g, by simpa using hc3, ?_, rfl⟩
          intro p hp
          rcases List.mem_or_eq_of_mem_set hp with hp | rfl
          · exact hcs p hp
          · exact hnext
  case hfin =>
    rintro ρ ⟨cs, hc3, hcs, rfl⟩
    repeat' walk_at "ev"
    exact h
end
end
section
theorem flats_B (q : List (Int × Bool × (Int × Int))) : flats (q.map fun b => dB b) = true := by
  induction q with
  | nil => rfl
  | cons x r ih => rw [List.map_cons]; unfold flats; rw [ih]; rfl
def bndI (n : Int) : Int × Bool × (Int × Int) := (n.fmod 2, decide ((n.fdiv 2).fmod 2 = 1), redF ((n.fdiv 4).fmod 41 - 20) ((n.fdiv 164).fmod 6 + 1))
def boundsI (l : List Int) : List (Int × Bool × (Int × Int)) := [(0, false, (-100, 1)), (1, false, (100, 1))] ++ l.map bndI
section
variable {c : Cx} {n : Nat} {P : D → Prop}
theorem law_bounds_s (F : Facts c) {l : List Int} (hn : 3 ≤ n) (hlen : l.length ≤ 1000) (h : P (.lst ((boundsI l).map fun b => dB b))) : FNn c n (S' "_law_bounds") [.lst (l.map .int)] P := by
  refine FNn_at 2 hn fun m hm => FNn_introT (F.fn 50 _ _ _ _ _ _ _ _ _ _ rfl) (by decide) rfl (by walk_at "bind") (by decide) ?_
  intro L a' cd
  with_reducible refine' EX_ownList ?_ ?hx ?hs
  case hx => exact .inl rfl
  case hs => exact rfl
  repeat' walk_at "ev"
  with_reducible refine' EX_forOld (l.map D.int) (fun pre ρ => ∃ q : List Int, pre = q.map D.int ∧ ρ = [(S' "found", .own, .lst ((boundsI q).map fun b => dB b)), (S' "numbers", .old, .lst (l.map .int))]) rfl (ρ₀ := [(S' "found", .own, .lst ((boundsI []).map fun b => dB b)), (S' "numbers", .old, .lst (l.map .int))]) ?hsub ?hI ?hturn ?hfin ?ht ?hd ?hd'
  case ht => intro _ _; exact rfl
  case hd => decide
  case hd' => decide
  case hsub => walk_at "sub"
  case hI => exact ⟨[], rfl, rfl⟩
  case hturn =>
    rintro pre x post ρ hl ⟨q, rfl, rfl⟩
    obtain ⟨k, -, rfl⟩ := List.mem_map.mp (show x ∈ l.map D.int by rw [hl]; simp)
    have hql : q.length ≤ 1000 := by
      have := congrArg List.length hl
      simp at this
      omega
    have b3 : 0 ≤ (k.fdiv 164).fmod 6 ∧ (k.fdiv 164).fmod 6 < 6 := ⟨Int.fmod_nonneg_of_pos _ (by decide), Int.fmod_lt_of_pos _ (by decide)⟩
    repeat' walk_at "ev"
    with_reducible refine' EX_append ?hx ?fl ?hle ?h ?hline ?htrees ?hi ?hs ?hd ?hd'
    case hx => exact rfl
    case fl => exact flats_B _
    case hle => rw [List.length_map]; unfold boundsI; simp; omega
    case hline => exact rfl
    case htrees => exact rfl
    case hi => exact rfl
    case hs => exact rfl
    case hd => decide
    case hd' => decide
    case h =>
      repeat' walk_at "ev"
      all_goals first | decide | omega | (exact Nat.lt_of_lt_of_le (show ((k.fdiv 164).fmod 6 + 1).natAbs < 100 by omega) (by decide)) | skip
      refine ⟨rfl, [(S' "numbers", .old, .lst (l.map .int))], Kept.of (List.forall_mem_cons.mpr ⟨⟨rfl, rfl, .inl rfl⟩, List.forall_mem_nil _⟩), ?_⟩
      repeat' walk_at "ev"
      refine ⟨[(S' "found", .own, .lst ((boundsI (q ++ [k])).map fun b => dB b)), (S' "numbers", .old, .lst (l.map .int))], ?_, q ++ [k], by rw [List.map_append]; rfl, rfl⟩
      rw [show (boundsI (q ++ [k])).map (fun b => dB b) = (boundsI q).map (fun b => dB b) ++ [dB (bndI k)] by unfold boundsI; simp]
      walk_at "sub"
  case hfin =>
    rintro ρ ⟨q, hq, rfl⟩
    have : q = l := by
      have : Function.Injective D.int := fun a b e => by cases e; rfl
      exact (List.map_inj_right (fun a b e => this e)).mp hq.symm
    subst this
    repeat' walk_at "ev"
    exact h
end
end
section
abbrev Dlt := (Int × Int) × (Int × Int)
/-- a delta of the bounds -/
structure DOk (x : Dlt) : Prop where
  q0 : 0 < x.1.2
  q6 : x.1.2 ≤ 6
  p : -100 ≤ x.1.1 ∧ x.1.1 ≤ 100
  k1 : x.2.2 = 1
  k : -1 ≤ x.2.1 ∧ x.2.1 ≤ 1
/-- its place in the order -/
def rk (x : Dlt) : Int := 1000 * (x.1.1 * (60 / x.1.2)) + x.2.1
def dcmpI (x y : Dlt) : Int := if cmpR x.1 y.1 ≠ 0 then cmpR x.1 y.1 else cmpR x.2 y.2
theorem DOk.sixty {x : Dlt} (h : DOk x) : x.1.2 * (60 / x.1.2) = 60 := by
  obtain ⟨⟨p, q⟩, k, e⟩ := x
  have h1 := h.q0
  have h2 := h.q6
  dsimp only at h1 h2 ⊢
  have : q = 1 ∨ q = 2 ∨ q = 3 ∨ q = 4 ∨ q = 5 ∨ q = 6 := by omega
  rcases this with rfl | rfl | rfl | rfl | rfl | rfl <;> decide
theorem DOk.okd {x : Dlt} (h : DOk x) : OkD 40 x := by
  have h1 := h.q0
  have h2 := h.q6
  have h3 := h.p
  have h4 := h.k
  have h5 := h.k1
  have b : ∀ z : Int, -100 ≤ z ∧ z ≤ 100 → Sz 40 z := fun z hz => Nat.lt_of_lt_of_le (show z.natAbs < 128 by omega) (by decide)
  exact ⟨⟨by omega, b _ h3, b _ (by omega)⟩, by omega, b _ (by omega), b _ (by omega)⟩
theorem sgn_congr {A B C E : Int} (h1 : A = B ↔ C = E) (h2 : B < A ↔ E < C) : sgnI A B = sgnI C E := by
  unfold sgnI
  by_cases h : A = B
  · rw [if_pos h, if_pos (h1.mp h)]
  · rw [if_neg h, if_neg (fun q => h (h1.mpr q))]
    by_cases h' : B < A
    · rw [if_pos h', if_pos (h2.mp h')]
    · rw [if_neg h', if_neg (fun q => h' (h2.mpr q))]
theorem sgnI_lin {P Q k l T : Int} (hT : 1000 ≤ T) (hk : -1 ≤ k ∧ k ≤ 1) (hl : -1 ≤ l ∧ l ≤ 1) : sgnI (T * P + 60 * k) (T * Q + 60 * l) = sgnI (1000 * P + k) (1000 * Q + l) := by
  rcases Int.lt_trichotomy P Q with h | h | h
  · have := Int.mul_le_mul_of_nonneg_left (show P + 1 ≤ Q by omega) (show 0 ≤ T by omega)
    rw [Int.mul_add, Int.mul_one] at this
    exact sgn_congr (by omega) (by omega)
  · subst h
    exact sgn_congr (by omega) (by omega)
  · have := Int.mul_le_mul_of_nonneg_left (show Q + 1 ≤ P by omega) (show 0 ≤ T by omega)
    rw [Int.mul_add, Int.mul_one] at this
    exact sgn_congr (by omega) (by omega)
theorem ord_rank {x y : Dlt} (hx : DOk x) (hy : DOk y) : ordI x y (1, 10 ^ 10) = sgnI (rk x) (rk y) := by
  have ex := hx.sixty
  have ey := hy.sixty
  have x0 := hx.q0
  have y0 := hy.q0
  have kx := hx.k
  have ky := hy.k
  have kx1 := hx.k1
  have ky1 := hy.k1
  unfold ordI valI rk
  obtain ⟨⟨p, q⟩, k, e⟩ := x
  obtain ⟨⟨p', q'⟩, k', e'⟩ := y
  dsimp only at *
  subst kx1
  subst ky1
  generalize 60 / q = u at *
  generalize 60 / q' = v at *
  have hT : (1000 : Int) ≤ 10 ^ 10 := by decide
  generalize (10 : Int) ^ 10 = T at *
  rw [← sgnI_lin hT kx ky]
  have hq : 0 < q * q' := Int.mul_pos x0 y0
  refine sgn_scale (k := 60) (l := q * q' * T) (by decide) (Int.mul_pos hq (by omega)) ?_
  have e1 : 60 * (p * q') = q * q' * (p * u) := by rw [← ex]; grind
  have e2 : 60 * (p' * q) = q * q' * (p' * v) := by rw [← ey]; grind
  have : 60 * ((p * 1 * T + k * 1 * q) * (q' * 1 * T) - (p' * 1 * T + k' * 1 * q') * (q * 1 * T)) = T * (T * (60 * (p * q')) - T * (60 * (p' * q)) + 60 * (q * q') * (k - k')) := by grind
  rw [this, e1, e2]
  grind
theorem cmpR_rank {x y : Dlt} (hx : DOk x) (hy : DOk y) : cmpR x.1 y.1 = sgnI (x.1.1 * (60 / x.1.2)) (y.1.1 * (60 / y.1.2)) := by
  have ex := hx.sixty
  have ey := hy.sixty
  have x0 := hx.q0
  have y0 := hy.q0
  unfold cmpR
  rw [cmpI_eq]
  obtain ⟨⟨p, q⟩, k, e⟩ := x
  obtain ⟨⟨p', q'⟩, k', e'⟩ := y
  dsimp only at *
  generalize 60 / q = u at *
  generalize 60 / q' = v at *
  refine sgn_scale (k := 60) (l := q * q') (by decide) (Int.mul_pos x0 y0) ?_
  have e1 : 60 * (p * q') = q * q' * (p * u) := by rw [← ex]; grind
  have e2 : 60 * (p' * q) = q * q' * (p' * v) := by rw [← ey]; grind
  rw [Int.mul_sub, e1, e2]; grind
theorem dcmp_rank {x y : Dlt} (hx : DOk x) (hy : DOk y) : dcmpI x y = sgnI (rk x) (rk y) := by
  have kx := hx.k
  have ky := hy.k
  have kx1 := hx.k1
  have ky1 := hy.k1
  unfold dcmpI
  rw [cmpR_rank hx hy]
  unfold rk cmpR
  rw [cmpI_eq, kx1, ky1]
  generalize x.1.1 * (60 / x.1.2) = P at *
  generalize y.1.1 * (60 / y.1.2) = Q at *
  generalize x.2.1 = k at *
  generalize y.2.1 = l at *
  rw [Int.mul_one, Int.mul_one]
  unfold sgnI
  by_cases h1 : P = Q
  · subst h1
    simp only [if_true, ne_eq, not_true_eq_false, if_false]
    by_cases h2 : k = l
    · rw [if_pos h2, if_pos (show 1000 * P + k = 1000 * P + l by omega)]
    · rw [if_neg h2, if_neg (show ¬ 1000 * P + k = 1000 * P + l by omega)]
      by_cases h3 : l < k
      · rw [if_pos h3, if_pos (show 1000 * P + l < 1000 * P + k by omega)]
      · rw [if_neg h3, if_neg (show ¬ 1000 * P + l < 1000 * P + k by omega)]
  · rw [if_neg h1, if_neg (show ¬ 1000 * P + k = 1000 * Q + l by omega)]
    by_cases h3 : Q < P
    · rw [if_pos h3, if_pos (show 1000 * Q + l < 1000 * P + k by omega), if_pos (by decide)]
    · rw [if_neg h3, if_neg (show ¬ 1000 * Q + l < 1000 * P + k by omega), if_pos (by decide)]
theorem sgn_pos {a b : Int} : 0 < sgnI a b ↔ b < a := by rw [← cmpI_eq]; exact cmpI_pos
theorem sgn_neg {a b : Int} : sgnI a b < 0 ↔ a < b := by rw [← cmpI_eq]; exact cmpI_neg
theorem sgn_zero {a b : Int} : sgnI a b = 0 ↔ a = b := by rw [← cmpI_eq]; exact cmpI_zero
end
section
/-- p stands for t / b -/
structure Val (p : Int × Int) (t b : Int) : Prop where
  pos : p.2 ≠ 0
  b0 : b ≠ 0
  eq : p.1 * b = p.2 * t
theorem Val.self {p : Int × Int} (h : p.2 ≠ 0) : Val p p.1 p.2 := ⟨h, h, Int.mul_comm _ _⟩
theorem Val.red {N D t b : Int} (hD : D ≠ 0) (hb : b ≠ 0) (h : N * b = D * t) : Val (redF N D) t b := by
  have L := redF_low (t := N) hD
  have := L.cross
  refine ⟨by have := L.pos; omega, hb, Int.eq_of_mul_eq_mul_left hD ?_⟩
  grind
theorem isF_red {N D t b : Int} (hD : D ≠ 0) (h : N * b = D * t) : isF (redF N D) t b = true := by
  have L := redF_low (t := N) hD
  have l1 := L.cross
  have l2 := L.pos
  unfold isF
  rw [decide_eq_true (show 1 ≤ (redF N D).2 by omega), decide_eq_true L.cop, decide_eq_true (?_ : (redF N D).1 * b = (redF N D).2 * t)]
  · rfl
  · refine Int.eq_of_mul_eq_mul_left hD ?_
    grind
theorem Val.addN {p q : Int × Int} {t b u d : Int} (h : Val p t b) (h' : Val q u d) : (p.1 * q.2 + q.1 * p.2) * (b * d) = p.2 * q.2 * (t * d + u * b) := by
  have := h.eq
  have := h'.eq
  grind
theorem Val.add {p q : Int × Int} {t b u d : Int} (h : Val p t b) (h' : Val q u d) : Val (addF p q) (t * d + u * b) (b * d) :=
  .red (Int.mul_ne_zero h.pos h'.pos) (Int.mul_ne_zero h.b0 h'.b0) (h.addN h')
theorem Val.sub {p q : Int × Int} {t b u d : Int} (h : Val p t b) (h' : Val q u d) : Val (subF p q) (t * d - u * b) (b * d) := by
  refine .red (Int.mul_ne_zero h.pos h'.pos) (Int.mul_ne_zero h.b0 h'.b0) ?_
  have := h.eq
  have := h'.eq
  grind
theorem Val.mul {p q : Int × Int} {t b u d : Int} (h : Val p t b) (h' : Val q u d) : Val (mulF p q) (t * u) (b * d) := by
  refine .red (Int.mul_ne_zero h.pos h'.pos) (Int.mul_ne_zero h.b0 h'.b0) ?_
  have := h.eq
  have := h'.eq
  grind
theorem isF_add {p q : Int × Int} {t1 b1 t2 b2 t b : Int} (h : Val p t1 b1) (h' : Val q t2 b2) (e : (t1 * b2 + t2 * b1) * b = b1 * b2 * t) : isF (addF p q) t b = true := by
  refine isF_red (Int.mul_ne_zero h.pos h'.pos) ?_
  refine Int.eq_of_mul_eq_mul_left (Int.mul_ne_zero h.b0 h'.b0) ?_
  have a := h.addN h'
  generalize p.1 * q.2 + q.1 * p.2 = N at *
  generalize p.2 * q.2 = M at *
  generalize t1 * b2 + t2 * b1 = T at *
  generalize b1 * b2 = B at *
  grind
theorem sums_ok {x y : Dlt} {r : Int × Int} (hx : x.1.2 ≠ 0 ∧ x.2.2 ≠ 0) (hy : y.1.2 ≠ 0 ∧ y.2.2 ≠ 0) (hr : r.2 ≠ 0) : ∀ s : Int × Int, s = (0, 1) ∨ s = (1, 1) →
      isF (addF (addF x.1 y.1) (mulF (addF x.2 y.2) s)) ((valI x s).1 * (valI y s).2 + (valI y s).1 * (valI x s).2) ((valI x s).2 * (valI y s).2) = true ∧
      isF (addF (subF x.1 y.1) (mulF (subF x.2 y.2) s)) ((valI x s).1 * (valI y s).2 - (valI y s).1 * (valI x s).2) ((valI x s).2 * (valI y s).2) = true ∧
      isF (addF (mulF x.1 r) (mulF (mulF x.2 r) s)) ((valI x s).1 * r.1) ((valI x s).2 * r.2) = true := by
  intro s hs
  have s0 : s.2 = 1 := by rcases hs with rfl | rfl <;> rfl
  have v1 := Val.self hx.1
  have v2 := Val.self hx.2
  have w1 := Val.self hy.1
  have w2 := Val.self hy.2
  have vr := Val.self hr
  have vs := Val.self (p := s) (by omega)
  refine ⟨isF_add (v1.add w1) ((v2.add w2).mul vs) ?_, isF_add (v1.sub w1) ((v2.sub w2).mul vs) ?_, isF_add (v1.mul vr) ((v2.mul vr).mul vs) ?_⟩
  all_goals
    unfold valI
    dsimp only
    rw [s0]
    clear hs s0 v1 v2 w1 w2 vr vs hx hy hr
    generalize x.1.1 = a
    generalize x.1.2 = b
    generalize x.2.1 = k
    generalize x.2.2 = e
    generalize y.1.1 = a'
    generalize y.1.2 = b'
    generalize y.2.1 = k'
    generalize y.2.2 = e'
    generalize r.1 = r1
    generalize r.2 = r2
    generalize s.1 = s1
    grind
theorem dle {x y : Dlt} (hx : DOk x) (hy : DOk y) : rk x ≤ rk y ↔ x.1.1 * y.1.2 < y.1.1 * x.1.2 ∨ (x.1.1 * y.1.2 = y.1.1 * x.1.2 ∧ x.2.1 ≤ y.2.1) := by
  have h := dcmp_rank hx hy
  have h1 : rk x ≤ rk y ↔ ¬ 0 < dcmpI x y := by rw [h, sgn_pos]; omega
  rw [h1]
  have e1 := hx.k1
  have e2 := hy.k1
  unfold dcmpI cmpR
  rw [e1, e2, cmpI_eq, cmpI_eq, Int.mul_one, Int.mul_one]
  generalize x.1.1 * y.1.2 = A
  generalize y.1.1 * x.1.2 = B
  generalize x.2.1 = k
  generalize y.2.1 = l
  unfold sgnI
  by_cases e : A = B
  · subst e
    simp
    by_cases e' : k = l
    · simp [e']
    · by_cases e'' : l < k <;> simp [e', e''] <;> omega
  · by_cases e'' : B < A <;> simp [e, e''] <;> omega
end
section
theorem sub_pos {p q : Int × Int} (hp : 0 < p.2) (hq : 0 < q.2) : 0 < (subF p q).1 ↔ q.1 * p.2 < p.1 * q.2 := by
  have hD : 0 < p.2 * q.2 := Int.mul_pos hp hq
  have L := redF_low (t := p.1 * q.2 + -q.1 * p.2) (b := p.2 * q.2) (by omega)
  have l1 := L.cross
  have l2 := L.pos
  unfold subF
  generalize redF (p.1 * q.2 + -q.1 * p.2) (p.2 * q.2) = f at *
  rw [Int.neg_mul] at l1
  generalize p.2 * q.2 = D at *
  generalize hN : p.1 * q.2 + -(q.1 * p.2) = N at *
  have e1 : 0 < f.1 ↔ 0 < f.1 * D := ⟨fun h => Int.mul_pos h hD, fun h => Int.pos_of_mul_pos_left h hD⟩
  have e2 : 0 < N ↔ 0 < f.2 * N := ⟨fun h => Int.mul_pos l2 h, fun h => Int.pos_of_mul_pos_right h l2⟩
  rw [e1, l1, ← e2]
  omega
/-- a room: its size -/
structure RoomIs (x y : Dlt) (p : Int × Int) : Prop where
  pos : 0 < p.2
  top : 0 < p.1
  cop : Int.gcd p.1 p.2 = 1
  eq : p.1 * (x.1.2 * y.1.2 * (x.2.1 - y.2.1)) = p.2 * (y.1.1 * x.1.2 - x.1.1 * y.1.2)
  lt : x.1.1 * y.1.2 < y.1.1 * x.1.2
  kl : y.2.1 < x.2.1
theorem room_is {x y : Dlt} {p : Int × Int} (hx : DOk x) (hy : DOk y) (h : roomI x y = some p) : RoomIs x y p := by
  have x0 := hx.q0
  have y0 := hy.q0
  have kx := hx.k1
  have ky := hy.k1
  unfold roomI at h
  split at h
  · rename_i q
    cases h
    obtain ⟨q1, q2⟩ := q
    rw [cmpI_pos] at q1 q2
    have s1 := (sub_pos y0 x0).mp q1
    have s2 := (sub_pos (p := x.2) (q := y.2) (by omega) (by omega)).mp q2
    rw [kx, ky, Int.mul_one, Int.mul_one] at s2
    have v1 := (Val.self (p := y.1) (by omega)).sub (Val.self (p := x.1) (by omega))
    have v2 := (Val.self (p := x.2) (by omega)).sub (Val.self (p := y.2) (by omega))
    rw [kx, ky] at v2
    have w1 := v1.eq
    have w2 := v2.eq
    have w3 := v1.pos
    have w4 := v2.pos
    generalize subF y.1 x.1 = f at *
    generalize subF x.2 y.2 = g at *
    have hD : f.2 * g.1 ≠ 0 := Int.mul_ne_zero w3 (by omega)
    have L := redF_low (t := f.1 * g.2) hD
    have l1 := L.cross
    have l2 := L.pos
    have l3 := L.cop
    unfold divF
    generalize redF (f.1 * g.2) (f.2 * g.1) = r at *
    have e : r.1 * (x.1.2 * y.1.2 * (x.2.1 - y.2.1)) = r.2 * (y.1.1 * x.1.2 - x.1.1 * y.1.2) := by
      refine Int.eq_of_mul_eq_mul_left hD ?_
      have a1 : r.1 * (f.2 * g.1) * (x.1.2 * y.1.2 * (x.2.1 - y.2.1)) = r.2 * (f.1 * g.2) * (x.1.2 * y.1.2 * (x.2.1 - y.2.1)) := by rw [l1]
      generalize hA : y.1.1 * x.1.2 - x.1.1 * y.1.2 = A at *
      generalize hB : x.2.1 - y.2.1 = B at *
      have a2 : g.1 = g.2 * B := by grind
      have a3 : f.1 * (x.1.2 * y.1.2) = f.2 * A := by grind
      generalize x.1.2 * y.1.2 = C at *
      grind
    refine ⟨l2, ?_, l3, e, s1, s2⟩
    have m1 : 0 < x.1.2 * y.1.2 * (x.2.1 - y.2.1) := Int.mul_pos (Int.mul_pos x0 y0) (by omega)
    refine Int.pos_of_mul_pos_left (b := x.1.2 * y.1.2 * (x.2.1 - y.2.1)) ?_ m1
    rw [e]
    exact Int.mul_pos l2 (by omega)
  · cases h
theorem room_none {x y : Dlt} (hx : DOk x) (hy : DOk y) (h : roomI x y = none) : ¬ (x.1.1 * y.1.2 < y.1.1 * x.1.2 ∧ y.2.1 < x.2.1) := by
  have x0 := hx.q0
  have y0 := hy.q0
  have kx := hx.k1
  have ky := hy.k1
  unfold roomI at h
  split at h
  · cases h
  · rename_i q
    rw [cmpI_pos, cmpI_pos, sub_pos y0 x0, sub_pos (by omega) (by omega), kx, ky, Int.mul_one, Int.mul_one] at q
    exact q
theorem RoomIs.isf {x y : Dlt} {p : Int × Int} (h : RoomIs x y p) : isF p p.1 p.2 = true := by
  have h1 := h.pos
  unfold isF
  rw [decide_eq_true (show 1 ≤ p.2 by omega), decide_eq_true h.cop, decide_eq_true (Int.mul_comm _ _)]
  rfl
theorem sgnI_le {a b : Int} : sgnI a b ≤ 0 ↔ a ≤ b := by
  have : sgnI a b ≤ 0 ↔ ¬ 0 < sgnI a b := by omega
  rw [this, sgn_pos]; omega
theorem room_ok {x y : Dlt} (hx : DOk x) (hy : DOk y) (hle : rk x ≤ rk y) : RoomOk x y := by
  have hd := (dle hx hy).mp hle
  have kx := hx.k1
  have ky := hy.k1
  have x0 := hx.q0
  have y0 := hy.q0
  have lx := hx.k
  have ly := hy.k
  unfold RoomOk
  cases hr : roomI x y with
  | none =>
    have hn := room_none hx hy hr
    dsimp only
    unfold ordI valI
    rw [sgnI_le]
    dsimp only
    rw [kx, ky]
    have a1 : x.1.1 * y.1.2 ≤ y.1.1 * x.1.2 := by omega
    have a2 : x.2.1 ≤ y.2.1 := by omega
    have a3 : 0 < x.1.2 * y.1.2 := Int.mul_pos x0 y0
    have a4 := Int.mul_le_mul_of_nonneg_left a2 (Int.le_of_lt a3)
    have hT : 0 ≤ (10 : Int) ^ 12 := by decide
    generalize (10 : Int) ^ 12 = T at *
    have a5 := Int.mul_le_mul_of_nonneg_left a4 hT
    have e1 : (x.1.1 * 1 * 1 + x.2.1 * T * x.1.2) * (y.1.2 * 1 * 1) = x.1.1 * y.1.2 + T * (x.1.2 * y.1.2 * x.2.1) := by grind
    have e2 : (y.1.1 * 1 * 1 + y.2.1 * T * y.1.2) * (x.1.2 * 1 * 1) = y.1.1 * x.1.2 + T * (x.1.2 * y.1.2 * y.2.1) := by grind
    rw [e1, e2]
    omega
  | some p =>
    have R := room_is hx hy hr
    have r1 := R.pos
    have r2 := R.top
    have r3 := R.eq
    have r4 := R.lt
    dsimp only
    have r5 : 0 < p.2 * (p.2 * (y.1.1 * x.1.2 - x.1.1 * y.1.2)) := Int.mul_pos r1 (Int.mul_pos r1 (by omega))
    refine ⟨R.isf, by omega, ?_, ?_, ?_⟩
    · unfold ordI valI
      dsimp only
      rw [kx, ky, sgn_zero]
      have : (x.1.1 * 1 * p.2 + x.2.1 * p.1 * x.1.2) * (y.1.2 * 1 * p.2) - (y.1.1 * 1 * p.2 + y.2.1 * p.1 * y.1.2) * (x.1.2 * 1 * p.2) = p.2 * (p.1 * (x.1.2 * y.1.2 * (x.2.1 - y.2.1)) - p.2 * (y.1.1 * x.1.2 - x.1.1 * y.1.2)) := by grind
      rw [r3] at this
      simp only [Int.sub_self, Int.mul_zero] at this
      omega
    · unfold ordI valI
      dsimp only
      rw [kx, ky, sgn_neg]
      have : (y.1.1 * 1 * (2 * p.2) + y.2.1 * p.1 * y.1.2) * (x.1.2 * 1 * (2 * p.2)) - (x.1.1 * 1 * (2 * p.2) + x.2.1 * p.1 * x.1.2) * (y.1.2 * 1 * (2 * p.2)) = 2 * p.2 * (2 * (p.2 * (y.1.1 * x.1.2 - x.1.1 * y.1.2)) - p.1 * (x.1.2 * y.1.2 * (x.2.1 - y.2.1))) := by grind
      rw [r3] at this
      generalize p.2 * (y.1.1 * x.1.2 - x.1.1 * y.1.2) = W at *
      have : 2 * p.2 * (2 * W - W) = 2 * (p.2 * W) := by grind
      omega
    · unfold ordI valI
      dsimp only
      rw [kx, ky, sgn_pos]
      have : (x.1.1 * 1 * p.2 + x.2.1 * (2 * p.1) * x.1.2) * (y.1.2 * 1 * p.2) - (y.1.1 * 1 * p.2 + y.2.1 * (2 * p.1) * y.1.2) * (x.1.2 * 1 * p.2) = p.2 * (2 * (p.1 * (x.1.2 * y.1.2 * (x.2.1 - y.2.1))) - p.2 * (y.1.1 * x.1.2 - x.1.1 * y.1.2)) := by grind
      rw [r3] at this
      generalize p.2 * (y.1.1 * x.1.2 - x.1.1 * y.1.2) = W at *
      have : p.2 * (2 * W - W) = p.2 * W := by grind
      omega
abbrev Bnd := Int × Bool × (Int × Int)
/-- a bound -/
structure BOk (b : Bnd) : Prop where
  side : b.1 = 0 ∨ b.1 = 1
  q0 : 0 < b.2.2.2
  q6 : b.2.2.2 ≤ 6
  p : -100 ≤ b.2.2.1 ∧ b.2.2.1 ≤ 100
theorem BOk.delta {b : Bnd} (h : BOk b) : DOk (deltaI b) := by
  refine ⟨h.q0, h.q6, h.p, ?_, ?_⟩
  all_goals
    unfold deltaI
    dsimp only
    by_cases h1 : b.2.1 = false
    · rw [if_pos h1] <;> decide
    · rw [if_neg h1]
      by_cases h2 : b.1 = 0
      · rw [if_pos h2] <;> decide
      · rw [if_neg h2] <;> decide
theorem bounds_bok (l : List Int) : ∀ b ∈ boundsI l, BOk b := by
  intro b hb
  unfold boundsI at hb
  rcases List.mem_append.mp hb with hb | hb
  · simp only [List.mem_cons, List.not_mem_nil, or_false] at hb
    rcases hb with rfl | rfl <;> exact ⟨by decide, by decide, by decide, by decide⟩
  · obtain ⟨n, -, rfl⟩ := List.mem_map.mp hb
    have b1 : 0 ≤ n.fmod 2 ∧ n.fmod 2 < 2 := ⟨Int.fmod_nonneg_of_pos _ (by decide), Int.fmod_lt_of_pos _ (by decide)⟩
    have b2 : 0 ≤ (n.fdiv 4).fmod 41 ∧ (n.fdiv 4).fmod 41 < 41 := ⟨Int.fmod_nonneg_of_pos _ (by decide), Int.fmod_lt_of_pos _ (by decide)⟩
    have b3 : 0 ≤ (n.fdiv 164).fmod 6 ∧ (n.fdiv 164).fmod 6 < 6 := ⟨Int.fmod_nonneg_of_pos _ (by decide), Int.fmod_lt_of_pos _ (by decide)⟩
    have L := redF_low (t := (n.fdiv 4).fmod 41 - 20) (b := (n.fdiv 164).fmod 6 + 1) (by omega)
    have l1 := L.pos
    have l2 := L.le1
    have l3 := L.le2
    exact ⟨by show n.fmod 2 = 0 ∨ n.fmod 2 = 1; omega, l1, by show (redF _ _).2 ≤ 6; omega, by show -100 ≤ (redF _ _).1 ∧ (redF _ _).1 ≤ 100; omega⟩
def sideI (b e : Bnd) : Bool := decide (sgnI (b.2.2.1 * e.2.2.2) (e.2.2.1 * b.2.2.2) < if (b.2.1 || e.2.1) = true then 0 else 1)
theorem side_rank {b e : Bnd} (hb : BOk b) (he : BOk e) (h0 : b.1 = 0) (h1 : e.1 = 1) : sideI b e = true ↔ rk (deltaI b) ≤ rk (deltaI e) := by
  rw [dle hb.delta he.delta]
  obtain ⟨i, sb, lb⟩ := b
  obtain ⟨j, se, le⟩ := e
  dsimp only at h0 h1
  subst h0
  subst h1
  unfold sideI deltaI
  dsimp only
  rw [decide_eq_true_iff]
  generalize lb.1 * le.2 = A
  generalize le.1 * lb.2 = B
  have c1 : sgnI A B < 0 ↔ A < B := sgn_neg
  have c2 : sgnI A B < 1 ↔ A ≤ B := by rw [← sgnI_le]; omega
  cases sb <;> cases se <;> simp [c1, c2] <;> omega
end
section
/-- what the two loops over the rooms keep -/
structure Inv (S : Bnd → Bnd → Prop) (hp : Bool) (sm : Int × Int) : Prop where
  hp : hp = true ↔ ∀ x y, S x y → rk (deltaI x) ≤ rk (deltaI y)
  top : 0 < sm.1
  pos : 0 < sm.2
  ok : Ok 164 sm
  le : ∀ x y p, S x y → rk (deltaI x) ≤ rk (deltaI y) → roomI (deltaI x) (deltaI y) = some p → 0 < p.2 ∧ 2 * (sm.1 * p.2) ≤ p.1 * sm.2
theorem Inv.congr {S T : Bnd → Bnd → Prop} {hp : Bool} {sm : Int × Int} (I : Inv S hp sm) (h : ∀ x y, T x y ↔ S x y) : Inv T hp sm :=
  ⟨I.hp.trans ⟨fun a x y t => a x y ((h x y).mp t), fun a x y t => a x y ((h x y).mpr t)⟩, I.top, I.pos, I.ok, fun x y p t => I.le x y p ((h x y).mp t)⟩
theorem Inv.start : Inv (fun _ _ => False) true (1, 1) := ⟨by simp, by decide, by decide, ⟨by decide, by exact Sz.dec (by decide), by exact Sz.dec (by decide)⟩, fun _ _ _ t => t.elim⟩
section
variable {S : Bnd → Bnd → Prop} {hp : Bool} {sm : Int × Int} {x0 y0 : Bnd} {p : Int × Int}
abbrev Snew (S : Bnd → Bnd → Prop) (x0 y0 x y : Bnd) : Prop := S x y ∨ (x = x0 ∧ y = y0)
theorem Inv.stop (I : Inv S hp sm) (h : rk (deltaI y0) < rk (deltaI x0)) : Inv (Snew S x0 y0) false sm := by
  refine ⟨⟨fun a => (by cases a), fun a => ?_⟩, I.top, I.pos, I.ok, fun x y p t l e => ?_⟩
  · have := a x0 y0 (.inr ⟨rfl, rfl⟩)
    omega
  · rcases t with t | ⟨rfl, rfl⟩
    · exact I.le x y p t l e
    · omega
theorem Inv.hps (I : Inv S hp sm) (h : rk (deltaI x0) ≤ rk (deltaI y0)) : hp = true ↔ ∀ x y, Snew S x0 y0 x y → rk (deltaI x) ≤ rk (deltaI y) := by
  rw [I.hp]
  refine ⟨fun a x y t => ?_, fun a x y t => a x y (.inl t)⟩
  rcases t with t | ⟨rfl, rfl⟩
  · exact a x y t
  · exact h
theorem Inv.none (I : Inv S hp sm) (h : rk (deltaI x0) ≤ rk (deltaI y0)) (hr : roomI (deltaI x0) (deltaI y0) = none) : Inv (Snew S x0 y0) hp sm := by
  refine ⟨I.hps h, I.top, I.pos, I.ok, fun x y p t l e => ?_⟩
  rcases t with t | ⟨rfl, rfl⟩
  · exact I.le x y p t l e
  · rw [hr] at e; cases e
theorem half_is (hp : 0 < p.2) : 0 < (divF p (2, 1)).2 ∧ 2 * ((divF p (2, 1)).1 * p.2) = p.1 * (divF p (2, 1)).2 := by
  have L := redF_low (t := p.1 * 1) (b := p.2 * 2) (by omega)
  have l1 := L.cross
  have l2 := L.pos
  unfold divF
  dsimp only
  generalize redF (p.1 * 1) (p.2 * 2) = q at *
  refine ⟨l2, ?_⟩
  grind
theorem Inv.keep (I : Inv S hp sm) (h : rk (deltaI x0) ≤ rk (deltaI y0)) (hx : BOk x0) (hy : BOk y0) (hr : roomI (deltaI x0) (deltaI y0) = some p) (hc : ¬ cmpR (divF p (2, 1)) sm < 0) : Inv (Snew S x0 y0) hp sm := by
  have R := room_is hx.delta hy.delta hr
  have rp := R.pos
  refine ⟨I.hps h, I.top, I.pos, I.ok, fun x y p' t l e => ?_⟩
  rcases t with t | ⟨rfl, rfl⟩
  · exact I.le x y p' t l e
  · rw [hr] at e
    cases e
    refine ⟨rp, ?_⟩
    obtain ⟨q1, q2⟩ := half_is rp
    unfold cmpR at hc
    rw [cmpI_neg] at hc
    generalize divF p (2, 1) = q at *
    have a1 := Int.mul_le_mul_of_nonneg_left (Int.not_lt.mp hc) (show 0 ≤ 2 * p.2 by omega)
    have e1 : 2 * p.2 * (q.1 * sm.2) = sm.2 * (2 * (q.1 * p.2)) := by grind
    rw [e1, q2] at a1
    refine Int.le_of_mul_le_mul_left ?_ q1
    have e2 : 2 * p.2 * (sm.1 * q.2) = q.2 * (2 * (sm.1 * p.2)) := by grind
    have e3 : sm.2 * (p.1 * q.2) = q.2 * (p.1 * sm.2) := by grind
    rw [← e2, ← e3]
    exact a1
theorem Inv.take (I : Inv S hp sm) (h : rk (deltaI x0) ≤ rk (deltaI y0)) (hx : BOk x0) (hy : BOk y0) (hr : roomI (deltaI x0) (deltaI y0) = some p) (hc : cmpR (divF p (2, 1)) sm < 0) : Inv (Snew S x0 y0) hp (divF p (2, 1)) := by
  have R := room_is hx.delta hy.delta hr
  have rp := R.pos
  have rt := R.top
  have hok : Ok 164 (divF p (2, 1)) := (roomI_ok hx.delta.okd hy.delta.okd hr).div (j := 162) (k := 2) ⟨by decide, by exact Sz.dec (by decide), by exact Sz.dec (by decide)⟩ (by decide)
  obtain ⟨q1, q2⟩ := half_is rp
  have q3 : 0 < (divF p (2, 1)).1 := by
    refine Int.pos_of_mul_pos_left (b := p.2) ?_ rp
    have := Int.mul_pos rt q1
    omega
  refine ⟨I.hps h, q3, q1, hok, fun x y p' t l e => ?_⟩
  rcases t with t | ⟨rfl, rfl⟩
  · obtain ⟨b1, b2⟩ := I.le x y p' t l e
    refine ⟨b1, ?_⟩
    have s0 := I.pos
    unfold cmpR at hc
    rw [cmpI_neg] at hc
    generalize divF p (2, 1) = q at *
    have a1 := Int.mul_le_mul_of_nonneg_left (Int.le_of_lt hc) (show 0 ≤ 2 * p'.2 by omega)
    have a2 := Int.mul_le_mul_of_nonneg_left b2 (Int.le_of_lt q1)
    refine Int.le_of_mul_le_mul_left ?_ s0
    have e1 : sm.2 * (2 * (q.1 * p'.2)) = 2 * p'.2 * (q.1 * sm.2) := by grind
    have e2 : q.2 * (2 * (sm.1 * p'.2)) = 2 * p'.2 * (sm.1 * q.2) := by grind
    have e3 : sm.2 * (p'.1 * q.2) = q.2 * (p'.1 * sm.2) := by grind
    rw [e1, e3]
    rw [e2] at a2
    exact Int.le_trans a1 a2
  · rw [hr] at e
    cases e
    exact ⟨rp, by omega⟩
end
theorem keeps_low {P : Int × Int} {b : Bnd} (h0 : b.1 = 0) (h : b.2.2.1 * P.2 < P.1 * b.2.2.2 ∨ (b.2.2.1 * P.2 = P.1 * b.2.2.2 ∧ b.2.1 = false)) : keepsB P b = true := by
  unfold keepsB liesI
  rw [if_pos h0, Int.mul_one, Bool.or_eq_true, decide_eq_true_iff, Bool.and_eq_true, decide_eq_true_iff, sgn_pos, sgn_zero]
  rcases h with h | ⟨h, h'⟩
  · exact .inl h
  · exact .inr ⟨h.symm, by rw [h']; rfl⟩
theorem keeps_high {P : Int × Int} {b : Bnd} (h0 : b.1 = 1) (h : P.1 * b.2.2.2 < b.2.2.1 * P.2 ∨ (b.2.2.1 * P.2 = P.1 * b.2.2.2 ∧ b.2.1 = false)) : keepsB P b = true := by
  unfold keepsB liesI
  rw [if_neg (by omega), Bool.or_eq_true, decide_eq_true_iff, Bool.and_eq_true, decide_eq_true_iff]
  have e1 : 0 < sgnI (P.1 * b.2.2.2) (b.2.2.1 * P.2) * -1 ↔ sgnI (P.1 * b.2.2.2) (b.2.2.1 * P.2) < 0 := by omega
  have e2 : sgnI (P.1 * b.2.2.2) (b.2.2.1 * P.2) * -1 = 0 ↔ sgnI (P.1 * b.2.2.2) (b.2.2.1 * P.2) = 0 := by omega
  rw [e1, e2, sgn_neg, sgn_zero]
  rcases h with h | ⟨h, h'⟩
  · exact .inl h
  · exact .inr ⟨h.symm, by rw [h']; rfl⟩
theorem delta_low {b : Bnd} (h : b.1 = 0) : (deltaI b).2.1 = if b.2.1 = true then 1 else 0 := by
  unfold deltaI
  cases hb : b.2.1 <;> simp [h]
theorem delta_high {b : Bnd} (h : b.1 = 1) : (deltaI b).2.1 = if b.2.1 = true then -1 else 0 := by
  unfold deltaI
  cases hb : b.2.1 <;> simp [h]
theorem keeps_all {bs : List Bnd} {best : Bnd} {sm : Int × Int} (hb : ∀ b ∈ bs, BOk b) (h0 : best ∈ bs ∧ best.1 = 0) (hmax : ∀ b ∈ bs, b.1 = 0 → rk (deltaI b) ≤ rk (deltaI best))
    (I : Inv (fun x y => (x ∈ bs ∧ x.1 = 0) ∧ y ∈ bs ∧ y.1 = 1) true sm) : ∀ b ∈ bs, keepsB (addF (deltaI best).1 (mulF (deltaI best).2 sm)) b = true := by
  intro b hbm
  have hB := hb best h0.1
  have hb' := hb b hbm
  have k01 : (deltaI best).2.1 = if best.2.1 = true then 1 else 0 := delta_low h0.2
  have k1 := hB.delta.k1
  have q0 := hB.delta.q0
  have l0 := hb'.q0
  have s1 := I.top
  have s2 := I.pos
  have v1 := Val.self (p := (deltaI best).1) (by omega)
  have v2 := Val.self (p := (deltaI best).2) (by omega)
  have v3 := v2.mul (Val.self (p := sm) (by omega))
  have pp : 0 < (addF (deltaI best).1 (mulF (deltaI best).2 sm)).2 := (redF_low (t := (deltaI best).1.1 * (mulF (deltaI best).2 sm).2 + (mulF (deltaI best).2 sm).1 * (deltaI best).1.2) (b := (deltaI best).1.2 * (mulF (deltaI best).2 sm).2) (Int.mul_ne_zero (by omega) v3.pos)).pos
  have v := (v1.add v3).eq
  rw [k1] at v
  generalize addF (deltaI best).1 (mulF (deltaI best).2 sm) = P at *
  generalize hk : (deltaI best).2.1 = k at *
  have hk2 : 0 ≤ k ∧ k ≤ 1 := by rw [k01]; split <;> omega
  -- the point against a limit
  have hpt : ∀ z : Int, z = (P.1 * b.2.2.2 - b.2.2.1 * P.2) → (deltaI best).1.2 * sm.2 * z = P.2 * (sm.2 * ((deltaI best).1.1 * b.2.2.2 - b.2.2.1 * (deltaI best).1.2) + k * (sm.1 * (deltaI best).1.2 * b.2.2.2)) := by
    intro z hz
    subst hz
    generalize (deltaI best).1.1 = a at *
    generalize (deltaI best).1.2 = q at *
    grind
  have hm : 0 < (deltaI best).1.2 * sm.2 := Int.mul_pos q0 s2
  have hw : 0 < sm.1 * (deltaI best).1.2 * b.2.2.2 := Int.mul_pos (Int.mul_pos s1 q0) l0
  have e := hpt _ rfl
  generalize hz : P.1 * b.2.2.2 - b.2.2.1 * P.2 = z at *
  have zpos : 0 < sm.2 * ((deltaI best).1.1 * b.2.2.2 - b.2.2.1 * (deltaI best).1.2) + k * (sm.1 * (deltaI best).1.2 * b.2.2.2) → 0 < z := fun h => by
    have := Int.mul_pos pp h
    rw [← e] at this
    exact Int.pos_of_mul_pos_right this hm
  have zneg : sm.2 * ((deltaI best).1.1 * b.2.2.2 - b.2.2.1 * (deltaI best).1.2) + k * (sm.1 * (deltaI best).1.2 * b.2.2.2) < 0 → z < 0 := fun h => by
    have := Int.mul_neg_of_pos_of_neg pp h
    rw [← e] at this
    refine Int.lt_of_not_ge fun q => ?_
    have := Int.mul_nonneg (Int.le_of_lt hm) q
    omega
  have zzero : sm.2 * ((deltaI best).1.1 * b.2.2.2 - b.2.2.1 * (deltaI best).1.2) + k * (sm.1 * (deltaI best).1.2 * b.2.2.2) = 0 → z = 0 := fun h => by
    rw [h, Int.mul_zero] at e
    rcases Int.mul_eq_zero.mp e with h | h <;> omega
  have lim : (deltaI b).1 = b.2.2 := rfl
  rcases hb'.side with hs | hs
  · refine keeps_low hs ?_
    have hr := (dle hb'.delta hB.delta).mp (hmax b hbm hs)
    rw [lim, delta_low hs, hk] at hr
    rcases hr with hr | ⟨hr, hr'⟩
    · have a1 := Int.mul_pos s2 (show 0 < (deltaI best).1.1 * b.2.2.2 - b.2.2.1 * (deltaI best).1.2 by omega)
      have a2 := Int.mul_nonneg hk2.1 (Int.le_of_lt hw)
      have := zpos (by omega)
      omega
    · have a1 : sm.2 * ((deltaI best).1.1 * b.2.2.2 - b.2.2.1 * (deltaI best).1.2) = 0 := by rw [← hr]; simp
      rw [a1, Int.zero_add] at zpos zzero
      by_cases hk0 : k = 0
      · refine .inr ⟨?_, ?_⟩
        · have := zzero (by rw [hk0]; simp)
          omega
        · cases hstr : b.2.1 with
          | false => rfl
          | true => rw [hstr, if_pos rfl] at hr'; omega
      · have : k = 1 := by omega
        rw [this, Int.one_mul] at zpos
        have := zpos hw
        omega
  · refine keeps_high hs ?_
    have hle := (I.hp.mp rfl) best b ⟨h0, hbm, hs⟩
    have hr := (dle hB.delta hb'.delta).mp hle
    rw [lim, delta_high hs, hk] at hr
    by_cases hk0 : k = 0
    · rw [hk0, Int.zero_mul, Int.add_zero] at zneg zzero
      rcases hr with hr | ⟨hr, hr'⟩
      · have a1 := Int.mul_neg_of_pos_of_neg s2 (show (deltaI best).1.1 * b.2.2.2 - b.2.2.1 * (deltaI best).1.2 < 0 by omega)
        have := zneg a1
        omega
      · refine .inr ⟨?_, ?_⟩
        · have := zzero (by rw [hr]; simp)
          omega
        · cases hstr : b.2.1 with
          | false => rfl
          | true => rw [hstr, if_pos rfl] at hr'; omega
    · have hk1 : k = 1 := by omega
      have hh : (if b.2.1 = true then -1 else 0 : Int) ≤ 0 := by split <;> omega
      rcases hr with hr | ⟨hr, hr'⟩
      · cases hro : roomI (deltaI best) (deltaI b) with
        | none =>
          refine absurd ?_ (room_none hB.delta hb'.delta hro)
          rw [lim, delta_high hs, hk]
          exact ⟨hr, by omega⟩
        | some p =>
          have R := room_is hB.delta hb'.delta hro
          obtain ⟨_, hle2⟩ := I.le best b p ⟨h0, hbm, hs⟩ hle hro
          have re := R.eq
          have rp := R.pos
          have rt := R.top
          rw [lim, delta_high hs, hk] at re
          rw [hk1, Int.one_mul] at zneg
          have := zneg ?_
          · omega
          generalize (if b.2.1 = true then -1 else 0 : Int) = hk' at *
          generalize (deltaI best).1.2 = q at *
          generalize (deltaI best).1.1 = a at *
          generalize b.2.2.2 = l at *
          generalize hW : b.2.2.1 * q - a * l = W at *
          have hql : 0 < q * l := Int.mul_pos q0 l0
          have b1 : p.1 * (q * l) ≤ p.2 * W := by
            rw [← re]
            refine Int.mul_le_mul_of_nonneg_left ?_ (Int.le_of_lt rt)
            have := Int.mul_le_mul_of_nonneg_left (show 1 ≤ k - hk' by omega) (Int.le_of_lt hql)
            rwa [Int.mul_one] at this
          have b2 := Int.mul_le_mul_of_nonneg_left b1 (Int.le_of_lt s2)
          have b3 := Int.mul_le_mul_of_nonneg_right hle2 (Int.le_of_lt hql)
          have b4 : p.2 * (2 * (sm.1 * q * l)) ≤ p.2 * (sm.2 * W) := by
            have e1 : p.2 * (2 * (sm.1 * q * l)) = 2 * (sm.1 * p.2) * (q * l) := by grind
            have e2 : sm.2 * (p.1 * (q * l)) = p.1 * sm.2 * (q * l) := by grind
            have e3 : p.2 * (sm.2 * W) = sm.2 * (p.2 * W) := by grind
            rw [e1, e3]
            rw [e2] at b2
            exact Int.le_trans b3 b2
          have b5 := Int.le_of_mul_le_mul_left b4 rp
          have : sm.2 * (a * l - b.2.2.1 * q) = - (sm.2 * W) := by rw [← hW]; grind
          omega
      · omega
end
section
abbrev fD (b : Bnd) : D := dD (deltaI b)
section
local macro_rules | `(tactic| walk_at "ev") => `(tactic| first | ((with_reducible refine' O2_itemL ?h1 ?h2 ?h3 ?_ ?hs); (case h3 => with_reducible assumption); (case h1 => omega); (case h2 => omega); (case hs => intro _ _; with_unfolding_all rfl)) | fail "no item")
variable {c : Cx} {n : Nat} {P : D → Prop}
theorem law_bounds_right_s (F : Facts c) {l : List Int} (hn : 9 ≤ n) (hlen : l.length ≤ 100) (h : P (.bool true)) : FNn c n (S' "_law_bounds_right") [.lst (l.map .int)] P := by
  refine FNn_at 8 hn fun m hm => FNn_intro (F.fn 52 _ _ _ _ _ _ _ _ _ _ rfl) (by decide) rfl (by walk_at "bind") (by decide) ?_
  intro mu L a' cd
  repeat' walk_at "ev"
  with_reducible refine law_bounds_s F (by omega) (by omega) ?_
  have hB := bounds_bok l
  obtain ⟨Lr, hLo⟩ : ∃ r, (boundsI l).filter (fun b => decide (b.1 = 0)) = (0, false, (-100, 1)) :: r := ⟨_, rfl⟩
  obtain ⟨Hr, hHi⟩ : ∃ r, (boundsI l).filter (fun b => decide (b.1 = 1)) = (1, false, (100, 1)) :: r := ⟨_, rfl⟩
  have hbl : (boundsI l).length ≤ 102 := by unfold boundsI; simp; omega
  generalize boundsI l = bs at *
  have hL0 : ((bs.filter fun b => decide (b.1 = 0)).map fD)[Int.toNat 0]? = some (fD (0, false, (-100, 1))) := by rw [hLo]; rfl
  have hH0 : ((bs.filter fun b => decide (b.1 = 1)).map fD)[Int.toNat 0]? = some (fD (1, false, (100, 1))) := by rw [hHi]; rfl
  have mLo : ∀ b, b ∈ bs.filter (fun b => decide (b.1 = 0)) ↔ b ∈ bs ∧ b.1 = 0 := fun b => by simp
  have mHi : ∀ b, b ∈ bs.filter (fun b => decide (b.1 = 1)) ↔ b ∈ bs ∧ b.1 = 1 := fun b => by simp
  have b0 : ((0 : Int), false, ((-100 : Int), (1 : Int))) ∈ bs ∧ ((0 : Int), false, ((-100 : Int), (1 : Int))).1 = 0 := (mLo _).mp (by rw [hLo]; simp)
  have h0 : ((1 : Int), false, ((100 : Int), (1 : Int))) ∈ bs ∧ ((1 : Int), false, ((100 : Int), (1 : Int))).1 = 1 := (mHi _).mp (by rw [hHi]; simp)
  clear hLo hHi
  repeat' walk_at "ev"
  refine EX_assignComp bs (fun b => dB b) fD (fun b => decide (b.1 = 0)) (ρc := []) (cl := []) (by with_unfolding_all rfl) rfl Cap.nil (by decide) rfl (by decide) (by decide) (by omega) (.inl rfl) ?_ ?_
  rotate_left
  · intro C y hy
    refine ⟨?_, fun _ => ⟨?_, rfl⟩⟩
    · show EB _ _ _ _ _ _
      repeat' walk_at "ev"
      rfl
    · repeat' walk_at "ev"
      rfl
  repeat' walk_at "ev"
  refine ⟨Itb.lst, ?_⟩
  refine EX_assignComp bs (fun b => dB b) fD (fun b => decide (b.1 = 1)) (ρc := []) (cl := []) (by with_unfolding_all rfl) rfl Cap.nil (by decide) rfl (by decide) (by decide) (by omega) (.inl rfl) ?_ ?_
  rotate_left
  · intro C y hy
    refine ⟨?_, fun _ => ⟨?_, rfl⟩⟩
    · show EB _ _ _ _ _ _
      repeat' walk_at "ev"
      rfl
    · repeat' walk_at "ev"
      rfl
  repeat' walk_at "ev"
  refine ⟨Itb.lst, ?_⟩
  repeat' walk_at "ev"
  have cmpE : ∀ x y : Bnd, BOk x → BOk y → (if cmpR (deltaI x).1 (deltaI y).1 ≠ 0 then cmpR (deltaI x).1 (deltaI y).1 else cmpR (deltaI x).2 (deltaI y).2) = sgnI ((valI (deltaI x) (1, 10 ^ Int.toNat 10)).1 * (valI (deltaI y) (1, 10 ^ Int.toNat 10)).2) ((valI (deltaI y) (1, 10 ^ Int.toNat 10)).1 * (valI (deltaI x) (1, 10 ^ Int.toNat 10)).2) := fun x y hx hy =>
    (dcmp_rank hx.delta hy.delta).trans (ord_rank hx.delta hy.delta).symm
  have cmpP : ∀ x y : Bnd, BOk x → BOk y → (0 < (if cmpR (deltaI x).1 (deltaI y).1 ≠ 0 then cmpR (deltaI x).1 (deltaI y).1 else cmpR (deltaI x).2 (deltaI y).2) ↔ rk (deltaI y) < rk (deltaI x)) := fun x y hx hy => by
    have := dcmp_rank hx.delta hy.delta
    unfold dcmpI at this
    rw [this, sgn_pos]
  have ok4 : ∀ x : Bnd, BOk x → OkD 400 (deltaI x) := fun x hx => ⟨hx.delta.okd.1.mono (by decide), hx.delta.okd.2.mono (by decide)⟩
  have ok5 : ∀ x : Bnd, BOk x → OkD 500 (deltaI x) := fun x hx => ⟨hx.delta.okd.1.mono (by decide), hx.delta.okd.2.mono (by decide)⟩
  have okT : Ok 400 ((1 : Int), (10 : Int) ^ Int.toNat 10) := ⟨by decide, by exact Sz.dec (by decide), by exact Sz.dec (by decide)⟩
  with_reducible refine' EX_forM (bs.filter fun b => decide (b.1 = 0)) fD (fun pre ρ => ∃ best ∈ bs, best.1 = 0 ∧ (∀ b ∈ pre, rk (deltaI b) ≤ rk (deltaI best)) ∧ ρ = [(S' "best", .new, fD best), (S' "tiny", .new, .tup [.int 1, .int (10 ^ Int.toNat 10)]), (S' "highs", .new, .lst ((bs.filter fun b => decide (b.1 = 1)).map fD)), (S' "lows", .new, .lst ((bs.filter fun b => decide (b.1 = 0)).map fD)), (S' "bounds", .new, .lst (bs.map fun b => dB b))]) ?hcell ?hturn ?hfin ?hs ?ht
  case hs => intro _; exact rfl
  case ht => intro _ _; exact rfl
  case hcell =>
    repeat' walk_at "ev"
    exact ⟨Itb.lst, _, by walk_at "sub", _, b0.1, b0.2, by simp, rfl⟩
  case hturn =>
    rintro pre x post ρ hl ⟨best, hbm, hb0, hmax, rfl⟩
    have hx := (mLo x).mp (by rw [hl]; simp)
    have bx := hB x hx.1
    have bb := hB best hbm
    have e1 := cmpE x best bx bb
    have e2 := cmpP x best bx bb
    repeat' walk_at "ev"
    all_goals first | exact ⟨ok4 _ bx, ok4 _ bb⟩ | exact ⟨ok5 _ bx, ok5 _ bb⟩ | exact okT | (rename_i q; exact absurd e1 q) | skip
    · rename_i q
      exact ⟨_, by walk_at "sub", x, hx.1, hx.2, by intro b hb; rw [e2] at q; rcases List.mem_append.mp hb with hb | hb; (have := hmax b hb; omega); (obtain rfl := List.mem_singleton.mp hb; omega), rfl⟩
    · rename_i q
      exact ⟨_, by walk_at "sub", best, hbm, hb0, by intro b hb; rw [e2] at q; rcases List.mem_append.mp hb with hb | hb; (have := hmax b hb; omega); (obtain rfl := List.mem_singleton.mp hb; omega), rfl⟩
  case hfin =>
    rintro ρ ⟨best, hbm, hb0, hmax, rfl⟩
    repeat' walk_at "ev"
    with_reducible refine' EX_forM (bs.filter fun b => decide (b.1 = 0)) fD (fun pre ρ => ∃ hp sm, Inv (fun x y => x ∈ pre ∧ y ∈ bs.filter fun b => decide (b.1 = 1)) hp sm ∧ ρ = [(S' "small", .new, dR sm), (S' "has_point", .new, .bool hp), (S' "best", .new, fD best), (S' "tiny", .new, .tup [.int 1, .int (10 ^ Int.toNat 10)]), (S' "highs", .new, .lst ((bs.filter fun b => decide (b.1 = 1)).map fD)), (S' "lows", .new, .lst ((bs.filter fun b => decide (b.1 = 0)).map fD)), (S' "bounds", .new, .lst (bs.map fun b => dB b))]) ?h2cell ?h2turn ?h2fin ?h2s ?h2t
    case h2s => intro _; exact rfl
    case h2t => intro _ _; exact rfl
    case h2cell =>
      repeat' walk_at "ev"
      exact ⟨Itb.lst, _, by walk_at "sub", true, (1, 1), Inv.start.congr (by simp), rfl⟩
    case h2turn =>
      rintro pre x post ρ hl ⟨hp, sm, I, rfl⟩
      have hx := (mLo x).mp (by rw [hl]; simp)
      have bx := hB x hx.1
      repeat' walk_at "ev"
      with_reducible refine' EX_forM (bs.filter fun b => decide (b.1 = 1)) fD (fun pre2 ρ => ∃ hp sm, Inv (fun x' y' => (x' ∈ pre ∧ y' ∈ bs.filter fun b => decide (b.1 = 1)) ∨ (x' = x ∧ y' ∈ pre2)) hp sm ∧ ρ = [(S' "low", .new, fD x), (S' "small", .new, dR sm), (S' "has_point", .new, .bool hp), (S' "best", .new, fD best), (S' "tiny", .new, .tup [.int 1, .int (10 ^ Int.toNat 10)]), (S' "highs", .new, .lst ((bs.filter fun b => decide (b.1 = 1)).map fD)), (S' "lows", .new, .lst ((bs.filter fun b => decide (b.1 = 0)).map fD)), (S' "bounds", .new, .lst (bs.map fun b => dB b))]) ?h3cell ?h3turn ?h3fin ?h3s ?h3t
      case h3s => intro _; exact rfl
      case h3t => intro _ _; exact rfl
      case h3cell =>
        repeat' walk_at "ev"
        exact ⟨Itb.lst, _, by walk_at "sub", hp, sm, I.congr (by simp), rfl⟩
      case h3turn =>
        clear I hp sm
        rintro pre2 y post2 ρ hl2 ⟨hp, sm, I, rfl⟩
        have hy := (mHi y).mp (by rw [hl2]; simp)
        have by' := hB y hy.1
        have e1 := cmpE x y bx by'
        have e2 := cmpP x y bx by'
        have hS : ∀ x' y' : Bnd, ((x' ∈ pre ∧ y' ∈ bs.filter fun b => decide (b.1 = 1)) ∨ (x' = x ∧ y' ∈ pre2 ++ [y])) ↔ Snew (fun x' y' => (x' ∈ pre ∧ y' ∈ bs.filter fun b => decide (b.1 = 1)) ∨ (x' = x ∧ y' ∈ pre2)) x y x' y' := by
          intro x' y'
          simp only [Snew, List.mem_append, List.mem_singleton]
          constructor
          · rintro (h | ⟨h, h' | h'⟩)
            · exact .inl (.inl h)
            · exact .inl (.inr ⟨h, h'⟩)
            · exact .inr ⟨h, h'⟩
          · rintro ((h | ⟨h, h'⟩) | ⟨h, h'⟩)
            · exact .inl h
            · exact .inr ⟨h, .inl h'⟩
            · exact .inr ⟨h, .inr h'⟩
        repeat' walk_at "ev"
        all_goals first | exact ⟨ok4 _ bx, ok4 _ by'⟩ | exact ⟨ok5 _ bx, ok5 _ by'⟩ | exact okT | (rename_i q; exact absurd e1 q) | exact ⟨bx.delta.okd, by'.delta.okd⟩ | skip
        · rename_i q
          rw [e2] at q
          exact ⟨_, by walk_at "sub", _, _, (I.stop q).congr hS, rfl⟩
        · rename_i q
          rw [e2] at q
          exact room_ok bx.delta by'.delta (by omega)
        · rename_i q
          rw [e2] at q
          have hle : rk (deltaI x) ≤ rk (deltaI y) := by omega
          with_reducible refine d_room_s F (by omega) ⟨ok4 _ bx, ok4 _ by'⟩ ?_
          cases hr : roomI (deltaI x) (deltaI y) with
          | none =>
            simp only [dO]
            repeat' walk_at "ev"
            exact ⟨_, by walk_at "sub", _, _, (I.none hle hr).congr hS, rfl⟩
          | some p =>
            have hpo := roomI_ok bx.delta.okd by'.delta.okd hr
            have hpt := (room_is bx.delta by'.delta hr).top
            have h2 : Ok 2 ((2 : Int), (1 : Int)) := ⟨by decide, by exact Sz.dec (by decide), by exact Sz.dec (by decide)⟩
            have hq := hpo.div h2 (by decide)
            have hso := I.ok
            simp only [dO]
            repeat' walk_at "ev"
            all_goals first | exact ⟨hpo.1, by decide⟩ | exact ⟨(hpo.mono (by decide)).2, (h2.mono (by decide)).2⟩ | exact ⟨(hq.mono (by decide)).2.1, (hq.mono (by decide)).2.2, (hso.mono (by decide)).2.1, (hso.mono (by decide)).2.2⟩ | skip
            · rename_i q
              exact ⟨_, by walk_at "sub", _, _, (I.take hle bx by' hr q).congr hS, rfl⟩
            · rename_i q
              exact ⟨_, by walk_at "sub", _, _, (I.keep hle bx by' hr q).congr hS, rfl⟩
      case h3fin =>
        rintro ρ ⟨hp, sm, I, rfl⟩
        repeat' walk_at "ev"
        refine ⟨_, by walk_at "sub", hp, sm, I.congr ?_, rfl⟩
        intro x' y'
        simp only [List.mem_append, List.mem_singleton]
        constructor
        · rintro ⟨h | h, h'⟩
          · exact .inl ⟨h, h'⟩
          · exact .inr ⟨h, h'⟩
        · rintro (⟨h, h'⟩ | ⟨h, h'⟩)
          · exact ⟨.inl h, h'⟩
          · exact ⟨.inr h, h'⟩
    case h2fin =>
      rintro ρ ⟨hp, sm, I, rfl⟩
      repeat' walk_at "ev"
      refine EV_comp2 bs bs (fun b => dB b) (fun b => dB b) (fun b e => .bool (sideI b e)) (fun b => decide (b.1 = 0)) (fun _ e => decide (e.1 = 1)) (ρc := [(S' "bounds", .old, .lst (bs.map fun b => dB b))]) (cl := _) rfl (by walk_at "cap") (by decide) rfl (by decide) (by decide) (by decide) (by decide) (Nat.le_trans (Nat.mul_le_mul hbl hbl) (by decide)) rfl (fun t d e => by cases e) ?_ (fun b _ => rfl) ?_ ?_
      · repeat' walk_at "ev"
        refine ⟨Itb.lst, ?_⟩
        repeat' walk_at "ev"
        have hdl : ((bs.filter fun b => decide (b.1 = 0)).flatMap fun a => (bs.filter ((fun _ e => decide (e.1 = 1)) a)).map ((fun b e => D.bool (sideI b e)) a)) = ((bs.filter fun b => decide (b.1 = 0)).flatMap fun a => (bs.filter fun e => decide (e.1 = 1)).map (sideI a)).map D.bool := by
          rw [List.map_flatMap]
          simp [Function.comp_def]
        have hdue : ((bs.filter fun b => decide (b.1 = 0)).flatMap fun a => (bs.filter fun e => decide (e.1 = 1)).map (sideI a)).all id = hp := by
          rw [Bool.eq_iff_iff, I.hp, List.all_eq_true]
          constructor
          · rintro q x y ⟨hx, hy⟩
            have hx' := (mLo x).mp hx
            have hy' := (mHi y).mp hy
            exact (side_rank (hB x hx'.1) (hB y hy'.1) hx'.2 hy'.2).mp (q _ (List.mem_flatMap.mpr ⟨x, hx, List.mem_map_of_mem hy⟩))
          · intro q z hz
            obtain ⟨x, hx, hz⟩ := List.mem_flatMap.mp hz
            obtain ⟨y, hy, rfl⟩ := List.mem_map.mp hz
            have hx' := (mLo x).mp hx
            have hy' := (mHi y).mp hy
            exact (side_rank (hB x hx'.1) (hB y hy'.1) hx'.2 hy'.2).mpr (q x y ⟨hx, hy⟩)
        rw [hdl]
        refine FN_all (by simpa using Bools.map (fun x : Bool => x) _) ?_
        rw [hdue]
        repeat' walk_at "ev"
        · rename_i q
          exact absurd q (by simp)
        · exact (hB best hbm).delta.okd.1.mono (by decide)
        · exact (hB best hbm).delta.okd.2.mono (by decide)
        · exact I.ok.mono (by decide)
        · rename_i q _
          have hk := keeps_all hB ⟨hbm, hb0⟩ (fun b hb h => hmax b ((mLo b).mpr ⟨hb, h⟩)) (show Inv _ true sm from by
            have I2 := I
            rw [show hp = true by assumption] at I2
            exact I2.congr (T := fun x y => (x ∈ bs ∧ x.1 = 0) ∧ y ∈ bs ∧ y.1 = 1) (fun x y => by rw [mLo, mHi]))
          have hso := ((hB best hbm).delta.okd.1.add ((hB best hbm).delta.okd.2.mul I.ok)).mono (k := 1000) (by decide)
          generalize addF (deltaI best).1 (mulF (deltaI best).2 sm) = pt at *
          refine EV_comp bs (fun b => dB b) (fun b => .bool (keepsB pt b)) (fun _ => true) (ρc := [(S' "point", .old, dR pt)]) (cl := _) rfl (by walk_at "cap") (by decide) rfl (by decide) (by decide) (by omega) ?_ ?_
          · repeat' walk_at "ev"
            refine ⟨Itb.lst, ?_⟩
            rw [filtT]
            repeat' walk_at "ev"
            refine FN_all (Bools.map _ bs) ?_
            have e : (bs.map fun b => keepsB pt b).all id = true := by
              rw [List.all_eq_true]
              intro z hz
              obtain ⟨y, hy, rfl⟩ := List.mem_map.mp hz
              exact hk y hy
            rw [e]
            repeat' walk_at "ev"
            exact h
          · intro C y hy
            refine ⟨rfl, fun _ => ⟨?_, rfl⟩⟩
            repeat' walk_at "ev"
            · exact hso
            · exact (hB y hy).delta.okd.1.mono (k := 1000) (by decide)
            · rfl
        · have o2 : ∀ x : Bnd, BOk x → OkD 200 (deltaI x) := fun x hx => ⟨hx.delta.okd.1.mono (by decide), hx.delta.okd.2.mono (by decide)⟩
          have bh := hB _ h0.1
          have bb := hB best hbm
          have so := sums_ok ⟨(o2 _ bb).1.1, (o2 _ bb).2.1⟩ ⟨(o2 _ bh).1.1, (o2 _ bh).2.1⟩ I.ok.1
          with_reducible refine law_sums_s F (by omega) ⟨o2 _ bb, o2 _ bh⟩ (I.ok.mono (by decide)) so ?_
          repeat' walk_at "ev"
          exact h
      · intro C b hb
        show EB _ _ _ _ _ _
        repeat' walk_at "ev"
        rfl
      · intro C b hb hb0 e he
        refine ⟨?_, fun _ => ⟨?_, rfl⟩⟩
        · show EB _ _ _ _ _ _
          repeat' walk_at "ev"
          rfl
        · repeat' walk_at "ev"
          all_goals first | exact ⟨(hB b hb).delta.okd.1.2.1.sm, (hB e he).delta.okd.1.2.2.sm⟩ | exact ⟨(hB e he).delta.okd.1.2.1.sm, (hB b hb).delta.okd.1.2.2.sm⟩ | (unfold sideI; simp_all; done) | skip
end
end
section
def lcmN (l : List Nat) : Nat := l.foldl Nat.lcm 1
theorem lcmI_nat {a b : Nat} (ha : 0 < a) : lcmI a b = (Nat.lcm a b : Nat) := by
  unfold lcmI
  rw [Int.fdiv_eq_ediv_of_nonneg _ (by omega)]
  simp only [Int.natAbs_natCast, Int.gcd_natCast_natCast]
  unfold Nat.lcm
  rw [← Int.natCast_ediv, ← Int.natCast_mul, Nat.mul_comm a b, Nat.mul_comm (a / _) b, Nat.mul_div_assoc b (Nat.gcd_dvd_left a b)]
theorem lcmN_foldl_pos : ∀ (l : List Nat) (s : Nat), 0 < s → (∀ x ∈ l, 0 < x) → 0 < l.foldl Nat.lcm s
  | [], _, h, _ => h
  | x :: l, s, h, hl => lcmN_foldl_pos l (Nat.lcm s x) (Nat.lcm_pos h (hl x (by simp))) fun y hy => hl y (by simp [hy])
theorem foldl_dvd : ∀ (l : List Nat) (s : Nat), s ∣ l.foldl Nat.lcm s ∧ ∀ x ∈ l, x ∣ l.foldl Nat.lcm s
  | [], s => ⟨Nat.dvd_refl _, by simp⟩
  | x :: l, s => by
    have h := foldl_dvd l (Nat.lcm s x)
    refine ⟨Nat.dvd_trans (Nat.dvd_lcm_left s x) h.1, fun y hy => ?_⟩
    rcases List.mem_cons.mp hy with rfl | hy
    · exact Nat.dvd_trans (Nat.dvd_lcm_right s y) h.1
    · exact h.2 y hy
theorem foldl_least : ∀ (l : List Nat) (s m : Nat), s ∣ m → (∀ x ∈ l, x ∣ m) → l.foldl Nat.lcm s ∣ m
  | [], _, _, h, _ => h
  | x :: l, s, m, h, hl => foldl_least l (Nat.lcm s x) m (Nat.lcm_dvd h (hl x (by simp))) fun y hy => hl y (by simp [hy])
theorem red_one {b : Int} (hb : 0 < b) : redF 1 b = (1, b) := by
  have L := redF_low (t := 1) (b := b) (by omega)
  have h1 := L.pos
  have h2 := L.cross
  have h3 := L.le1
  have h4 := L.le2
  have : (redF 1 b).1 = 1 := by
    have : 0 < (redF 1 b).1 := by
      refine Int.pos_of_mul_pos_left (b := b) ?_ hb |> fun h => h
      rw [h2]; omega
    omega
  rw [this] at h2
  ext
  · exact this
  · show (redF 1 b).2 = b; omega
theorem lcmL_foldl : ∀ (l : List Int) (s : Nat), 0 < s → (∀ x ∈ l, 0 < x) → (l.map fun b => redF 1 b).foldl (fun f p => lcmI f p.2) (s : Int) = ((l.map Int.toNat).foldl Nat.lcm s : Nat)
  | [], _, _, _ => rfl
  | x :: l, s, hs, hl => by
    have hx := hl x (by simp)
    rw [List.map_cons, List.foldl_cons, List.map_cons, List.foldl_cons, red_one hx]
    show (l.map fun b => redF 1 b).foldl (fun f p => lcmI f p.2) (lcmI s x) = _
    rw [show x = ((x.toNat : Nat) : Int) by omega, lcmI_nat hs]
    exact lcmL_foldl l _ (Nat.lcm_pos hs (by omega)) fun y hy => hl y (by simp [hy])
theorem lcmL_nat {l : List Int} (hl : ∀ x ∈ l, 0 < x) : lcmL (l.map fun b => redF 1 b) = (lcmN (l.map Int.toNat) : Nat) := lcmL_foldl l 1 (by decide) hl
theorem dvd_of_fmod {L x : Int} (h : L.fmod x = 0) : x ∣ L := Int.dvd_of_fmod_eq_zero h
theorem lcm_pre {l : List Int} (hl : ∀ x ∈ l, 0 < x ∧ x ≤ 24) : Sz 1000 (lcmL (l.map fun b => redF 1 b)) := by
  rw [lcmL_nat fun x hx => (hl x hx).1]
  have : lcmN (l.map Int.toNat) ∣ 5354228880 := by
    refine foldl_least _ _ _ (by decide) fun y hy => ?_
    obtain ⟨x, hx, rfl⟩ := List.mem_map.mp hy
    have h := hl x hx
    generalize hk : x.toNat = k
    have h1 : 0 < k ∧ k ≤ 24 := by omega
    have : ∀ k : Fin 25, 0 < k.1 → k.1 ∣ 5354228880 := by decide
    exact this ⟨k, by omega⟩ h1.1
  have := Nat.le_of_dvd (by decide) this
  exact Nat.lt_of_lt_of_le (show _ < 2 ^ 64 by simp only [Int.natAbs_natCast]; omega) (Nat.pow_le_pow_right (by decide) (by decide))
theorem div_ok {a b : Int} {l : List Int} (hl : ∀ x ∈ l, 0 < x ∧ x ≤ 24) : DivOk a b l := by
  have hN := lcmL_nat (l := l) fun x hx => (hl x hx).1
  have hpos : 0 < lcmN (l.map Int.toNat) := lcmN_foldl_pos _ _ (by decide) fun y hy => by
    obtain ⟨x, hx, rfl⟩ := List.mem_map.mp hy
    have := hl x hx
    omega
  refine ⟨fun _ => ?_, ?_, ?_, by rw [hN]; omega, fun x hx => ?_, fun p hp h0 hall => ?_⟩
  · unfold lcmI
    rw [Int.fdiv_eq_ediv_of_nonneg _ (by omega), Int.natAbs_mul, ← Int.natCast_ediv, ← Int.natCast_mul, ← Int.natCast_mul]
    congr 1
    rw [Nat.mul_right_comm, Nat.div_mul_cancel]
    exact Int.gcd_dvd_natAbs_left a b
  · rw [Int.zero_sub, Int.gcd_neg, Int.gcd_comm]
  · simp only [List.foldl_cons, List.foldl_nil]
    simp only [Int.gcd, Int.natAbs_natCast, Int.natAbs_zero, Nat.gcd_zero_left, Nat.gcd_zero_right]
    congr 1
    exact Nat.gcd_eq_left (Nat.gcd_dvd_left _ _)
  · rw [hN]
    have h := (foldl_dvd (l.map Int.toNat) 1).2 x.toNat (List.mem_map_of_mem hx)
    have h2 := hl x hx
    have : x ∣ (lcmN (l.map Int.toNat) : Int) := by
      rw [show x = ((x.toNat : Nat) : Int) by omega]
      exact Int.natCast_dvd_natCast.mpr h
    exact Int.fmod_eq_zero_of_dvd this
  · rw [hN] at h0 hall
    obtain ⟨q, hq⟩ := Int.dvd_of_fmod_eq_zero h0
    have e : (lcmN (l.map Int.toNat) : Int).fdiv p = q := by rw [hq, Int.fdiv_eq_ediv_of_nonneg _ (by omega), Int.mul_ediv_cancel_left _ (by omega)]
    rw [e] at hall
    have q0 : 0 < q := by
      refine Int.lt_of_not_ge fun z => ?_
      have := Int.mul_le_mul_of_nonneg_left z (show 0 ≤ p by omega)
      rw [Int.mul_zero, ← hq] at this
      omega
    have hd : lcmN (l.map Int.toNat) ∣ q.toNat := foldl_least _ _ _ (Nat.one_dvd _) fun y hy => by
      obtain ⟨x, hx, rfl⟩ := List.mem_map.mp hy
      have h1 := Int.dvd_of_fmod_eq_zero (hall x hx)
      have h2 := hl x hx
      refine Int.natCast_dvd_natCast.mp ?_
      rw [show ((x.toNat : Nat) : Int) = x by omega, show ((q.toNat : Nat) : Int) = q by omega]
      exact h1
    have h3 := Nat.le_of_dvd (by omega) hd
    have h4 : 2 * q ≤ p * q := Int.mul_le_mul_of_nonneg_right (by omega) (by omega)
    omega
end
section
section
local macro_rules | `(tactic| walk_at "ev") => `(tactic| first | ((with_reducible refine' EV_sliceL ?_ ?ht); (case ht => intro _ _; exact rfl)) | with_reducible refine EVo_none ?_ | with_reducible refine EVo_some ?_ | fail "no slice")
local macro_rules | `(tactic| walk_at "ev") => `(tactic| first | ((with_reducible refine' O2_itemL ?h1 ?h2 ?h3 ?_ ?hs); (case h3 => with_reducible assumption); (case h1 => omega); (case h2 => omega); (case hs => intro _ _; with_unfolding_all rfl)) | fail "no item")
variable {c : Cx} {n : Nat} {P : D → Prop}
theorem law_s (F : Facts c) {l : List Int} (hn : 10 ≤ n) (hlen : l.length ≤ 63) (h : P (.bool true)) : FNn c n (S' "law") [.lst (l.map .int)] P := by
  refine FNn_at 9 hn fun m hm => FNn_intro (F.fn 54 _ _ _ _ _ _ _ _ _ _ rfl) (by decide) rfl (by walk_at "bind") (by decide) ?_
  intro mu L a' cd
  repeat' walk_at "ev"
  with_reducible refine law_drawn_s F (by omega) (by omega) ?_
  intro q hq
  have hql : ∀ ds : List D, ds = q.map D.int → ds.length ≤ 100000 := fun ds e => by rw [e]; simp; omega
  have n22 : (q.map D.int)[Int.toNat 22]? = some (.int q[22]!) := by
    rw [List.getElem?_map, show Int.toNat 22 = 22 from rfl, List.getElem?_eq_getElem (by omega), List.getElem!_eq_getElem?_getD, List.getElem?_eq_getElem (by omega)]; rfl
  have n23 : (q.map D.int)[Int.toNat 23]? = some (.int q[23]!) := by
    rw [List.getElem?_map, show Int.toNat 23 = 23 from rfl, List.getElem?_eq_getElem (by omega), List.getElem!_eq_getElem?_getD, List.getElem?_eq_getElem (by omega)]; rfl
  have e1 : pick (q.map D.int) none (some 14) = (q.take 14).map D.int := by
    rw [show (14 : Int) = ((14 : Nat) : Int) from rfl, pick_upto, ← List.map_take]
  have e2 : pick (q.map D.int) (some 14) (some 22) = ((q.drop 14).take 8).map D.int := by
    rw [show (14 : Int) = ((14 : Nat) : Int) from rfl, show (22 : Int) = ((22 : Nat) : Int) from rfl, pick_mid _ _ _ (by simp; omega), ← List.map_drop, ← List.map_take]
  have e3 : pick (q.map D.int) (some 24) none = (q.drop 24).map D.int := by
    rw [show (24 : Int) = ((24 : Nat) : Int) from rfl, pick_from, ← List.map_drop]
  generalize q[22]! = q22 at *
  generalize q[23]! = q23 at *
  repeat' walk_at "ev"
  -- the machine
  refine ⟨hql _ rfl, ?_⟩
  rw [e1]
  repeat' walk_at "ev"
  with_reducible refine law_machine_s F (by omega) (by simp; omega) ?_
  repeat' walk_at "ev"
  -- the bounds
  refine ⟨hql _ rfl, ?_⟩
  rw [e2]
  repeat' walk_at "ev"
  with_reducible refine law_bounds_right_s F (by omega) (by simp; omega) ?_
  repeat' walk_at "ev"
  · decide
  · decide
  have ba : -1000000 ≤ q22.fmod 2000001 - 1000000 ∧ q22.fmod 2000001 - 1000000 ≤ 1000000 := by
    have h1 := Int.fmod_nonneg_of_pos q22 (b := 2000001) (by decide)
    have h2 := Int.fmod_lt_of_pos q22 (b := 2000001) (by decide)
    omega
  have bb : -2000 ≤ q23.fmod 4001 - 2000 ∧ q23.fmod 4001 - 2000 ≤ 2000 := by
    have h1 := Int.fmod_nonneg_of_pos q23 (b := 4001) (by decide)
    have h2 := Int.fmod_lt_of_pos q23 (b := 4001) (by decide)
    omega
  generalize q22.fmod 2000001 - 1000000 = a at *
  generalize q23.fmod 4001 - 2000 = b at *
  have hql3 : (q.drop 24).length = 3 := by simp; omega
  refine EX_assignComp (q.drop 24) D.int (fun n => .int (n.fmod 24 + 1)) (fun _ => true) (ρc := []) (cl := []) (by with_unfolding_all rfl) rfl Cap.nil (by decide) rfl (by decide) (by decide) (by omega) (.inl rfl) ?_ ?_
  rotate_left
  · intro C y hy
    refine ⟨rfl, fun _ => ⟨?_, rfl⟩⟩
    repeat' walk_at "ev"
    all_goals first | decide | rfl
  repeat' walk_at "ev"
  refine ⟨hql _ rfl, ?_⟩
  rw [e3]
  refine ⟨Itb.lst, ?_⟩
  rw [filtT, show (q.drop 24).map (fun n => D.int (n.fmod 24 + 1)) = ((q.drop 24).map fun n => n.fmod 24 + 1).map D.int by rw [List.map_map]; rfl]
  have hb24 : ∀ x ∈ (q.drop 24).map (fun n => n.fmod 24 + 1), 0 < x ∧ x ≤ 24 := by
    intro x hx
    obtain ⟨y, -, rfl⟩ := List.mem_map.mp hx
    have h1 := Int.fmod_nonneg_of_pos y (b := 24) (by decide)
    have h2 := Int.fmod_lt_of_pos y (b := 24) (by decide)
    omega
  have hbl : ((q.drop 24).map fun n => n.fmod 24 + 1).length = 3 := by rw [List.length_map]; exact hql3
  generalize ((q.drop 24).map fun n => n.fmod 24 + 1) = bs at *
  have hz : ∀ x : Int, -1000000 ≤ x ∧ x ≤ 1000000 → Sz 30 x := fun x hx => Nat.lt_of_le_of_lt (show x.natAbs ≤ 1000000 by omega) (by decide)
  repeat' walk_at "ev"
  with_reducible refine law_div_s F (by omega) ⟨hz _ ba, hz _ (by omega)⟩ (fun x hx => by have := hb24 x hx; exact ⟨by omega, hz _ (by omega)⟩) (by omega) ?_ (div_ok hb24) ?_
  · intro pre post e
    obtain ⟨l1, l2, rfl, rfl, rfl⟩ := List.map_eq_append_iff.mp e
    exact lcm_pre fun x hx => hb24 x (by simp [hx])
  obtain ⟨x0, x1, x2, rfl⟩ : ∃ x0 x1 x2, bs = [x0, x1, x2] := by
    match bs, hbl with
    | [x0, x1, x2], _ => exact ⟨x0, x1, x2, rfl⟩
  have i0 : ([x0, x1, x2].map D.int)[Int.toNat 0]? = some (.int x0) := rfl
  have i1 : ([x0, x1, x2].map D.int)[Int.toNat 1]? = some (.int x1) := rfl
  have i2 : ([x0, x1, x2].map D.int)[Int.toNat 2]? = some (.int x2) := rfl
  have y0 := hb24 x0 (by simp)
  have y1 := hb24 x1 (by simp)
  have y2 := hb24 x2 (by simp)
  repeat' walk_at "ev"
  all_goals first | decide | omega | exact (hz _ (by omega)).mono (by decide) | skip
  have m1 : ∀ (x k : Int), 0 < k ∧ k ≤ 100 → 0 ≤ x.fmod k ∧ x.fmod k < 100 := fun x k hk => ⟨Int.fmod_nonneg_of_pos x hk.1, by have := Int.fmod_lt_of_pos x hk.1; omega⟩
  have f1 := m1 a 61 (by decide)
  have f2 := m1 b 61 (by decide)
  have f3 := m1 b 31 (by decide)
  have f4 := m1 a 31 (by decide)
  have f5 := m1 a 23 (by decide)
  have r1 : ∀ t x : Int, -1000 ≤ t ∧ t ≤ 1000 → 0 < x ∧ x ≤ 24 → Ok 200 (redF t x) := fun t x ht hx => (Ok.red (k := 30) (by omega) (hz _ (by omega)) (hz _ (by omega))).mono (by decide)
  have g1 := r1 (a.fmod 61 - 30) x0 (by omega) y0
  have g2 := r1 (b.fmod 61 - 30) x1 (by omega) y1
  have g3 := r1 (b.fmod 31 - 15) x2 (by omega) y2
  have g4 := r1 (a.fmod 31 - 15) x0 (by omega) y0
  have g5 := r1 (a.fmod 23 - 11) x1 (by omega) y1
  exact law_sums_s F (x := (redF (a.fmod 61 - 30) x0, redF (b.fmod 61 - 30) x1)) (y := (redF (b.fmod 31 - 15) x2, redF (a.fmod 31 - 15) x0)) (r := redF (a.fmod 23 - 11) x1) (by omega) ⟨⟨g1, g2⟩, g3, g4⟩ g5 (sums_ok ⟨g1.1, g2.1⟩ ⟨g3.1, g4.1⟩ g5.1) h
end
end
section
/-- the defs' records, found by the row's own body -/
def DefsIn (q : Program) : Prop := ∀ (i : Nat) (name : Str) (args : Arguments) (body : List Stmt) (decs : List Expr) (ret : Option Expr) (tps : List TypeParam) (scope : Scope) (ts : Option Scope) (bind : Str) (pos : Pos),
    PySem.Challenge.pw_no0004_01.main.body[i]? = some (.FunctionDef name args body decs ret tps scope ts bind pos) → (⟨name, args, body, scope, pos⟩ : DefRec) ∈ recsOf q

theorem smt_of {w : World} {q : Program} {loose : List Str} {mean : ExcName → Option Value} {mg mb : Str → Option Value} {h : Heap} (Y : mySays w h) (T : Top q loose mean mg mb h) :
    Smt ⟨PySem.Challenge.pw_no0004_01, w, myK w.params, q, loose, mean, mg, mb, h⟩ 40 39 30 18 29 (h.nsMap 39) (Str.ofString "SmtError.__init__") .none (.str (Str.ofString "minismt.errors") 187) (.ref 23) where
  name := Y.2 _ T.g ("SmtError", some (.ref 40)) (by simp [myNames])
  cls := ⟨_, _, _, _, _, _, _, _, _, _, _, _, _, Y.1 40 _ rfl⟩
  ns := .of_isNs (by unfold Heap.isNs; rw [Y.1 39 _ rfl]; simp [smtNs])
  init := by unfold Heap.nsMap; rw [Y.1 39 _ rfl]; rfl
  what := by unfold Heap.nsMap; rw [Y.1 39 _ rfl]; rfl
  sa := by unfold Heap.nsMap; rw [Y.1 39 _ rfl]; rfl
  fn := ⟨_, Y.1 30 _ rfl, rfl, rfl⟩
  crec := ⟨29, _, _, _, rfl, Y.1 29 _ rfl, rfl, rfl⟩
  cell := ⟨_, Y.1 18 _ rfl, rfl⟩
  file := ⟨_, _, _, _, Y.1 29 _ rfl, rfl, rfl, by show ((PySem.Challenge.pw_no0004_01.main.file : Str) == Str.ofString "/claim/cut.py") = true; decide +kernel⟩
  opq := looks_opaque Y.1 (by with_unfolding_all rfl)
  top := by kernel_rfl
  noSuper := Y.2 _ T.g ("super", none) (by simp [myNames])
  isSuper := (T.builtins _ (by decide)).trans (by kernel_rfl)

theorem facts_of {w : World} {q : Program} {loose : List Str} {mean : ExcName → Option Value} {mg mb : Str → Option Value} {h : Heap} (Y : mySays w h) (T : Top q loose mean mg mb h) (hq : DefsIn q) :
    Facts ⟨PySem.Challenge.pw_no0004_01, w, myK w.params, q, loose, mean, mg, mb, h⟩ where
  fn := fun i name args body decs ret tps scope ts bind pos hi A h' G => by
    obtain ⟨a, o, pm, code, doc, h1, h2, h3, h4⟩ := G.top.fn _ (hq i name args body decs ret tps scope ts bind pos hi)
    exact ⟨a, o, pm, code, doc, h1, h2, h3, h4⟩
  blt := fun x hx => by
    rcases hx with rfl | rfl | rfl | rfl
    · exact ⟨Y.2 _ T.g ("abs", none) (by simp [myNames]), (T.builtins _ (by decide)).trans (by kernel_rfl)⟩
    · exact ⟨Y.2 _ T.g ("len", none) (by simp [myNames]), (T.builtins _ (by decide)).trans (by kernel_rfl)⟩
    · exact ⟨Y.2 _ T.g ("all", none) (by simp [myNames]), (T.builtins _ (by decide)).trans (by kernel_rfl)⟩
    · exact ⟨Y.2 _ T.g ("isinstance", none) (by simp [myNames]), (T.builtins _ (by decide)).trans (by kernel_rfl)⟩
  typ := fun x hx => by
    rcases hx with rfl | rfl | rfl | rfl
    · exact ⟨Y.2 _ T.g ("str", none) (by simp [myNames]), (T.builtins _ (by decide)).trans (by kernel_rfl)⟩
    · exact ⟨Y.2 _ T.g ("int", none) (by simp [myNames]), (T.builtins _ (by decide)).trans (by kernel_rfl)⟩
    · exact ⟨Y.2 _ T.g ("list", none) (by simp [myNames]), (T.builtins _ (by decide)).trans (by kernel_rfl)⟩
    · exact ⟨Y.2 _ T.g ("tuple", none) (by simp [myNames]), (T.builtins _ (by decide)).trans (by kernel_rfl)⟩
  num := fun x k hx A h' G => by
    have Xk := G.k
    rcases hx with ⟨rfl, rfl⟩ | ⟨rfl, rfl⟩ | ⟨rfl, rfl⟩
    · exact ⟨_, Y.2 _ T.g ("ZERO", some (.ref 44)) (by simp [myNames]), Rep.tup (vs := [.int 0 229, .int 1 230]) ⟨_, Xk 44 _ rfl, rfl, _, rfl⟩ (.cons .int (.one .int))⟩
    · exact ⟨_, Y.2 _ T.g ("ONE", some (.ref 45)) (by simp [myNames]), Rep.tup (vs := [.int 1 232, .int 1 233]) ⟨_, Xk 45 _ rfl, rfl, _, rfl⟩ (.cons .int (.one .int))⟩
    · exact ⟨_, Y.2 _ T.g ("MINUS_ONE", some (.ref 46)) (by simp [myNames]), Rep.tup (vs := [.int (-1) 236, .int 1 237]) ⟨_, Xk 46 _ rfl, rfl, _, rfl⟩ (.cons .int (.one .int))⟩
  smt := ⟨_, _, _, _, _, _, _, _, _, _, smt_of Y T⟩
end
section
theorem ints_rep {h : Heap} : ∀ {vs : List Value} {ns : List Int}, IntsAre vs ns → RepL h (ns.map D.int) vs
  | _, _, .nil => RepL.nil
  | _, _, .cons _ _ r => RepL.cons Rep.int (ints_rep r)
abbrev theRow : RowW := OpenRow.toRowW (OpenLaw.row PySem.Challenge.rw_no0004_01)
theorem walk_of (hlaw : ∀ (c : Cx) (l : List Int), Facts c → l.length ≤ 63 → FNn c 10 (S' "law") [.lst (l.map .int)] fun d => d = .bool true)
    {w : World} {q : Program} {XP : (Str → Option Value) → Heap → Prop} {s₀ s₁ : Shared} {mg mb : Str → Option Value} {fa : Addr} {args : List WData} {vals : List Value} {as : List Addr}
    (Y : mySays w s₁.heap) (hq : DefsIn q) (G : Ground q [] theRow.records XP w s₀ mg mb s₁.heap) (hmg : mg (S' "law") = some (.ref fa)) (hg : s₁.gens = #[])
    (hpre : theRow.claim.pre args = true) (hlay : WData.layableAll args = true) (hrd : ReadsAllW theRow.records (classAt s₀.heap) s₁.heap vals args as) (hwl : WellAll w.params s₁.heap vals args) (hlo : ∀ a ∈ as, (a == sysModules) = false) :
    wpAny (model theRow.prog w) callerA (PySem.call (.ref fa) vals) (fun v s' => GoodWG theRow.claim (classAt s₀.heap) (ExcName.means s₀.heap) args s₁ (.ok (.ret v)) s')
      (fun e s' => GoodWG theRow.claim (classAt s₀.heap) (ExcName.means s₀.heap) args s₁ (.error e) s') s₁ := by
  wrow_args hpre hlay hrd hwl hlo
  rename_i l _ _ _ _ _ _ _ la vs _ hL _ _ _ hI _ hlen _
  have T := G.T
  have F := facts_of Y T hq
  have hlen' : l.length ≤ 63 := by omega
  refine wpAny_mono (hlaw _ l F hlen' callerA s₁ _ [.ref la] fa ⟨?_, ?_, rfl⟩ ⟨⟨Y.1, T, stays_refl⟩, [], rfl, fun e he => nomatch he⟩ hmg (RepL.one (Rep.lst hL (ints_rep hI))) fun v d s' u r p => ?_) (fun _ _ x => x) (fun _ _ x => x.elim)
  · decide
  · decide
  subst p
  obtain rfl := r.bool_inv
  have hs := u.same
  refine GoodW.toG ⟨.inl ⟨_, .bool true, [], rfl, raisesW_false (r := theRow) allW_false_nil, .bool true, ?_, fun _ => ⟨.nil, fun a ha => nomatch ha⟩⟩, u.keep.bs stays_refl, by rw [hs], by rw [hs]; exact hg⟩
  exact postW_of (r := theRow) (by wrow_shape) (by wtm_val) (by w_fin)
end
section
def isFn : Option Stmt → Bool
  | some (.FunctionDef ..) => true
  | _ => false
def okDef (body : List Stmt) (st : Stmt) : Bool := match st with
  | .FunctionDef n args _ decs _ tps _ _ _ _ => (body.filter (fun st => match st with | .FunctionDef m .. => m == n | _ => false)).length == 1 && decs.isEmpty && tps.isEmpty && args.defaults.isEmpty && args.kwonlyargs.isEmpty && args.kw_defaults.isEmpty
  | _ => true
theorem all_ok : myQ.main.body.all (okDef myQ.main.body) = true := by kernel_rfl
theorem keep_ok : (List.range 55).all (fun i => ([1, 3, 4, 5, 6, 7, 8, 9, 10, 11, 12, 13, 14, 15, 16, 17, 18, 19, 20, 21, 22, 23, 24, 25, 26, 27, 28, 29, 30, 31, 32, 33, 34, 36, 37, 38, 39, 40, 41, 42, 43, 44, 45, 46, 47, 48, 49, 50, 51, 52, 53, 54] : List Nat).contains i || !isFn (PySem.Challenge.pw_no0004_01.main.body[i]?)) = true := by kernel_rfl
theorem body_len : PySem.Challenge.pw_no0004_01.main.body.length = 55 := by kernel_rfl
theorem rec_mem : DefsIn myQ := by
  intro i name args body decs ret tps scope ts bind pos h
  have hi : i < 55 := by
    have := (List.getElem?_eq_some_iff.mp h).1
    rwa [body_len] at this
  have hk := List.all_eq_true.mp keep_ok i (List.mem_range.mpr hi)
  rw [h] at hk
  simp only [isFn, Bool.not_true, Bool.or_false] at hk
  have hm : Stmt.FunctionDef name args body decs ret tps scope ts bind pos ∈ myQ.main.body := List.mem_filterMap.mpr ⟨i, List.contains_iff_mem.mp hk, h⟩
  have ok := List.all_eq_true.mp all_ok _ hm
  simp only [okDef, Bool.and_eq_true, beq_iff_eq, List.isEmpty_iff] at ok
  obtain ⟨⟨⟨⟨⟨o1, o2⟩, o3⟩, o4⟩, o5⟩, o6⟩ := ok
  subst o2
  subst o3
  refine List.mem_filterMap.mpr ⟨_, hm, ?_⟩
  have hf : myQ.main.body.filter (fun st => match st with | .FunctionDef m .. => m == name | _ => false) = [Stmt.FunctionDef name args body [] ret [] scope ts bind pos] := by
    obtain ⟨x, hx⟩ := List.length_eq_one_iff.mp o1
    rw [hx]
    have : Stmt.FunctionDef name args body [] ret [] scope ts bind pos ∈ [x] := by
      rw [← hx]
      exact List.mem_filter.mpr ⟨hm, by simp⟩
    rw [List.mem_singleton.mp this]
  have ht : myQ.theDef name = some (args, body, scope) := by
    unfold Program.theDef
    generalize hL : List.filter _ myQ.main.body = L
    have hL2 : L = [Stmt.FunctionDef name args body [] ret [] scope ts bind pos] := hL.symm.trans hf
    rw [hL2]
  dsimp only
  rw [ht]
  obtain ⟨p1, p2, p3, p4, p5, p6, p7⟩ := args
  dsimp only at o4 o5 o6
  subst o4 o5 o6
  rfl
theorem law_all (c : Cx) (l : List Int) (F : Facts c) (h : l.length ≤ 63) : FNn c 10 (S' "law") [.lst (l.map .int)] fun d => d = .bool true := law_s F (Nat.le_refl _) h rfl
theorem walk_open {XP : (Str → Option Value) → Heap → Prop} {d : DefRec} (hd : d.name = S' "law") {kwd : List (Str × Expr)} : WalkO myQ [] XP (Hook.says myHook) theRow d kwd fun f vs => PySem.call f vs := by
  intro w s₀ s₁ mg mb G Y fa o pm cd doc dV kV ho hdd hcd hD hmg hg args vals as hpre hlay hrd hwl hlo
  exact walk_of law_all Y.2 rec_mem G (by rw [← hd]; exact hmg) hg hpre hlay hrd hwl hlo
theorem row_promised : theRow.promised := by w_witness2
theorem row_holds : (OpenLaw.row PySem.Challenge.rw_no0004_01).Holds := by
  refine holds_open (q := myQ) (loose := []) (Xt := fun s => xlAt myQ [] s && recOk (RowW.records (OpenRow.toRowW PySem.Challenge.rw_no0004_01.row)) s) (XP := XL myQ []) (Yf := Hook.obs myHook) (Ya := Hook.val myHook) (YP := Hook.says myHook) (N := 3760) left_ok (Hook.of myHook) (Hook.keeps myHook) (fun s e => xl_of s (Bool.and_eq_true_iff.mp e).1) XL.keeps (by rfl) (by rfl) (by rfl) (fun s e => recFacts_of (Bool.and_eq_true_iff.mp e).2) rfl (row_said said_ok) (by decide +kernel) ⟨rfl, rfl, rfl, rfl, rfl, by decide +kernel⟩ row_promised (walk_open rfl)
end
end Mine
end
open PySem PySem.W PySem.Calls PyProof.Rows
set_option maxRecDepth 100000 in
set_option maxHeartbeats 8000000 in
theorem PySem.Challenge.cw_no0004_01_holds : PySem.Challenge.rw_no0004_01.Holds :=
  ⟨Mine.said_ok, Mine.row_holds⟩
