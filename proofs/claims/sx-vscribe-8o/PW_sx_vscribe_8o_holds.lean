import PyProof.Rows.All
import Wide.All
import OpenK.AllK
import Wide.FinOn
import PyProof.Cells
import PyProof.CompFree
import PyProof.StrCalls2
import PyProof.DefCall
import PyProof.Rows.Top
import PyProof.StrOps2
import PyProof.PureInt
import PyProof.Rows.RuleB_floordiv
import PyProof.Rows.RuleB_mod
import PyProof.Rows.StrRules
import PyProof.Rows.SeqMore
import PyProof.Rows.Tup
import PyProof.SliceMore
import PyProof.StrCalls3
import PyProof.StrBlock2
import PyProof.Rows.StrLen
import PyProof.CallRoads
import PyProof.Rules3
import PyProof.Rows.News
import PyProof.NeKinds
import PyProof.Rows.MinMaxN
import PyProof.ForAny
import PyProof.ForAppend
import PyProof.WalksMore
import PyProof.WalksPairs
import PyProof.TupleIter
import PyProof.RangeFor
import PyProof.Rows.Exc
import PyProof.RulesMatch
import KE.KWords
import PyProof.StrBlockL
import PyProof.Rows.Walk
import PySem.Challenge.RW_sx_vscribe_8o
set_option Elab.async false
set_option maxRecDepth 100000
set_option maxHeartbeats 4000000

/-! text VA -/
namespace Mine
open PySem

/-! ## Values that stand for data -/

noncomputable def IsTupV (h : Heap) (a : Addr) (vs : Array Value) : Prop := ∃ o, h.get? a = some o ∧ o.cls = .type "tuple" ∧ ∃ n, o.data = .seq vs n

mutual
inductive Rep (h : Heap) (X : Addr → Prop) : Value → PyData → Prop
  | none : Rep h X .none .none
  | bool (b : Bool) : Rep h X (.bool b) (.bool b)
  | int (i : Int) (t : Tok) : Rep h X (.int i t) (.int i)
  | str (x : Str) (t : Tok) : Rep h X (.str x t) (.str x)
  | list {a : Addr} {vs : List Value} {ds : List PyData} : ¬ X a → h.IsList a vs.toArray → Reps h X vs ds → Rep h X (.ref a) (.list ds)
  | tuple {a : Addr} {vs : List Value} {ds : List PyData} : ¬ X a → IsTupV h a vs.toArray → Reps h X vs ds → Rep h X (.ref a) (.tuple ds)
inductive Reps (h : Heap) (X : Addr → Prop) : List Value → List PyData → Prop
  | nil : Reps h X [] []
  | cons {v : Value} {vs : List Value} {d : PyData} {ds : List PyData} : Rep h X v d → Reps h X vs ds → Reps h X (v :: vs) (d :: ds)
end

/-- what a change of the heap may not touch -/
noncomputable def Safe (h : Heap) (X : Addr → Prop) (h' : Heap) (X' : Addr → Prop) : Prop :=
  ∀ a o, ¬ X a → h.get? a = some o → (∃ vs n, o.data = .seq vs n) → h'.get? a = some o ∧ ¬ X' a

mutual
theorem Rep.safe {h h' : Heap} {X X' : Addr → Prop} (k : Safe h X h' X') : ∀ {v : Value} {d : PyData}, Rep h X v d → Rep h' X' v d
  | _, _, .none => .none
  | _, _, .bool b => .bool b
  | _, _, .int i t => .int i t
  | _, _, .str x t => .str x t
  | _, _, .list hx ⟨o, ho, hc, n, hd⟩ r => .list (k _ _ hx ho ⟨_, n, hd⟩).2 ⟨o, (k _ _ hx ho ⟨_, n, hd⟩).1, hc, n, hd⟩ (Reps.safe k r)
  | _, _, .tuple hx ⟨o, ho, hc, n, hd⟩ r => .tuple (k _ _ hx ho ⟨_, n, hd⟩).2 ⟨o, (k _ _ hx ho ⟨_, n, hd⟩).1, hc, n, hd⟩ (Reps.safe k r)
theorem Reps.safe {h h' : Heap} {X X' : Addr → Prop} (k : Safe h X h' X') : ∀ {vs : List Value} {ds : List PyData}, Reps h X vs ds → Reps h' X' vs ds
  | _, _, .nil => .nil
  | _, _, .cons a r => .cons (Rep.safe k a) (Reps.safe k r)
end

noncomputable def Keep (h h' : Heap) : Prop := ∀ b o, h.get? b = some o → h'.get? b = some o
theorem Keep.refl (h : Heap) : Keep h h := fun _ _ e => e
theorem Keep.trans {h h' h'' : Heap} (a : Keep h h') (b : Keep h' h'') : Keep h h'' := fun _ _ e => b _ _ (a _ _ e)
theorem Keep.push (h : Heap) (o : Obj) : Keep h (h.push o) := fun _ _ e => Heap.get?_push_of_some o e

theorem Keep.safe {h h' : Heap} {X : Addr → Prop} (k : Keep h h') : Safe h X h' X := fun _ _ hx ho _ => ⟨k _ _ ho, hx⟩
theorem Rep.keep {h h' : Heap} {X : Addr → Prop} {v : Value} {d : PyData} (k : Keep h h') (r : Rep h X v d) : Rep h' X v d := r.safe k.safe
theorem Reps.keep {h h' : Heap} {X : Addr → Prop} {v : List Value} {d : List PyData} (k : Keep h h') (r : Reps h X v d) : Reps h' X v d := r.safe k.safe
theorem Rep.weaken {h : Heap} {X X' : Addr → Prop} {v : Value} {d : PyData} (k : ∀ a, X' a → X a) (r : Rep h X v d) : Rep h X' v d := r.safe fun _ _ hx ho _ => ⟨ho, fun e => hx (k _ e)⟩
theorem Reps.weaken {h : Heap} {X X' : Addr → Prop} {v : List Value} {d : List PyData} (k : ∀ a, X' a → X a) (r : Reps h X v d) : Reps h X' v d := r.safe fun _ _ hx ho _ => ⟨ho, fun e => hx (k _ e)⟩

theorem Reps.length {h : Heap} {X : Addr → Prop} : ∀ {vs : List Value} {ds : List PyData}, Reps h X vs ds → vs.length = ds.length
  | _, _, .nil => rfl
  | _, _, .cons _ r => by rw [List.length_cons, List.length_cons, Reps.length r]
theorem Reps.append {h : Heap} {X : Addr → Prop} : ∀ {vs : List Value} {ds : List PyData} {ws : List Value} {es : List PyData}, Reps h X vs ds → Reps h X ws es → Reps h X (vs ++ ws) (ds ++ es)
  | _, _, _, _, .nil, k => k
  | _, _, _, _, .cons a r, k => .cons a (Reps.append r k)
theorem Reps.get {h : Heap} {X : Addr → Prop} : ∀ {vs : List Value} {ds : List PyData}, Reps h X vs ds → ∀ (i : Nat) (d : PyData), ds[i]? = some d → ∃ v, vs[i]? = some v ∧ Rep h X v d
  | _, _, .nil, i, d, e => by simp at e
  | _, _, .cons a r, 0, d, e => ⟨_, rfl, by simp at e; exact e ▸ a⟩
  | _, _, .cons a r, i + 1, d, e => by simp at e; obtain ⟨v, h1, h2⟩ := Reps.get r i d e; exact ⟨v, by simpa using h1, h2⟩
theorem Reps.getV {h : Heap} {X : Addr → Prop} : ∀ {vs : List Value} {ds : List PyData}, Reps h X vs ds → ∀ (i : Nat) (v : Value), vs[i]? = some v → ∃ d, ds[i]? = some d ∧ Rep h X v d
  | _, _, .nil, i, d, e => by simp at e
  | _, _, .cons a r, 0, d, e => ⟨_, rfl, by simp at e; exact e ▸ a⟩
  | _, _, .cons a r, i + 1, d, e => by simp at e; obtain ⟨v, h1, h2⟩ := Reps.getV r i d e; exact ⟨v, by simpa using h1, h2⟩
theorem Reps.take {h : Heap} {X : Addr → Prop} : ∀ {vs : List Value} {ds : List PyData}, Reps h X vs ds → ∀ n, Reps h X (vs.take n) (ds.take n)
  | _, _, .nil, n => by simp; exact .nil
  | _, _, .cons a r, 0 => by simp; exact .nil
  | _, _, .cons a r, n + 1 => .cons a (Reps.take r n)
theorem Reps.drop {h : Heap} {X : Addr → Prop} : ∀ {vs : List Value} {ds : List PyData}, Reps h X vs ds → ∀ n, Reps h X (vs.drop n) (ds.drop n)
  | _, _, .nil, n => by simp; exact .nil
  | _, _, .cons a r, 0 => .cons a r
  | _, _, .cons a r, n + 1 => Reps.drop r n

/-- texts -/
theorem reps_strs {h : Heap} {X : Addr → Prop} : ∀ {vs : List Value} {xs : List Str}, Reps h X vs (xs.map .str) → ∃ l : List (Str × Tok), vs = strValues l ∧ l.map (·.1) = xs
  | _, [], .nil => ⟨[], rfl, rfl⟩
  | _, x :: xs, .cons a r => by
    cases a with
    | str _ t =>
      obtain ⟨l, h1, h2⟩ := reps_strs r
      exact ⟨(x, t) :: l, by rw [h1]; rfl, by simp [h2]⟩
theorem strs_reps {h : Heap} {X : Addr → Prop} : ∀ (l : List (Str × Tok)), Reps h X (strValues l) ((l.map (·.1)).map .str)
  | [] => .nil
  | (x, t) :: l => .cons (.str x t) (strs_reps l)

/-! ## Inversions, once -/
section
variable {h : Heap} {X : Addr → Prop} {v : Value} {vs : List Value} {d : PyData} {ds : List PyData}
theorem Rep.int_inv {i : Int} (r : Rep h X v (.int i)) : ∃ t, v = .int i t := by cases r; exact ⟨_, rfl⟩
theorem Rep.str_inv {x : Str} (r : Rep h X v (.str x)) : ∃ t, v = .str x t := by cases r; exact ⟨_, rfl⟩
theorem Rep.list_inv (r : Rep h X v (.list ds)) : ∃ a vs, v = .ref a ∧ ¬ X a ∧ h.IsList a vs.toArray ∧ Reps h X vs ds := by
  cases r with
  | list a b c => exact ⟨_, _, rfl, a, b, c⟩
theorem Rep.tuple_inv (r : Rep h X v (.tuple ds)) : ∃ a vs, v = .ref a ∧ ¬ X a ∧ IsTupV h a vs.toArray ∧ Reps h X vs ds := by
  cases r with
  | tuple a b c => exact ⟨_, _, rfl, a, b, c⟩
theorem Reps.nil_inv (r : Reps h X vs []) : vs = [] := by cases r; rfl
theorem Reps.cons_inv (r : Reps h X vs (d :: ds)) : ∃ v ws, vs = v :: ws ∧ Rep h X v d ∧ Reps h X ws ds := by
  cases r with
  | cons a b => exact ⟨_, _, rfl, a, b⟩
theorem Reps.one_inv (r : Reps h X vs [d]) : ∃ v, vs = [v] ∧ Rep h X v d := by
  obtain ⟨v, ws, rfl, a, b⟩ := r.cons_inv
  rw [b.nil_inv]
  exact ⟨v, rfl, a⟩
theorem Reps.two_inv {d' : PyData} (r : Reps h X vs [d, d']) : ∃ v w, vs = [v, w] ∧ Rep h X v d ∧ Rep h X w d' := by
  obtain ⟨v, ws, rfl, a, b⟩ := r.cons_inv
  obtain ⟨w, rfl, c⟩ := b.one_inv
  exact ⟨v, w, rfl, a, c⟩
end
end Mine

/-! text VB -/
namespace Mine
open PySem

/-! ## Contexts -/

structure Glo where
  prog : Program
  w : World
  h₀ : Heap
  mg : Str → Option Value
  mb : Str → Option Value
  g : h₀.Ns mainGlobals mg
  b : h₀.Ns builtinsNs mb
  lim : h₀.NoLimit

noncomputable abbrev Glo.M (G : Glo) : Model := model G.prog G.w

inductive Slot where
  | sh (d : PyData)
  | ow (ds : List PyData)

noncomputable abbrev AEnv := List (Str × Slot)

noncomputable def Alive (X : Addr → Prop) (h : Heap) : Prop := ∀ a, X a → ∃ o, h.get? a = some o
theorem Alive.keep {X : Addr → Prop} {h h' : Heap} (k : Keep h h') (a : Alive X h) : Alive X h' := fun b hb => let ⟨o, ho⟩ := a b hb; ⟨o, k _ _ ho⟩
theorem Alive.fresh {X : Addr → Prop} {h : Heap} {a : Addr} (k : Alive X h) (e : h.get? a = none) : ¬ X a := fun hx => by obtain ⟨o, ho⟩ := k a hx; rw [e] at ho; cases ho
theorem get?_size (h : Heap) : h.get? h.objs.size = none := Heap.get?_none_of_le (Nat.le_refl _)
theorem Alive.next {X : Addr → Prop} {h : Heap} (k : Alive X h) : ¬ X h.objs.size := k.fresh (get?_size h)

noncomputable def FnEnv (env : Env) : Prop := env.scope.kind = .function ∧ env.globals = mainGlobals ∧ env.builtins = builtinsNs

noncomputable def Loads (env : Env) (h : Heap) (x : Str) (v : Value) : Prop :=
  (env.kindOf x = some .local ∧ ∃ m, h.Ns env.locals m ∧ m x = some v) ∨ (env.kindOf x = some .cell ∧ ∃ c, env.cells.lookup x = some c ∧ h.IsCell c (some v))
theorem Loads.keep {env : Env} {h h' : Heap} {x : Str} {v : Value} (k : Keep h h') (l : Loads env h x v) : Loads env h' x v := by
  rcases l with ⟨a, m, b, c⟩ | ⟨a, m, b, c⟩
  · exact .inl ⟨a, m, b.keeps k, c⟩
  · exact .inr ⟨a, m, b, c.keeps k⟩

structure Rd (G : Glo) (X : Addr → Prop) (env : Env) (Γ : AEnv) (h : Heap) : Prop where
  fe : FnEnv env
  base : Keep G.h₀ h
  alive : Alive X h
  off : ∀ a, X a → G.h₀.get? a = none
  var : ∀ x d, (x, Slot.sh d) ∈ Γ → ∃ v, Loads env h x v ∧ Rep h X v d

theorem Rd.keep {G : Glo} {X : Addr → Prop} {env : Env} {Γ : AEnv} {h h' : Heap} (k : Keep h h') (r : Rd G X env Γ h) : Rd G X env Γ h' :=
  ⟨r.fe, r.base.trans k, r.alive.keep k, r.off, fun x d hx => let ⟨v, a, b⟩ := r.var x d hx; ⟨v, a.keep k, b.keep k⟩⟩

noncomputable def AOk (n : Nat) (A : Around) : Prop := A.handled = none ∧ A.depth + n < 1000 ∧ A.units + 8 * n + 80 < 9900
theorem AOk.le {n m : Nat} {A : Around} (a : AOk n A) (h : m ≤ n) : AOk m A := ⟨a.1, by have := a.2.1; omega, by have := a.2.2; omega⟩
theorem AOk.deeper {n : Nat} {A : Around} {env : Env} (a : AOk (n + 1) A) : AOk n (A.deeper env) := ⟨a.1, by have := a.2.1; show A.depth + 1 + n < 1000; omega, by have := a.2.2; show A.units + 3 + 8 * n + 80 < 9900; omega⟩

noncomputable def Kp (s s' : Shared) : Prop := ∃ h' tk, s' = { s with heap := h', toks := tk } ∧ ∀ b o, s.heap.get? b = some o → h'.get? b = some o
theorem Kp.refl (s : Shared) : Kp s s := ⟨s.heap, s.toks, rfl, fun _ _ e => e⟩
theorem Kp.toks (s : Shared) (k : Nat) : Kp s { s with toks := k } := ⟨s.heap, k, rfl, fun _ _ e => e⟩
theorem Kp.mk' {s : Shared} {h : Heap} {k : Nat} (e : Keep s.heap h) : Kp s { s with heap := h, toks := k } := ⟨h, k, rfl, e⟩
theorem Kp.heap {s : Shared} {h : Heap} (e : Keep s.heap h) : Kp s { s with heap := h } := ⟨h, s.toks, rfl, e⟩
theorem Kp.push (s : Shared) (o : Obj) (k : Nat) : Kp s { s with heap := s.heap.push o, toks := k } := ⟨_, k, rfl, fun _ _ e => Heap.get?_push_of_some o e⟩
theorem Kp.keep {s s' : Shared} (k : Kp s s') : Keep s.heap s'.heap := by obtain ⟨h, tk, rfl, e⟩ := k; exact e
theorem Kp.trans {s s' s'' : Shared} (a : Kp s s') (b : Kp s' s'') : Kp s s'' := by
  obtain ⟨h, tk, rfl, e⟩ := a
  obtain ⟨h', tk', rfl, e'⟩ := b
  exact ⟨h', tk', rfl, fun b o x => e' b o (e b o x)⟩

/-- a tree that gives a value for the datum d and keeps all that stood -/
noncomputable def Gives (G : Glo) (A : Around) (X : Addr → Prop) (t : Sem Value) (d : PyData) (s : Shared) : Prop :=
  ∀ E : Value → Shared → Prop, wpAny G.M A t (fun v s' => Kp s s' ∧ Rep s'.heap X v d) E s

structure PE (G : Glo) (A : Around) (env : Env) (Γ : AEnv) (e : Expr) (d : PyData) : Prop where
  val : ∀ (X : Addr → Prop) (s : Shared), Rd G X env Γ s.heap → Gives G A X (eval e env) d s

structure PB (G : Glo) (A : Around) (env : Env) (Γ : AEnv) (e : Expr) (b : Bool) : Prop where
  val : ∀ (E : Value → Shared → Prop) (X : Addr → Prop) (s : Shared), Rd G X env Γ s.heap → wpAny G.M A (isTrue e env (eval e env)) (fun r s' => Kp s s' ∧ r = b) E s

section
variable {G : Glo} {A : Around} {env : Env} {Γ : AEnv} {X : Addr → Prop} {s : Shared} {E : Value → Shared → Prop}

theorem Gives.run {t : Sem Value} {d : PyData} {Q : Value → Shared → Prop} (p : Gives G A X t d s) (k : ∀ v s', Kp s s' → Rep s'.heap X v d → Q v s') : wpAny G.M A t Q E s :=
  wpAny_mono (p E) (fun v s' h => k v s' h.1 h.2) fun _ _ e => e

theorem PE.run {e : Expr} {d : PyData} {Q : Value → Shared → Prop} (p : PE G A env Γ e d) (R : Rd G X env Γ s.heap)
    (k : ∀ v s', Kp s s' → Rd G X env Γ s'.heap → Rep s'.heap X v d → Q v s') : wpAny G.M A (eval e env) Q E s :=
  (p.val X s R).run fun v s' h r => k v s' h (R.keep h.keep) r

theorem PB.run {e : Expr} {b : Bool} {Q : Bool → Shared → Prop} (p : PB G A env Γ e b) (R : Rd G X env Γ s.heap)
    (k : ∀ s', Kp s s' → Rd G X env Γ s'.heap → Q b s') : wpAny G.M A (isTrue e env (eval e env)) Q E s :=
  wpAny_mono (p.val E X s R) (fun v s' h => h.2 ▸ k s' h.1 (R.keep h.1.keep)) fun _ _ e => e

/-! ## Names and constants -/

theorem PE.name {x : Str} {pos : Pos} {d : PyData} (hx : (x, Slot.sh d) ∈ Γ) (hd : (x == ("__debug__" : Str)) = false := by decide) : PE G A env Γ (.Name x pos) d := by
  refine ⟨?_⟩
  intro X s R E
  obtain ⟨v, hl, hr⟩ := R.var x d hx
  refine wpAny_Name ?_ hd
  rcases hl with ⟨hk, m, hn, hv⟩ | ⟨hk, c, hc, hv⟩
  · exact wpAny_loadName_local R.fe.1 hk hn hv ⟨Kp.refl s, hr⟩
  · exact wpAny_loadName_cell R.fe.1 hk hc hv ⟨Kp.refl s, hr⟩

theorem PE.cint {i : Int} {k : Nat} {pos : Pos} : PE G A env Γ (.Constant (.int i) k pos) (.int i) := ⟨fun _ s _ _ => wpAny_Constant_int ⟨Kp.toks s _, .int i _⟩⟩
theorem PE.cstr {x : Str} {k : Nat} {pos : Pos} : PE G A env Γ (.Constant (.str x) k pos) (.str x) := ⟨fun _ s _ _ => Calls.Constant_str ⟨Kp.toks s _, .str x _⟩⟩

/-! ## Operators -/

structure BinOk (op : Operator) (a b c : PyData) : Prop where
  val : ∀ (G : Glo) (A : Around) (X : Addr → Prop) (s : Shared) (va vb : Value), Alive X s.heap → Rep s.heap X va a → Rep s.heap X vb b → Gives G A X (binaryOp op va vb) c s

theorem PE.bin {l r : Expr} {op : Operator} {pos : Pos} {a b c : PyData} (hl : PE G A env Γ l a) (hr : PE G A env Γ r b) (ho : BinOk op a b c) : PE G A env Γ (.BinOp l op r pos) c := by
  refine ⟨?_⟩
  intro X s R E
  refine wpAny_BinOp (hl.run R fun va s₁ k₁ R₁ r₁ => hr.run R₁ fun vb s₂ k₂ R₂ r₂ => ?_)
  exact (ho.val G A X s₂ va vb R₂.alive (r₁.keep k₂.keep) r₂).run fun v s₃ k₃ r₃ => ⟨(k₁.trans k₂).trans k₃, r₃⟩

theorem BinOk.ii {op : Operator} {a b : Int} {c : PyData} (h : ∀ (G : Glo) (A : Around) (X : Addr → Prop) (s : Shared) (t u : Tok), Gives G A X (binaryOp op (.int a t) (.int b u)) c s) : BinOk op (.int a) (.int b) c := by
  refine ⟨fun G A X s va vb _ ha hb => ?_⟩
  obtain ⟨t, rfl⟩ := ha.int_inv
  obtain ⟨u, rfl⟩ := hb.int_inv
  exact h G A X s t u
theorem BinOk.ss {op : Operator} {a b : Str} {c : PyData} (h : ∀ (G : Glo) (A : Around) (X : Addr → Prop) (s : Shared) (t u : Tok), Gives G A X (binaryOp op (.str a t) (.str b u)) c s) : BinOk op (.str a) (.str b) c := by
  refine ⟨fun G A X s va vb _ ha hb => ?_⟩
  obtain ⟨t, rfl⟩ := ha.str_inv
  obtain ⟨u, rfl⟩ := hb.str_inv
  exact h G A X s t u
theorem BinOk.si {op : Operator} {a : Str} {b : Int} {c : PyData} (h : ∀ (G : Glo) (A : Around) (X : Addr → Prop) (s : Shared) (t u : Tok), Gives G A X (binaryOp op (.str a t) (.int b u)) c s) : BinOk op (.str a) (.int b) c := by
  refine ⟨fun G A X s va vb _ ha hb => ?_⟩
  obtain ⟨t, rfl⟩ := ha.str_inv
  obtain ⟨u, rfl⟩ := hb.int_inv
  exact h G A X s t u
theorem BinOk.addI {a b : Int} : BinOk .Add (.int a) (.int b) (.int (a + b)) := by
  refine BinOk.ii fun G A X s t u E => ?_
  exact P.add_int ⟨Kp.toks _ _, .int _ _⟩
theorem BinOk.subI {a b : Int} : BinOk .Sub (.int a) (.int b) (.int (a - b)) := by
  refine BinOk.ii fun G A X s t u E => ?_
  exact P.sub_int ⟨Kp.toks _ _, .int _ _⟩

end
end Mine

/-! text VC -/
namespace Mine
open PySem

section
variable {G : Glo} {A : Around} {env : Env} {Γ : AEnv} {X : Addr → Prop} {s : Shared} {E : Value → Shared → Prop}

theorem BinOk.fdivI {a b : Int} (hb : b ≠ 0) (hs : b.natAbs < 1073741824) : BinOk .FloorDiv (.int a) (.int b) (.int (a.fdiv b)) := by
  refine BinOk.ii fun G A X s t u E => ?_
  exact PyProof.Rows.floordiv_int hb ⟨Kp.toks _ _, .int _ _⟩ (.inl (PyProof.noPylong_small hs))
theorem BinOk.modI {a b : Int} (hb : b ≠ 0) : BinOk .Mod (.int a) (.int b) (.int (a.fmod b)) := by
  refine BinOk.ii fun G A X s t u E => ?_
  exact PyProof.Rows.mod_int' hb ⟨Kp.toks _ _, .int _ _⟩
theorem BinOk.addS {a b : Str} (hsz : a.length + b.length ≤ sizeLine) : BinOk .Add (.str a) (.str b) (.str (a ++ b)) := by
  refine BinOk.ss fun G A X s t u E => ?_
  exact PyProof.Rows.add_str (fun _ _ => ⟨Kp.toks _ _, .str _ _⟩) hsz
theorem BinOk.mulS {a : Str} {n : Int} (hok : MulOk a n) : BinOk .Mult (.str a) (.int n) (.str (Txt.mul a n)) := by
  refine BinOk.si fun G A X s t u E => ?_
  exact SB.mul hok fun _ _ => ⟨Kp.toks _ _, .str _ _⟩

theorem newList_gives {vs : List Value} {ds : List PyData} (ha : Alive X s.heap) (hr : Reps s.heap X vs ds) (hsz : vs.length ≤ sizeLine) : Gives G A X (newList vs) (.list ds) s := by
  intro E
  refine wpAny_newObj_type ⟨Kp.heap (Keep.push _ _), ?_⟩ (by show vs.toArray.size ≤ sizeLine; rw [List.size_toArray]; exact hsz)
  exact .list ha.next ⟨_, Heap.get?_push_size _ rfl, rfl, _, rfl⟩ (hr.keep (Keep.push _ _))
theorem newTuple_gives {vs : List Value} {ds : List PyData} (ha : Alive X s.heap) (hr : Reps s.heap X vs ds) (hsz : vs.length ≤ sizeLine) : Gives G A X (newTuple vs) (.tuple ds) s := by
  intro E
  refine wpAny_newObj_type ⟨Kp.heap (Keep.push _ _), ?_⟩ (by show vs.toArray.size ≤ sizeLine; rw [List.size_toArray]; exact hsz)
  exact .tuple ha.next ⟨_, Heap.get?_push_size _ rfl, rfl, _, rfl⟩ (hr.keep (Keep.push _ _))

theorem BinOk.addL {a b : List PyData} (hsz : a.length + b.length ≤ sizeLine) : BinOk .Add (.list a) (.list b) (.list (a ++ b)) := by
  refine ⟨?_⟩
  intro G A X s va vb ha hra hrb E
  obtain ⟨l, vs, rfl, hx, hl, r1⟩ := hra.list_inv
  obtain ⟨b, ws, rfl, hy, hb, r2⟩ := hrb.list_inv
  obtain ⟨⟨cls, dd, data, sl⟩, ho, hc, n, hd⟩ := id hl
  obtain ⟨⟨cls2, dd2, data2, sl2⟩, ho2, hc2, n2, hd2⟩ := id hb
  simp only at hc hd hc2 hd2
  subst hc hd hc2 hd2
  have e : vs.toArray ++ ws.toArray = (vs ++ ws).toArray := by simp
  have hsz' : vs.length + ws.length ≤ sizeLine := by rw [r1.length, r2.length]; exact hsz
  refine concat_meets ⟨_, ho, rfl⟩ ⟨_, ho2, rfl⟩ noFill_list_add seq_list_add PySem.F.slot_list_add PySem.F.entry_list_add (PySem.F.args_list_add_2 _ _) (PyProof.Rows.list_addW l b vs.toArray ws.toArray n n2 dd dd2 sl sl2 (by simpa using hsz')) ⟨ho, ho2, ?_⟩
  rw [e]
  exact ⟨Kp.heap (Keep.push _ _), .list ha.next ⟨_, Heap.get?_push_size _ rfl, rfl, _, rfl⟩ ((r1.append r2).keep (Keep.push _ _))⟩

/-! ## Comparisons -/
structure CmpOk (n : Nat) (op : CmpOp) (a b : PyData) (r : Bool) : Prop where
  val : ∀ (G : Glo) (A : Around) (X : Addr → Prop) (s : Shared) (va vb : Value), AOk n A → Rep s.heap X va a → Rep s.heap X vb b → Gives G A X (compareOp op va vb) (.bool r) s

theorem CmpOk.ii {n : Nat} {op : CmpOp} {a b : Int} {r : Bool} (h : ∀ (G : Glo) (A : Around) (X : Addr → Prop) (s : Shared) (t u : Tok), Gives G A X (compareOp op (.int a t) (.int b u)) (.bool r) s) : CmpOk n op (.int a) (.int b) r := by
  refine ⟨fun G A X s va vb _ ha hb => ?_⟩
  obtain ⟨t, rfl⟩ := ha.int_inv
  obtain ⟨u, rfl⟩ := hb.int_inv
  exact h G A X s t u
theorem CmpOk.ss {n : Nat} {op : CmpOp} {a b : Str} {r : Bool} (h : ∀ (G : Glo) (A : Around) (X : Addr → Prop) (s : Shared) (t u : Tok), Gives G A X (compareOp op (.str a t) (.str b u)) (.bool r) s) : CmpOk n op (.str a) (.str b) r := by
  refine ⟨fun G A X s va vb _ ha hb => ?_⟩
  obtain ⟨t, rfl⟩ := ha.str_inv
  obtain ⟨u, rfl⟩ := hb.str_inv
  exact h G A X s t u
theorem CmpOk.ltI {n : Nat} {a b : Int} : CmpOk n .Lt (.int a) (.int b) (decide (a < b)) := by
  refine CmpOk.ii fun G A X s t u E => ?_
  exact P.lt_int ⟨Kp.refl _, .bool _⟩
theorem CmpOk.leI {n : Nat} {a b : Int} : CmpOk n .LtE (.int a) (.int b) (decide (a ≤ b)) := by
  refine CmpOk.ii fun G A X s t u E => ?_
  exact P.le_int ⟨Kp.refl _, .bool _⟩
theorem CmpOk.eqI {n : Nat} {a b : Int} : CmpOk n .Eq (.int a) (.int b) (decide (a = b)) := by
  refine CmpOk.ii fun G A X s t u E => ?_
  refine P.eq_int ⟨Kp.refl _, ?_⟩
  rw [show (a == b) = decide (a = b) from rfl]
  exact .bool _
theorem CmpOk.neI {n : Nat} {a b : Int} : CmpOk n .NotEq (.int a) (.int b) (!decide (a = b)) := by
  refine CmpOk.ii fun G A X s t u E => ?_
  refine P.ne_int ⟨Kp.refl _, ?_⟩
  rw [show (a != b) = !decide (a = b) from rfl]
  exact .bool _
theorem CmpOk.eqS {n : Nat} {a b : Str} : CmpOk n .Eq (.str a) (.str b) (decide (a = b)) := by
  refine CmpOk.ss fun G A X s t u E => ?_
  refine PyProof.Rows.eq_str ⟨Kp.refl _, ?_⟩
  rw [show (a == b) = decide (a = b) from by rw [Bool.eq_iff_iff]; simp]
  exact .bool _
theorem CmpOk.neS {n : Nat} {a b : Str} : CmpOk n .NotEq (.str a) (.str b) (!decide (a = b)) := by
  refine CmpOk.ss fun G A X s t u E => ?_
  refine PyProof.Rows.ne_str ⟨Kp.refl _, ?_⟩
  rw [show (a != b) = !decide (a = b) from by rw [Bool.eq_iff_iff]; simp]
  exact .bool _

end
end Mine

/-! text VD -/
namespace Mine
open PySem

section
variable {G : Glo} {A : Around} {env : Env} {Γ : AEnv} {X : Addr → Prop} {s : Shared} {E : Value → Shared → Prop} {n : Nat}

/-! ## Comparisons and tests as expressions -/
theorem PE.cmp1 {l r : Expr} {op : CmpOp} {pos : Pos} {a b : PyData} {c : Bool} (hA : AOk n A) (hl : PE G A env Γ l a) (hr : PE G A env Γ r b) (hc : CmpOk n op a b c)
    (hm : behindInMarks op r = false := by with_unfolding_all rfl) : PE G A env Γ (.Compare l [op] [r] pos) (.bool c) := by
  refine ⟨?_⟩
  intro X s R E
  refine wpAny_Compare1 (hl.run R fun va s₁ k₁ R₁ r₁ => hr.run R₁ fun vb s₂ k₂ R₂ r₂ => ?_) hm
  exact (hc.val G A X s₂ va vb hA (r₁.keep k₂.keep) r₂).run fun v s₃ k₃ r₃ => ⟨(k₁.trans k₂).trans k₃, r₃⟩

theorem PB.cmp1 {l r : Expr} {op : CmpOp} {pos : Pos} {a b : PyData} {c : Bool} (hA : AOk n A) (hl : PE G A env Γ l a) (hr : PE G A env Γ r b) (hc : CmpOk n op a b c)
    (hm : behindInMarks op r = false := by with_unfolding_all rfl) : PB G A env Γ (.Compare l [op] [r] pos) c := by
  refine ⟨?_⟩
  intro E X s R
  refine wpAny_isTrue_Compare1 (hl.run R fun va s₁ k₁ R₁ r₁ => hr.run R₁ fun vb s₂ k₂ R₂ r₂ => ?_) hm
  refine (hc.val G A X s₂ va vb hA (r₁.keep k₂.keep) r₂).run fun v s₃ k₃ r₃ => ?_
  cases r₃
  exact wpAny_truthy_bool ⟨(k₁.trans k₂).trans k₃, rfl⟩

theorem rel_ {M : Model} {A : Around} {vs keep : List Value} {Q : Unit → Shared → Prop} (h : Q () s) : wpAny M A (release vs keep) Q E s := fun Γ p hΓ => by rw [Sem.wp_release]; exact h

theorem PB.chain2 {l m r : Expr} {op op' : CmpOp} {pos : Pos} {a b d : PyData} {c c' : Bool} (hA : AOk n A) (hl : PE G A env Γ l a) (hm : PE G A env Γ m b) (hc : CmpOk n op a b c)
    (hr : PE G A env Γ r d) (hc' : CmpOk n op' b d c') (hmk : behindInMarks op' r = false := by with_unfolding_all rfl) : PB G A env Γ (.Compare l [op, op'] [m, r] pos) (c && c') := by
  refine ⟨?_⟩
  intro E X s R
  show wpAny G.M A (eval l env >>= fun left => testChain pos left [op, op'] [eval m env, markedBehindIn op' r (eval r env)]) _ E s
  refine wpAny_bind (hl.run R fun va s₁ k₁ R₁ r₁ => ?_)
  rw [markedBehindIn_of_false hmk]
  unfold testChain
  refine wpAny_bind (wpAny_holding (hm.run R₁ fun vb s₂ k₂ R₂ r₂ => wpAny_bind (wpAny_standAt (wpAny_bind (wpAny_holding ?_)))))
  refine (hc.val G A X s₂ va vb hA (r₁.keep k₂.keep) r₂).run fun v s₃ k₃ r₃ => ?_
  have R₃ := R₂.keep k₃.keep
  refine wpAny_bind (rel_ ?_)
  cases r₃
  refine wpAny_bind (wpAny_holding (wpAny_truthy_bool ?_))
  cases c with
  | false => exact wpAny_pure ⟨(k₁.trans k₂).trans k₃, rfl⟩
  | true =>
    simp only [if_true, Bool.true_and]
    unfold testChain
    refine wpAny_bind (wpAny_holding (hr.run R₃ fun vd s₄ k₄ R₄ r₄ => wpAny_bind (wpAny_standAt (wpAny_bind (wpAny_operating ?_)))))
    refine (hc'.val G A X s₄ vb vd hA ((r₂.keep k₃.keep).keep k₄.keep) r₄).run fun v s₅ k₅ r₅ => ?_
    cases r₅
    exact wpAny_holding (wpAny_truthy_bool ⟨(((k₁.trans k₂).trans k₃).trans k₄).trans k₅, rfl⟩)

structure PBs (G : Glo) (A : Around) (env : Env) (Γ : AEnv) (op : BoolOp) (es : List Expr) (b : Bool) : Prop where
  val : ∀ (E : Value → Shared → Prop) (X : Addr → Prop) (s : Shared), Rd G X env Γ s.heap → wpAny G.M A (allTrue op es env) (fun r s' => Kp s s' ∧ r = b) E s
theorem PBs.andNil : PBs G A env Γ .And [] true := ⟨fun _ _ _ _ => wpAny_allTrue_And_nil ⟨Kp.refl _, rfl⟩⟩
theorem PBs.orNil : PBs G A env Γ .Or [] false := ⟨fun _ _ _ _ => wpAny_allTrue_Or_nil ⟨Kp.refl _, rfl⟩⟩
theorem PBs.and {x : Expr} {rest : List Expr} {b c : Bool} (hx : PB G A env Γ x b) (hr : b = true → PBs G A env Γ .And rest c) : PBs G A env Γ .And (x :: rest) (b && c) := by
  refine ⟨?_⟩
  intro E X s R
  refine wpAny_allTrue_And_cons (hx.run R fun s₁ k₁ R₁ => ?_)
  cases b with
  | false => exact ⟨k₁, rfl⟩
  | true => exact wpAny_mono ((hr rfl).val E X s₁ R₁) (fun r s₂ h => ⟨k₁.trans h.1, h.2⟩) fun _ _ e => e
theorem PBs.or {x : Expr} {rest : List Expr} {b c : Bool} (hx : PB G A env Γ x b) (hr : b = false → PBs G A env Γ .Or rest c) : PBs G A env Γ .Or (x :: rest) (b || c) := by
  refine ⟨?_⟩
  intro E X s R
  refine wpAny_allTrue_Or_cons (hx.run R fun s₁ k₁ R₁ => ?_)
  cases b with
  | true => exact ⟨k₁, rfl⟩
  | false => exact wpAny_mono ((hr rfl).val E X s₁ R₁) (fun r s₂ h => ⟨k₁.trans h.1, h.2⟩) fun _ _ e => e
theorem PB.bools {op : BoolOp} {es : List Expr} {pos : Pos} {b : Bool} (h : PBs G A env Γ op es b) : PB G A env Γ (.BoolOp op es pos) b :=
  ⟨fun E X s R => wpAny_isTrue_BoolOp (h.val E X s R)⟩

structure TrueOk (d : PyData) (b : Bool) : Prop where
  val : ∀ (G : Glo) (A : Around) (X : Addr → Prop) (s : Shared) (v : Value) (E : Value → Shared → Prop), Rep s.heap X v d → wpAny G.M A (truthy v) (fun r s' => Kp s s' ∧ r = b) E s
theorem TrueOk.str {x : Str} (hsz : x.length ≤ sizeLine) : TrueOk (.str x) (decide (x ≠ Str.empty)) := by
  refine ⟨?_⟩
  intro G A X s v E hr
  obtain ⟨t, rfl⟩ := hr.str_inv
  have e : ((x.length : Int) != 0) = decide (x ≠ Str.empty) := by
    rw [Bool.eq_iff_iff]
    simp only [bne_iff_ne, decide_eq_true_eq]
    constructor
    · rintro h rfl; exact h rfl
    · intro h e; apply h
      obtain ⟨a⟩ := x
      have : a.size = 0 := by have e' : ((a.size : Nat) : Int) = 0 := e; omega
      rw [Array.eq_empty_of_size_eq_zero this]; rfl
  refine P.truthy_str (by unfold sizeLine at hsz; omega) ⟨Kp.toks _ _, e⟩
theorem TrueOk.list {ds : List PyData} (hsz : ds.length ≤ sizeLine) : TrueOk (.list ds) (!ds.isEmpty) := by
  refine ⟨?_⟩
  intro G A X s v E hr
  obtain ⟨a, vs, rfl, hx, hl, r1⟩ := hr.list_inv
  have hlen := r1.length
  refine wpAny_truthy_list hl (by rw [List.size_toArray]; unfold sizeLine at hsz; omega) ⟨Kp.toks _ _, ?_⟩
  cases vs with
  | nil => cases ds with
    | nil => rfl
    | cons => simp at hlen
  | cons => cases ds with
    | nil => simp at hlen
    | cons => rfl

theorem PB.ofVal {e : Expr} {d : PyData} {b : Bool} (h : PE G A env Γ e d) (t : TrueOk d b)
    (he : ∀ whole, isTrue e env whole = (do let v ← whole; standAt e.pos; holding [v] (truthy v)) := by intro _; rfl) : PB G A env Γ e b := by
  refine ⟨?_⟩
  intro E X s R
  refine wpAny_isTrue_value (h.run R fun v s₁ k₁ R₁ r₁ => ?_) (he _)
  exact wpAny_mono (t.val G A X s₁ v E r₁) (fun r s₂ h => ⟨k₁.trans h.1, h.2⟩) fun _ _ e => e

theorem PE.ifexp {t b o : Expr} {pos : Pos} {c : Bool} {d : PyData} (ht : PB G A env Γ t c) (hb : c = true → PE G A env Γ b d) (ho : c = false → PE G A env Γ o d) : PE G A env Γ (.IfExp t b o pos) d := by
  refine ⟨?_⟩
  intro X s R E
  refine wpAny_IfExp (ht.run R fun s₁ k₁ R₁ => ?_)
  cases c with
  | true => exact (hb rfl).run R₁ fun v s₂ k₂ _ r₂ => ⟨k₁.trans k₂, r₂⟩
  | false => exact (ho rfl).run R₁ fun v s₂ k₂ _ r₂ => ⟨k₁.trans k₂, r₂⟩

/-! ## Argument lists, displays -/
structure PEs (G : Glo) (A : Around) (env : Env) (Γ : AEnv) (pos : Pos) (es : List Expr) (ds : List PyData) : Prop where
  val : ∀ (E : Value → Shared → Prop) (X : Addr → Prop) (s : Shared), Rd G X env Γ s.heap → wpAny G.M A (spliced (backTo pos (starEach es env))) (fun vs s' => Kp s s' ∧ Reps s'.heap X vs ds) E s
theorem PEs.nil {pos : Pos} : PEs G A env Γ pos [] [] := ⟨fun _ _ _ _ => Calls.spliced_nil ⟨Kp.refl _, .nil⟩⟩
theorem PEs.cons {pos : Pos} {e : Expr} {es : List Expr} {d : PyData} {ds : List PyData} (he : PE G A env Γ e d) (hs : PEs G A env Γ pos es ds)
    (hst : starEach (e :: es) env = (false, eval e env) :: starEach es env := by rfl) : PEs G A env Γ pos (e :: es) (d :: ds) := by
  refine ⟨?_⟩
  intro E X s R
  rw [hst]
  show wpAny G.M A (spliced ((false, eval e env) :: backTo pos (starEach es env))) _ _ s
  refine Calls.spliced_cons (he.run R fun v s₁ k₁ R₁ r₁ => ?_)
  exact wpAny_mono (hs.val E X s₁ R₁) (fun vs s₂ h => ⟨k₁.trans h.1, .cons (r₁.keep h.1.keep) h.2⟩) fun _ _ e => e

theorem PE.list {es : List Expr} {ds : List PyData} {pos : Pos} (h : PEs G A env Γ pos es ds) (hsz : ds.length ≤ sizeLine := by decide) : PE G A env Γ (.List es pos) (.list ds) := by
  refine ⟨?_⟩
  intro X s R E
  refine PyProof.Rows.List_ (wpAny_mono (h.val E X s R) (fun vs s₁ h₁ => ?_) fun _ _ e => e)
  exact (newList_gives (R.alive.keep h₁.1.keep) h₁.2 (by rw [h₁.2.length]; exact hsz)).run fun v s₂ k₂ r₂ => ⟨h₁.1.trans k₂, r₂⟩
theorem PE.tuple {es : List Expr} {ds : List PyData} {k : Nat} {pos : Pos} (h : PEs G A env Γ pos es ds) (hsz : ds.length ≤ sizeLine := by decide) : PE G A env Γ (.Tuple es k pos) (.tuple ds) := by
  refine ⟨?_⟩
  intro X s R E
  refine PyProof.Rows.Tuple_ (wpAny_mono (h.val E X s R) (fun vs s₁ h₁ => ?_) fun _ _ e => e)
  exact (newTuple_gives (R.alive.keep h₁.1.keep) h₁.2 (by rw [h₁.2.length]; exact hsz)).run fun v s₂ k₂ r₂ => ⟨h₁.1.trans k₂, r₂⟩

/-! ## Calls -/
noncomputable def Fn (G : Glo) (n : Nat) (name : Str) (P : List PyData → PyData → Prop) : Prop :=
  ∃ a o fd, G.mg name = some (.ref a) ∧ G.h₀.get? a = some o ∧ o.data = .func fd ∧
    ∀ (A : Around) (X : Addr → Prop) (s : Shared) (vs : List Value) (ds : List PyData) (r : PyData), AOk n A → Keep G.h₀ s.heap → Alive X s.heap → (∀ a, X a → G.h₀.get? a = none) → Reps s.heap X vs ds → P ds r → Gives G A X (PySem.call (.ref a) vs) r s

theorem loadGlobal_fn {x : Str} {v : Value} {p : Pos} {Q : Value → Shared → Prop} (R : Rd G X env Γ s.heap) (hk : env.kindOf x = some .globalImplicit) (hv : G.mg x = some v) (h : Q v s)
    (hd : (x == ("__debug__" : Str)) = false) : wpAny G.M A (eval (.Name x p) env) Q E s := by
  refine Calls.Name_function_global R.fe.1 hk (Calls.loadGlobal_global (mg := G.mg) ?_ hv h) hd
  rw [R.fe.2.1]; exact G.g.keeps R.base
theorem loadGlobal_bi {x : Str} {v : Value} {p : Pos} {Q : Value → Shared → Prop} (R : Rd G X env Γ s.heap) (hk : env.kindOf x = some .globalImplicit) (hm : G.mg x = none) (hv : G.mb x = some v) (h : Q v s)
    (hd : (x == ("__debug__" : Str)) = false) : wpAny G.M A (eval (.Name x p) env) Q E s := by
  refine Calls.Name_function_global R.fe.1 hk (Calls.loadGlobal_builtin (mg := G.mg) (mb := G.mb) ?_ hm ?_ hv h) hd
  · rw [R.fe.2.1]; exact G.g.keeps R.base
  · rw [R.fe.2.2]; exact G.b.keeps R.base

theorem eval_CallName {f : Str} {p pos : Pos} {args : List Expr} : eval (.Call (.Name f p) args [] pos) env = (do callWith pos (← eval (.Name f p) env) [] (backTo pos (starEach args env)) (backToKw pos (keywordEach [] env))) := rfl

theorem PE.call {f : Str} {p pos : Pos} {e : Expr} {es : List Expr} {ds : List PyData} {r : PyData} {P : List PyData → PyData → Prop} (hA : AOk n A) (F : Fn G n f P) (hes : PEs G A env Γ pos (e :: es) ds) (hP : P ds r)
    (hk : env.kindOf f = some .globalImplicit := by rfl) (hd : (f == ("__debug__" : Str)) = false := by decide)
    (hst : ∃ t ts, backTo pos (starEach (e :: es) env) = (false, t) :: ts := by exact ⟨_, _, rfl⟩) : PE G A env Γ (.Call (.Name f p) (e :: es) [] pos) r := by
  refine ⟨?_⟩
  intro X s R E
  obtain ⟨a, o, fd, h1, h2, h3, h4⟩ := F
  rw [eval_CallName]
  refine wpAny_bind (loadGlobal_fn R hk h1 ?_ hd)
  show wpAny G.M A (callWith pos (.ref a) [] (backTo pos (starEach (e :: es) env)) []) _ E s
  have key := hes.val E X s R
  obtain ⟨t, ts, e'⟩ := hst
  rw [e'] at key ⊢
  refine Calls.callWith_function (o := o) (fd := fd) (Calls.evalArgs_plain (wpAny_mono key (fun vs s₁ h => ?_) fun _ _ e => e))
  have R₁ := R.keep h.1.keep
  refine ⟨⟨R₁.base _ _ h2, h3⟩, ?_⟩
  rw [List.nil_append]
  exact (h4 A X s₁ vs ds r hA R₁.base R₁.alive R₁.off h.2 hP).run fun v s₂ k₂ r₂ => ⟨h.1.trans k₂, r₂⟩

noncomputable def Bi (G : Glo) (name : Str) (v : Value) : Prop := G.mg name = none ∧ G.mb name = some v
structure CallB (n : Nat) (id : String) (ds : List PyData) (r : PyData) : Prop where
  val : ∀ (G : Glo) (A : Around) (X : Addr → Prop) (s : Shared) (vs : List Value), AOk n A → Alive X s.heap → Reps s.heap X vs ds → Gives G A X (PySem.call (.builtin id) vs) r s

theorem PE.bcall {f : Str} {id : String} {p pos : Pos} {e : Expr} {es : List Expr} {ds : List PyData} {r : PyData} (hA : AOk n A) (F : Bi G f (.builtin id)) (hes : PEs G A env Γ pos (e :: es) ds) (hP : CallB n id ds r)
    (hk : env.kindOf f = some .globalImplicit := by rfl) (hd : (f == ("__debug__" : Str)) = false := by decide)
    (hst : ∃ t ts, backTo pos (starEach (e :: es) env) = (false, t) :: ts := by exact ⟨_, _, rfl⟩) (hpl : (backTo pos (starEach (e :: es) env)).any (·.1) = false := by rfl) : PE G A env Γ (.Call (.Name f p) (e :: es) [] pos) r := by
  refine ⟨?_⟩
  intro X s R E
  rw [eval_CallName]
  refine wpAny_bind (loadGlobal_bi R hk F.1 F.2 ?_ hd)
  show wpAny G.M A (callWith pos (.builtin id) [] (backTo pos (starEach (e :: es) env)) []) _ E s
  have key := hes.val E X s R
  refine Calls.callWith_builtin hpl ?_
  obtain ⟨t, ts, e'⟩ := hst
  rw [e'] at key ⊢
  refine Calls.evalArgs_plain (wpAny_mono key (fun vs s₁ h => ?_) fun _ _ e => e)
  have R₁ := R.keep h.1.keep
  rw [List.nil_append]
  exact (hP.val G A X s₁ vs hA R₁.alive h.2).run fun v s₂ k₂ r₂ => ⟨h.1.trans k₂, r₂⟩

theorem CallB.s1 {id : String} {x : Str} {r : PyData} (h : ∀ (G : Glo) (A : Around) (X : Addr → Prop) (s : Shared) (t : Tok), Alive X s.heap → Gives G A X (PySem.call (.builtin id) [.str x t]) r s) : CallB n id [.str x] r := by
  refine ⟨fun G A X s vs _ ha hr => ?_⟩
  obtain ⟨v, rfl, h1⟩ := hr.one_inv
  obtain ⟨t, rfl⟩ := h1.str_inv
  exact h G A X s t ha
theorem CallB.si {id : String} {x : Str} {i : Int} {r : PyData} (h : ∀ (G : Glo) (A : Around) (X : Addr → Prop) (s : Shared) (t u : Tok), Gives G A X (PySem.call (.builtin id) [.str x t, .int i u]) r s) : CallB n id [.str x, .int i] r := by
  refine ⟨fun G A X s vs _ _ hr => ?_⟩
  obtain ⟨v, w, rfl, h1, h2⟩ := hr.two_inv
  obtain ⟨t, rfl⟩ := h1.str_inv
  obtain ⟨u, rfl⟩ := h2.int_inv
  exact h G A X s t u
theorem CallB.l1 {id : String} {ds : List PyData} {r : PyData} (h : ∀ (G : Glo) (A : Around) (X : Addr → Prop) (s : Shared) (a : Addr) (vs : List Value), AOk n A → s.heap.IsList a vs.toArray → Reps s.heap X vs ds → Gives G A X (PySem.call (.builtin id) [.ref a]) r s) : CallB n id [.list ds] r := by
  refine ⟨fun G A X s vs hA _ hr => ?_⟩
  obtain ⟨v, rfl, h1⟩ := hr.one_inv
  obtain ⟨a, vs, rfl, _, hl, r1⟩ := h1.list_inv
  exact h G A X s a vs hA hl r1
theorem CallB.lenS {x : Str} (hsz : x.length ≤ sizeLine) : CallB n "len" [.str x] (.int x.length) := by
  refine CallB.s1 fun G A X s t _ E => ?_
  exact P.len_str (by unfold sizeLine at hsz; omega) ⟨Kp.toks _ _, .int _ _⟩
theorem CallB.lenL {ds : List PyData} (hsz : ds.length ≤ sizeLine) : CallB n "len" [.list ds] (.int ds.length) := by
  refine CallB.l1 fun G A X s a vs _ hl r1 E => ?_
  have hlen := r1.length
  refine Calls.call_len_list hl (by rw [List.size_toArray]; unfold sizeLine at hsz; omega) ⟨Kp.toks _ _, ?_⟩
  rw [List.size_toArray, hlen]
  exact .int _ _

/-! ## Methods of texts -/
theorem PE.meth {o : Expr} {name : Str} {id : String} {apos pos : Pos} {x : Str} {es : List Expr} {ds : List PyData} {r : PyData} (hA : AOk n A) (ho : PE G A env Γ o (.str x)) (hes : PEs G A env Γ pos es ds) (slot : PySem.Slot "str" name id)
    (hty : typeOf (.builtin id) = pure (.type "method_descriptor")) (hP : CallB n id (.str x :: ds) r)
    (hbase : attributeBase o name env (eval o env) = eval o env := by rfl)
    (hfew : ((backTo pos (starEach es env)).all (fun x => !x.1) && (backToKw pos (keywordEach [] env)).all (fun x => x.1.isSome)
      && decide (es.length + ([] : List Keyword).length + (if ([] : List Keyword).isEmpty then 0 else 1) < 30)) = true := by rfl)
    (hline : (apos.endLine == pos.line) = true := by rfl) (hpl : (backTo pos (starEach es env)).any (·.1) = false := by rfl)
    (hst : (∃ t ts, backTo pos (starEach es env) = (false, t) :: ts) ∨ backTo pos (starEach es env) = [] := by first | exact .inr rfl | exact .inl ⟨_, _, rfl⟩) : PE G A env Γ (.Call (.Attribute o name apos) es [] pos) r := by
  refine ⟨?_⟩
  intro X s R E
  refine wpAny_Call_method (T := "str") hbase hfew hline F.plainAttrs_str slot hty (ho.run R fun ov s₁ k₁ R₁ r₁ => ?_)
  cases r₁ with
  | str _ t =>
    refine ⟨typeIs_str _ _ _, (fun a e => by cases e), ?_⟩
    refine Calls.callWith_builtin hpl ?_
    have key := hes.val E X s₁ R₁
    have fin : ∀ vs s₂, Kp s₁ s₂ → Reps s₂.heap X vs ds → wpAny G.M A (PySem.call (.builtin id) ([.str x t] ++ vs)) (fun v s' => Kp s s' ∧ Rep s'.heap X v r) E s₂ := fun vs s₂ k₂ r₂ =>
      (hP.val G A X s₂ (.str x t :: vs) hA (R₁.keep k₂.keep).alive (.cons (.str x t) r₂)).run fun v s₃ k₃ r₃ => ⟨(k₁.trans k₂).trans k₃, r₃⟩
    rcases hst with ⟨t', ts, e'⟩ | e'
    · rw [e'] at key ⊢
      exact Calls.evalArgs_plain (wpAny_mono key (fun vs s₂ h => fin vs s₂ h.1 h.2) fun _ _ e => e)
    · rw [e'] at key ⊢
      have key' : wpAny G.M A (pure ([] : List Value)) (fun vs s' => Kp s₁ s' ∧ Reps s'.heap X vs ds) E s₁ := key
      unfold evalArgs
      show wpAny G.M A (spliced [] >>= _) _ _ s₁
      refine wpAny_bind (wpAny_mono key (fun vs s₂ h => ?_) fun _ _ e => e)
      refine wpAny_holding ?_
      exact wpAny_bind (wpAny_pure (wpAny_bind (wpAny_pure (wpAny_pure (fin vs s₂ h.1 h.2)))))

theorem CallB.strip {x : Str} (hsz : x.length ≤ sizeLine) : CallB n "str.strip" [.str x] (.str (Txt.strip x)) := by
  refine CallB.s1 fun G A X s t _ E => ?_
  exact SC.strip (fun _ _ => ⟨Kp.toks _ _, .str _ _⟩) hsz
theorem CallB.rstrip {x : Str} (hsz : x.length ≤ sizeLine) : CallB n "str.rstrip" [.str x] (.str (Txt.rstrip x)) := by
  refine CallB.s1 fun G A X s t _ E => ?_
  exact SC.rstrip (fun _ _ => ⟨Kp.toks _ _, .str _ _⟩) hsz
theorem CallB.ljust {x : Str} {i : Int} (hp : PadOk i = true) : CallB n "str.ljust" [.str x, .int i] (.str (Txt.ljust x i)) := by
  refine CallB.si fun G A X s t u E => ?_
  exact SC.ljust hp (fun _ _ => ⟨Kp.toks _ _, .str _ _⟩)
theorem CallB.center {x : Str} {i : Int} (hp : PadOk i = true) : CallB n "str.center" [.str x, .int i] (.str (Txt.center x i)) := by
  refine CallB.si fun G A X s t u E => ?_
  exact SC.center hp (fun _ _ => ⟨Kp.toks _ _, .str _ _⟩)
theorem CallB.join {x : Str} {ts : List Str} (hok : JoinOk x ts = true) : CallB n "str.join" [.str x, .list (ts.map .str)] (.str (Txt.join x ts)) := by
  refine ⟨?_⟩
  intro G A X s vs _ _ hr E
  obtain ⟨v, w, rfl, h1, h2⟩ := hr.two_inv
  obtain ⟨t, rfl⟩ := h1.str_inv
  obtain ⟨a, vs, rfl, hx, hl, r1⟩ := h2.list_inv
  obtain ⟨l, rfl, h2⟩ := reps_strs r1
  exact SC.join hl h2 hok fun _ _ => ⟨Kp.toks _ _, .str _ _⟩
theorem CallB.split {x : Str} (hsz : x.length ≤ sizeLine) (hsz2 : (Builtin.Str.spaceWords x (x.length + 1)).length ≤ sizeLine) : CallB n "str.split" [.str x] (.list ((Txt.words x).map .str)) := by
  refine CallB.s1 fun G A X s t ha E => ?_
  refine call_meets F.slot_str_split (typeIs_str _ _ _) F.entry_str_split (F.args_str_split_1 _) (meets_str_split_space x _ hsz hsz2) ?_
  cases hw : Builtin.Str.spaceWords x (x.length + 1) == [(0, x.length)]
  · simp only [Bool.false_eq_true, if_false]
    rw [strsFrom_eq]
    refine ⟨Kp.push _ _ _, ?_⟩
    have e : (numbered s.toks (wordsOf x)).map (·.1) = Txt.words x := (numbered_texts _ _).trans (if_neg (ne_true_of_eq_false hw)).symm
    rw [← e]
    exact .list ha.next ⟨_, Heap.get?_push_size _ rfl, rfl, _, rfl⟩ (strs_reps _)
  · simp only [if_true]
    refine ⟨Kp.push _ _ s.toks, ?_⟩
    have e : Txt.words x = [x] := if_pos hw
    rw [e]
    exact .list (vs := [.str x _]) ha.next ⟨_, Heap.get?_push_size _ rfl, rfl, _, rfl⟩ (.cons (.str _ _) .nil)
end
end Mine

/-! text VE -/
namespace Mine
open PySem

section
variable {G : Glo} {A : Around} {env : Env} {Γ : AEnv} {X : Addr → Prop} {s : Shared} {E : Value → Shared → Prop} {n : Nat}

theorem PE.neg {e : Expr} {pos : Pos} {i : Int} (h : PE G A env Γ e (.int i)) : PE G A env Γ (.UnaryOp .USub e pos) (.int (-i)) := by
  refine ⟨?_⟩
  intro X s R E
  refine wpAny_UnaryOp (h.run R fun v s₁ k₁ R₁ r₁ => ?_)
  cases r₁
  exact P.neg_int ⟨k₁.trans (Kp.toks _ _), .int _ _⟩

/-- a name of the top whose datum stands there -/
noncomputable def TopD (G : Glo) (x : Str) (d : PyData) : Prop := ∃ v, G.mg x = some v ∧ Rep G.h₀ (fun _ => False) v d
theorem rep_offTop {h : Heap} {v : Value} {d : PyData} (k : Keep G.h₀ h) (off : ∀ a, X a → G.h₀.get? a = none) (r : Rep G.h₀ (fun _ => False) v d) : Rep h X v d :=
  r.safe fun a o _ ho _ => ⟨k a o ho, fun hx => by rw [off a hx] at ho; cases ho⟩
theorem PE.top {x : Str} {p : Pos} {d : PyData} (h : TopD G x d) (hk : env.kindOf x = some .globalImplicit := by rfl) (hd : (x == ("__debug__" : Str)) = false := by decide) : PE G A env Γ (.Name x p) d := by
  refine ⟨?_⟩
  intro X s R E
  obtain ⟨v, hv, hr⟩ := h
  exact loadGlobal_fn R hk hv ⟨Kp.refl _, rep_offTop R.base R.off hr⟩ hd

/-! ## Items and cuts -/
theorem subscript_any {value slice : Expr} {pos : Pos} {T id : String} {Q : Value → Shared → Prop}
    (hl : typeLookup (.type T) "__getitem__" = pure (some (.builtin id)))
    (h : wpAny G.M A (eval value env) (fun o s₁ => wpAny G.M A (eval slice env) (fun i s₂ => s₂.TypeIs o T ∧ wpAny G.M A (getItem o i) Q E s₂) E s₁) E s)
    (ht : ∀ o r, letTemporaryGo value o r = pure ()) (hs : ∀ o i, subscripted slice false o i = operate [o, i] (getItem o i)) :
    wpAny G.M A (eval (.Subscript value slice pos) env) Q E s := by
  rw [eval_Subscript]
  refine wpAny_bind (wpAny_mono h (fun o s₁ h₁ => wpAny_bind (wpAny_holding (wpAny_mono h₁ (fun i s₂ h₂ => wpAny_bind (wpAny_standAt ?_)) fun _ _ x => x))) fun _ _ x => x)
  refine wpAny_bind ?_
  rw [getitemInPython_of_ne h₂.1.not_modules]
  refine wpAny_bind (wpAny_specialOf h₂.1 hl ?_)
  have fin : wpAny G.M A (subscripted slice false o i) (fun r s₃ => wpAny G.M A (letTemporaryGo value o r >>= fun _ => pure r) Q E s₃) E s₂ := by
    rw [hs]
    exact wpAny_operating (wpAny_mono h₂.2 (fun r s₃ h₃ => wpAny_bind (wpAny_of_eq (ht o r) (wpAny_pure h₃))) fun _ _ x => x)
  first
    | exact wpAny_pure (wpAny_bind fin)
    | exact wpAny_bind (wpAny_pure (wpAny_bind fin))
    | exact wpAny_bind fin

theorem PE.item {value slice : Expr} {pos : Pos} {ds : List PyData} {k : Int} {d : PyData} (hv : PE G A env Γ value (.list ds)) (hi : PE G A env Γ slice (.int k)) (h0 : 0 ≤ k) (hfit : k < 2 ^ 63) (hd : ds[k.toNat]? = some d)
    (ht : ∀ o r, letTemporaryGo value o r = pure () := by intro _ _; rfl) (hs : ∀ o i, subscripted slice false o i = operate [o, i] (getItem o i) := by intro _ _; rfl) : PE G A env Γ (.Subscript value slice pos) d := by
  refine ⟨?_⟩
  intro X s R E
  refine subscript_any (T := "list") list_getitem_lookup (hv.run R fun va s₁ k₁ R₁ r₁ => hi.run R₁ fun vb s₂ k₂ R₂ r₂ => ?_) ht hs
  cases r₁ with
  | list hx hl r =>
    cases r₂ with
    | int _ t =>
      have hl₂ := (show s₂.heap.IsList _ _ from let ⟨o, ho, q⟩ := hl; ⟨o, k₂.keep _ _ ho, q⟩)
      obtain ⟨v, e, rv⟩ := (r.keep k₂.keep).get _ _ hd
      exact ⟨hl₂.typeIs, wpAny_getItem_list hl₂ h0 hfit (by simpa using e) ⟨k₁.trans k₂, rv⟩⟩

theorem tuple_getitem_lookup : typeLookup (.type "tuple") "__getitem__" = pure (some (.builtin "tuple.__getitem__")) := PyProof.Rows.slot_tuple_getitem.lookup

theorem PE.itemT {value slice : Expr} {pos : Pos} {ds : List PyData} {k : Int} {d : PyData} (hv : PE G A env Γ value (.tuple ds)) (hi : PE G A env Γ slice (.int k)) (h0 : 0 ≤ k) (hfit : k < 2 ^ 63) (hd : ds[k.toNat]? = some d)
    (ht : ∀ o r, letTemporaryGo value o r = pure () := by intro _ _; rfl) (hs : ∀ o i, subscripted slice false o i = operate [o, i] (getItem o i) := by intro _ _; rfl) : PE G A env Γ (.Subscript value slice pos) d := by
  refine ⟨?_⟩
  intro X s R E
  refine subscript_any (T := "tuple") tuple_getitem_lookup (hv.run R fun va s₁ k₁ R₁ r₁ => hi.run R₁ fun vb s₂ k₂ R₂ r₂ => ?_) ht hs
  cases r₁ with
  | tuple hx hl r =>
    cases r₂ with
    | int _ t =>
      have hl₂ := (show PyProof.Rows.IsTup s₂.heap _ _ from let ⟨o, ho, q⟩ := hl; ⟨o, k₂.keep _ _ ho, q⟩)
      obtain ⟨v, e, rv⟩ := (r.keep k₂.keep).get _ _ hd
      have hlt : k.toNat < ds.length := by rw [List.getElem?_eq_some_iff] at hd; exact hd.1
      have hlen := r.length
      refine ⟨hl₂.typeIs, PyProof.Rows.getItem_tuple (j := k.toNat) hl₂ (by omega) hfit ?_ (by simpa using e) ⟨k₁.trans k₂, rv⟩⟩
      unfold seqIndex?
      rw [List.size_toArray]
      simp only [Int.not_lt.mpr h0, if_false]
      rw [if_pos (by simp only [Bool.and_eq_true, decide_eq_true_eq]; omega)]

structure PO (G : Glo) (A : Around) (env : Env) (Γ : AEnv) (e : Option Expr) (i : Option Int) : Prop where
  val : ∀ (E : Value → Shared → Prop) (X : Addr → Prop) (s : Shared), Rd G X env Γ s.heap → wpAny G.M A (evalPart e env) (fun v s' => Kp s s' ∧ IsPart v i) E s
theorem PO.none : PO G A env Γ none none := ⟨fun _ _ _ _ => wpAny_pure ⟨Kp.refl _, .none⟩⟩
theorem PO.some {e : Expr} {i : Int} (h : PE G A env Γ e (.int i)) : PO G A env Γ (some e) (some i) := ⟨fun E X s R => by
  rw [evalPart_some]
  exact h.run R fun v s₁ k₁ R₁ r₁ => by cases r₁; exact ⟨k₁, .int _ _⟩⟩

theorem get?_size1 (h : Heap) : h.get? (h.objs.size + 1) = none := Heap.get?_none_of_le (Nat.le_succ _)
theorem get?_push2 (h : Heap) (o1 o2 : Obj) (hf : o2.isFreed = false) : ((h.push o1).push o2).get? (h.objs.size + 1) = some o2 := by
  have e : (h.push o1).objs.size = h.objs.size + 1 := Heap.size_push ..
  rw [← e]; exact Heap.get?_push_size _ hf

noncomputable def cutD (ds : List PyData) (lo hi : Option Int) : List PyData :=
  (ds.drop (lo.elim 0 (clipAt ds.length))).take (hi.elim ds.length (clipAt ds.length) - lo.elim 0 (clipAt ds.length))

theorem PE.cut {value : Expr} {lower upper : Option Expr} {p pos : Pos} {ds : List PyData} {lo hi : Option Int} (hv : PE G A env Γ value (.list ds)) (hl : PO G A env Γ lower lo) (hu : PO G A env Γ upper hi) (hsz : ds.length ≤ sizeLine)
    (ht : ∀ o r, letTemporaryGo value o r = pure () := by intro _ _; rfl) : PE G A env Γ (.Subscript value (.Slice lower upper none p) pos) (.list (cutD ds lo hi)) := by
  refine ⟨?_⟩
  intro X s R E
  refine wpAny_Subscript_list_slice (hv.run R fun va s₁ k₁ R₁ r₁ => wpAny_mono (hl.val E X s₁ R₁) (fun vl s₂ h₂ => wpAny_mono (hu.val E X s₂ (R₁.keep h₂.1.keep)) (fun vu s₃ h₃ => ?_) fun _ _ e => e) fun _ _ e => e) ht
  cases r₁ with
  | list hx hl r =>
    have k := h₂.1.trans h₃.1
    have hl₂ := (show s₃.heap.IsList _ _ from let ⟨o, ho, q⟩ := hl; ⟨o, k.keep _ _ ho, q⟩)
    have hlen := r.length
    refine ⟨_, _, lo, hi, rfl, hl₂, (by rw [List.size_toArray, hlen]; exact hsz), h₂.2, h₃.2, ?_⟩
    rw [slicePick_plain, List.size_toArray, hlen]
    have a₃ := R.alive.keep (k₁.trans k).keep
    generalize ho1 : ({ cls := .type "slice", data := .fields #[vl, vu, .none] } : Obj) = o1
    have kk : ∀ o2, Keep s₃.heap ((s₃.heap.push o1).push o2) := fun o2 => (Keep.push _ _).trans (Keep.push _ _)
    have hnew := a₃.fresh (get?_size1 s₃.heap)
    refine ⟨(k₁.trans k).trans (Kp.heap (kk _)), .list hnew ⟨_, get?_push2 _ _ _ rfl, rfl, _, rfl⟩ ?_⟩
    exact (((r.keep k.keep).drop _).take _).keep (kk _)

/-! ## Lists compared; the least and the greatest of ints -/
theorem range_all_beq (xs ys : List Str) (e : xs.length = ys.length) : ((List.range xs.length).all fun j => xs.getD j Str.empty == ys.getD j Str.empty) = decide (xs = ys) := by
  rw [Bool.eq_iff_iff, List.all_eq_true]
  simp only [List.mem_range, decide_eq_true_eq, beq_iff_eq]
  constructor
  · intro h
    refine List.ext_getElem e fun i h1 h2 => ?_
    have := h i h1
    simpa [List.getD, h1, h2] using this
  · rintro rfl _ _; rfl

theorem strs_at {l : List (Str × Tok)} {j : Nat} (h : j < (strValues l).toArray.size) : ∃ t, (strValues l).toArray[j] = .str ((l.map (·.1)).getD j Str.empty) t := by
  have h' : j < l.length := by simpa [strValues] using h
  refine ⟨l[j].2, ?_⟩
  simp [strValues, h', List.getD]

theorem wpAny_of_eq' {t t' : Sem Value} {Q : Value → Shared → Prop} (e : t' = t) (h : wpAny G.M A t Q E s) : wpAny G.M A t' Q E s := e ▸ h
theorem CmpOk.eqL {xs ys : List Str} : CmpOk n .Eq (.list (xs.map .str)) (.list (ys.map .str)) (decide (xs = ys)) := by
  refine ⟨?_⟩
  intro G A X s va vb hA hra hrb E
  obtain ⟨la, vs, rfl, hx, hl, r1⟩ := hra.list_inv
  obtain ⟨lb, ws, rfl, hy, hb, r2⟩ := hrb.list_inv
  have hu : A.units < cLine := by have := hA.2.2; unfold cLine; omega
  obtain ⟨l, rfl, h1⟩ := reps_strs r1
  obtain ⟨k, rfl, h2⟩ := reps_strs r2
  subst h1 h2
  refine wpAny_of_eq' (t := richCompare .Eq _ _) rfl ?_
  by_cases e : l.length = k.length
  · have key := SeqAt.RcAt.lists (A := A) (e := fun j => (l.map (·.1)).getD j Str.empty == (k.map (·.1)).getD j Str.empty) hl hb (by simpa [strValues] using e) hu (fun j h1 h2 => by
      obtain ⟨t, e1⟩ := strs_at h1
      obtain ⟨u, e2⟩ := strs_at h2
      rw [e1, e2]
      exact SeqAt.EqAt.str_str _ _ _ _)
    refine key G.prog G.w E _ ⟨Kp.refl _, ?_⟩
    have es : (strValues l).toArray.size = (l.map (·.1)).length := by simp [strValues]
    rw [es, range_all_beq _ _ (by simpa using e)]
    exact .bool _
  · have key := SeqAt.RcAt.lists_lengths (A := A) hl hb (by simpa [strValues] using e) hu
    refine key G.prog G.w E _ ⟨Kp.refl _, ?_⟩
    rw [show decide ((l.map (·.1)) = (k.map (·.1))) = false from decide_eq_false fun h => e (by simpa using congrArg List.length h)]
    exact .bool _
theorem CmpOk.neL {xs ys : List Str} : CmpOk n .NotEq (.list (xs.map .str)) (.list (ys.map .str)) (!decide (xs = ys)) := by
  refine ⟨?_⟩
  intro G A X s va vb hA hra hrb E
  obtain ⟨la, vs, rfl, hx, hl, r1⟩ := hra.list_inv
  obtain ⟨lb, ws, rfl, hy, hb, r2⟩ := hrb.list_inv
  have hu : A.units < cLine := by have := hA.2.2; unfold cLine; omega
  obtain ⟨l, rfl, h1⟩ := reps_strs r1
  obtain ⟨k, rfl, h2⟩ := reps_strs r2
  subst h1 h2
  refine wpAny_of_eq' (t := richCompare .NotEq _ _) rfl ?_
  by_cases e : l.length = k.length
  · have key := SeqAt.RcNeAt.lists (A := A) (e := fun j => (l.map (·.1)).getD j Str.empty == (k.map (·.1)).getD j Str.empty) hl hb (by simpa [strValues] using e) hu (fun j h1 h2 => by
      obtain ⟨t, e1⟩ := strs_at h1
      obtain ⟨u, e2⟩ := strs_at h2
      rw [e1, e2]
      exact SeqAt.EqAt.str_str _ _ _ _)
    refine key G.prog G.w E _ ⟨Kp.refl _, ?_⟩
    have es : (strValues l).toArray.size = (l.map (·.1)).length := by simp [strValues]
    rw [es, range_all_beq _ _ (by simpa using e)]
    exact .bool _
  · have key := SeqAt.RcNeAt.lists_lengths (A := A) hl hb (by simpa [strValues] using e) hu
    refine key G.prog G.w E _ ⟨Kp.refl _, ?_⟩
    rw [show decide ((l.map (·.1)) = (k.map (·.1))) = false from decide_eq_false fun h => e (by simpa using congrArg List.length h)]
    exact .bool _

/-- a list (of anything) held against [] -/
theorem CmpOk.neNil {ds : List PyData} : CmpOk n .NotEq (.list ds) (.list []) (!ds.isEmpty) := by
  refine ⟨?_⟩
  intro G A X s va vb hA hra hrb E
  obtain ⟨la, vs, rfl, hx, hl, r1⟩ := hra.list_inv
  obtain ⟨lb, ws, rfl, hy, hb, r2⟩ := hrb.list_inv
  have hu : A.units < cLine := by have := hA.2.2; unfold cLine; omega
  cases r2.nil_inv
  refine wpAny_of_eq' (t := richCompare .NotEq _ _) rfl ?_
  cases r1 with
  | nil =>
    have key := SeqAt.RcNeAt.lists (A := A) (e := fun _ => true) hl hb rfl hu (fun j h1 h2 => by simp at h1)
    exact key G.prog G.w E _ ⟨Kp.refl _, .bool _⟩
  | cons a r =>
    have key := SeqAt.RcNeAt.lists_lengths (A := A) hl hb (by simp) hu
    exact key G.prog G.w E _ ⟨Kp.refl _, .bool _⟩
theorem CmpOk.eqNil {ds : List PyData} : CmpOk n .Eq (.list ds) (.list []) ds.isEmpty := by
  refine ⟨?_⟩
  intro G A X s va vb hA hra hrb E
  obtain ⟨la, vs, rfl, hx, hl, r1⟩ := hra.list_inv
  obtain ⟨lb, ws, rfl, hy, hb, r2⟩ := hrb.list_inv
  have hu : A.units < cLine := by have := hA.2.2; unfold cLine; omega
  cases r2.nil_inv
  refine wpAny_of_eq' (t := richCompare .Eq _ _) rfl ?_
  cases r1 with
  | nil =>
    have key := SeqAt.RcAt.lists (A := A) (e := fun _ => true) hl hb rfl hu (fun j h1 h2 => by simp at h1)
    exact key G.prog G.w E _ ⟨Kp.refl _, .bool _⟩
  | cons a r =>
    have key := SeqAt.RcAt.lists_lengths (A := A) hl hb (by simp) hu
    exact key G.prog G.w E _ ⟨Kp.refl _, .bool _⟩

theorem reps_ints {h : Heap} {X : Addr → Prop} : ∀ {vs : List Value} {ns : List Int}, Reps h X vs (ns.map .int) → PyProof.Rows.IntsAre vs ns
  | _, [], .nil => by first | exact .nil | constructor
  | _, n :: ns, .cons a r => by
    cases a with
    | int _ t => exact .cons _ _ (reps_ints r)

open PyProof.Rows in
theorem CallB.min {ns : List Int} {m : Int} (hm : m ∈ ns) (hle : ∀ a ∈ ns, m ≤ a) : CallB n "min" [.list (ns.map .int)] (.int m) := by
  refine CallB.l1 fun G A X s la vs hA hl r1 E => ?_
  have hi := reps_ints r1
  obtain ⟨xs, e⟩ := hi.allInts.items
  have hns : ns = xs.toList.map (·.1) := by rw [← hi.numsOf, ← nums_intItems, ← e]
  have hpos : 0 < ns.length := List.length_pos_of_mem hm
  have hsz : 0 < xs.size := by rw [hns, List.length_map, Array.length_toList] at hpos; exact hpos
  rw [e] at hl
  refine min_intList hA.1 hl hsz fun v h' tk hv hk => ⟨Kp.mk' hk, ?_⟩
  obtain ⟨t, rfl⟩ := intItems_at hv
  obtain ⟨h1, h2⟩ := argBest_lt (numAt xs) (xs.size - 1)
  have hb : numAt xs (argBest (fun i j => decide (numAt xs i < numAt xs j)) (xs.size - 1)) ∈ ns := by
    rw [hns, numAt_eq]; exact getD_mem (by rw [List.length_map, Array.length_toList]; omega)
  have ha : numAt xs (argBest (fun i j => decide (numAt xs i < numAt xs j)) (xs.size - 1)) ≤ m := by
    rw [hns] at hm
    obtain ⟨j, hj, rfl⟩ := mem_getD hm
    rw [List.length_map, Array.length_toList] at hj
    rw [← numAt_eq]; exact h2 j (by omega)
  rw [Int.le_antisymm ha (hle _ hb)]
  exact .int _ _
open PyProof.Rows in
theorem CallB.max {ns : List Int} {m : Int} (hm : m ∈ ns) (hle : ∀ a ∈ ns, a ≤ m) : CallB n "max" [.list (ns.map .int)] (.int m) := by
  refine CallB.l1 fun G A X s la vs hA hl r1 E => ?_
  have hi := reps_ints r1
  obtain ⟨xs, e⟩ := hi.allInts.items
  have hns : ns = xs.toList.map (·.1) := by rw [← hi.numsOf, ← nums_intItems, ← e]
  have hpos : 0 < ns.length := List.length_pos_of_mem hm
  have hsz : 0 < xs.size := by rw [hns, List.length_map, Array.length_toList] at hpos; exact hpos
  rw [e] at hl
  refine max_intList hA.1 hl hsz fun v h' tk hv hk => ⟨Kp.mk' hk, ?_⟩
  obtain ⟨t, rfl⟩ := intItems_at hv
  obtain ⟨h1, h2⟩ := argBest_gt (numAt xs) (xs.size - 1)
  have hb : numAt xs (argBest (fun i j => decide (numAt xs i > numAt xs j)) (xs.size - 1)) ∈ ns := by
    rw [hns, numAt_eq]; exact getD_mem (by rw [List.length_map, Array.length_toList]; omega)
  have ha : m ≤ numAt xs (argBest (fun i j => decide (numAt xs i > numAt xs j)) (xs.size - 1)) := by
    rw [hns] at hm
    obtain ⟨j, hj, rfl⟩ := mem_getD hm
    rw [List.length_map, Array.length_toList] at hj
    rw [← numAt_eq]; exact h2 j (by omega)
  rw [Int.le_antisymm (hle _ hb) ha]
  exact .int _ _
end
end Mine

/-! text VF -/
namespace Mine
open PySem

/-! ## Frames and statements -/
noncomputable def NDC (o : Obj) : Prop := (∀ es n, o.data ≠ .dict es n) ∧ (∀ v, o.data ≠ .cell v)
noncomputable def KB (X : Addr → Prop) (h h' : Heap) : Prop := ∀ b o, h.get? b = some o → NDC o → ¬ X b → h'.get? b = some o
noncomputable def Live (h h' : Heap) : Prop := ∀ b, (∃ o, h.get? b = some o) → ∃ o, h'.get? b = some o
noncomputable def XO (X₀ : Addr → Prop) (ol : List (Str × Addr)) (a : Addr) : Prop := X₀ a ∨ ∃ x, (x, a) ∈ ol

theorem ndc_seq {o : Obj} {vs : Array Value} {n : Nat} (h : o.data = .seq vs n) : NDC o := ⟨fun _ _ e => (by rw [h] at e; cases e), fun _ e => (by rw [h] at e; cases e)⟩
theorem ndc_fields {o : Obj} {vs : Array Value} (h : o.data = .fields vs) : NDC o := ⟨fun _ _ e => (by rw [h] at e; cases e), fun _ e => (by rw [h] at e; cases e)⟩

structure Eff (X : Addr → Prop) (s s' : Shared) : Prop where
  rest : ∃ h tk, s' = { s with heap := h, toks := tk }
  live : Live s.heap s'.heap
  kb : KB X s.heap s'.heap
theorem Eff.refl (X : Addr → Prop) (s : Shared) : Eff X s s := ⟨⟨s.heap, s.toks, rfl⟩, fun _ e => e, fun _ _ e _ _ => e⟩
theorem Eff.of_kp {X : Addr → Prop} {s s' : Shared} (k : Kp s s') : Eff X s s' := by
  obtain ⟨h, tk, rfl, e⟩ := k
  exact ⟨⟨h, tk, rfl⟩, fun b ⟨o, ho⟩ => ⟨o, e b o ho⟩, fun b o ho _ _ => e b o ho⟩
theorem Eff.trans {X X' : Addr → Prop} {s s' s'' : Shared} (a : Eff X s s') (b : Eff X' s' s'') (hx : ∀ c, X' c → X c ∨ s.heap.get? c = none) : Eff X s s'' := by
  refine ⟨?_, fun c h => b.live c (a.live c h), fun c o ho hn hX => b.kb c o (a.kb c o ho hn hX) hn fun h => ?_⟩
  · obtain ⟨h, tk, rfl⟩ := a.rest
    obtain ⟨h', tk', rfl⟩ := b.rest
    exact ⟨h', tk', rfl⟩
  · rcases hx c h with h | h
    · exact hX h
    · rw [ho] at h; cases h
theorem Eff.safe {X : Addr → Prop} {s s' : Shared} (a : Eff X s s') : Safe s.heap X s'.heap X := fun b o hx ho ⟨_, _, hd⟩ => ⟨a.kb b o ho (ndc_seq hd) hx, hx⟩

structure FrameOk (G : Glo) (s₀ : Shared) (X₀ : Addr → Prop) (env : Env) (Γ : AEnv) (ol : List (Str × Addr)) (m cm : Str → Option Value) (s : Shared) : Prop where
  fe : FnEnv env
  inn : InCallC s₀ env.locals m env.cells cm s
  base : Keep G.h₀ s₀.heap
  alive : Alive X₀ s₀.heap
  off : ∀ a, X₀ a → G.h₀.get? a = none
  new : ∀ p ∈ ol, s₀.heap.objs.size ≤ p.2 ∧ ∃ vs, s.heap.PlainList p.2 vs
  apart : ol.Pairwise fun x y => x.2 ≠ y.2
  sh : ∀ x d, (x, Slot.sh d) ∈ Γ → ∃ v, ((env.kindOf x = some .local ∧ m x = some v) ∨ (env.kindOf x = some .cell ∧ (∃ c, env.cells.lookup x = some c) ∧ cm x = some v)) ∧ Rep s.heap (XO X₀ ol) v d
  ow : ∀ x ds, (x, Slot.ow ds) ∈ Γ → env.kindOf x = some .local ∧ ∃ l vs, (x, l) ∈ ol ∧ m x = some (.ref l) ∧ s.heap.PlainList l vs.toArray ∧ Reps s.heap (XO X₀ ol) vs ds

noncomputable def thaw1 : Str × Slot → Str × Slot
  | (x, .sh d) => (x, .sh d)
  | (x, .ow ds) => (x, .sh (.list ds))
noncomputable def thaw (Γ : AEnv) : AEnv := Γ.map thaw1

theorem inCallC_keep {s₀ s s' : Shared} {L : Addr} {m cm : Str → Option Value} {cs : List (Str × Addr)} (x : InCallC s₀ L m cs cm s) (k : Kp s s') : InCallC s₀ L m cs cm s' := by
  obtain ⟨h, tk, rfl, e⟩ := k
  refine ⟨⟨?_, x.toInCall.ns.keeps e, fun b o q => e b o (x.toInCall.keep b o q), x.toInCall.fresh⟩, fun n c hc => (x.cell n c hc).keeps e, x.apart, x.above⟩
  obtain ⟨h', tk', rfl⟩ := x.toInCall.same
  exact ⟨h, tk, rfl⟩

section
variable {G : Glo} {s₀ : Shared} {X₀ : Addr → Prop} {env : Env} {Γ Γ' : AEnv} {ol : List (Str × Addr)} {m cm : Str → Option Value} {s s' : Shared}

theorem FrameOk.keep (F : FrameOk G s₀ X₀ env Γ ol m cm s) (k : Kp s s') : FrameOk G s₀ X₀ env Γ ol m cm s' where
  fe := F.fe
  inn := inCallC_keep F.inn k
  base := F.base
  alive := F.alive
  off := F.off
  new := fun p hp => let ⟨a, vs, b⟩ := F.new p hp; ⟨a, vs, b.at fun o e => k.keep _ o e⟩
  apart := F.apart
  sh := fun x d hx => let ⟨v, a, b⟩ := F.sh x d hx; ⟨v, a, b.keep k.keep⟩
  ow := fun x ds hx => let ⟨a, l, vs, b, c, d, e⟩ := F.ow x ds hx; ⟨a, l, vs, b, c, d.at fun o e => k.keep _ o e, e.keep k.keep⟩

theorem FrameOk.sub (F : FrameOk G s₀ X₀ env Γ ol m cm s) (h : ∀ p ∈ Γ', p ∈ Γ) : FrameOk G s₀ X₀ env Γ' ol m cm s :=
  { F with sh := fun x d hx => F.sh x d (h _ hx), ow := fun x ds hx => F.ow x ds (h _ hx) }

theorem FrameOk.loads (F : FrameOk G s₀ X₀ env Γ ol m cm s) {x : Str} {v : Value} (h : (env.kindOf x = some .local ∧ m x = some v) ∨ (env.kindOf x = some .cell ∧ (∃ c, env.cells.lookup x = some c) ∧ cm x = some v)) : Loads env s.heap x v := by
  rcases h with ⟨a, b⟩ | ⟨a, ⟨c, hc⟩, b⟩
  · exact .inl ⟨a, m, F.inn.toInCall.ns, b⟩
  · exact .inr ⟨a, c, hc, b ▸ F.inn.cell x c hc⟩

theorem FrameOk.x₀ (F : FrameOk G s₀ X₀ env Γ ol m cm s) {a : Addr} (h : X₀ a) : a < s₀.heap.objs.size := by obtain ⟨o, ho⟩ := F.alive a h; exact Heap.lt_size ho
theorem FrameOk.keep₀ (F : FrameOk G s₀ X₀ env Γ ol m cm s) : Keep s₀.heap s.heap := F.inn.toInCall.keep
theorem FrameOk.aliveX (F : FrameOk G s₀ X₀ env Γ ol m cm s) : Alive (XO X₀ ol) s.heap := by
  rintro a (h | ⟨x, h⟩)
  · exact (F.alive.keep F.keep₀) a h
  · obtain ⟨_, vs, n, e⟩ := F.new _ h; exact ⟨_, e⟩
theorem FrameOk.offX (F : FrameOk G s₀ X₀ env Γ ol m cm s) : ∀ a, XO X₀ ol a → G.h₀.get? a = none := by
  rintro a (h | ⟨x, h⟩)
  · exact F.off a h
  · have h1 := (F.new _ h).1
    cases e : G.h₀.get? a with
    | none => rfl
    | some o => exact absurd (Heap.lt_size (F.base a o e)) (Nat.not_lt.mpr h1)
theorem FrameOk.rd (F : FrameOk G s₀ X₀ env Γ ol m cm s) : Rd G (XO X₀ ol) env Γ s.heap where
  fe := F.fe
  base := F.base.trans F.keep₀
  alive := F.aliveX
  off := F.offX
  var := fun x d hx => let ⟨v, a, b⟩ := F.sh x d hx; ⟨v, F.loads a, b⟩
theorem FrameOk.notX₀ (F : FrameOk G s₀ X₀ env Γ ol m cm s) {x : Str} {l : Addr} (h : (x, l) ∈ ol) : ¬ X₀ l := fun e => absurd (F.x₀ e) (Nat.not_lt.mpr (F.new _ h).1)
theorem FrameOk.rdT (F : FrameOk G s₀ X₀ env Γ ol m cm s) : Rd G X₀ env (thaw Γ) s.heap where
  fe := F.fe
  base := F.base.trans F.keep₀
  alive := F.alive.keep F.keep₀
  off := F.off
  var := fun x d hx => by
    obtain ⟨⟨y, sl⟩, hy, e⟩ := List.mem_map.mp hx
    cases sl with
    | sh d' =>
      cases e
      obtain ⟨v, a, b⟩ := F.sh _ _ hy
      exact ⟨v, F.loads a, b.weaken fun _ h => .inl h⟩
    | ow ds =>
      cases e
      obtain ⟨k, l, vs, h1, h2, h3, h4⟩ := F.ow _ _ hy
      exact ⟨.ref l, F.loads (.inl ⟨k, h2⟩), .list (F.notX₀ h1) h3.isList (h4.weaken fun _ h => .inl h)⟩

noncomputable def Kind (env : Env) (x : Str) : Prop := env.kindOf x = some .local ∨ (env.kindOf x = some .cell ∧ ∃ c, env.cells.lookup x = some c)

theorem ns_ndc {h : Heap} {a : Addr} {m : Str → Option Value} (hn : h.Ns a m) {o : Obj} (ho : h.get? a = some o) : ¬ NDC o := by
  obtain ⟨o', es, ep, e, d, _⟩ := hn
  rw [ho] at e; cases e
  exact fun q => q.1 es ep d
theorem cell_ndc {h : Heap} {c : Addr} {v : Option Value} (hc : h.IsCell c v) {o : Obj} (ho : h.get? c = some o) : ¬ NDC o := by
  obtain ⟨o', e, d⟩ := hc
  rw [ho] at e; cases e
  exact fun q => q.2 v d

theorem eff_of_sameBut {X : Addr → Prop} {h' : Heap} {tk : Nat} {a : Addr} (hs : Heap.SameBut a s.heap h') (hl : ∃ o, h'.get? a = some o) (hn : ∀ o, s.heap.get? a = some o → NDC o → X a) : Eff X s { s with heap := h', toks := tk } := by
  refine ⟨⟨h', tk, rfl⟩, fun b ⟨o, ho⟩ => ?_, fun b o ho hd hX => ?_⟩
  · by_cases e : b = a
    · subst e; exact hl
    · exact ⟨o, (hs.2 b e).trans ho⟩
  · by_cases e : b = a
    · subst e; exact absurd (hn o ho hd) hX
    · exact (hs.2 b e).trans ho

noncomputable def OnlyFrame (env : Env) (h h' : Heap) : Prop := ∀ b, b ≠ env.locals → (∀ k c, env.cells.lookup k = some c → b ≠ c) → h'.get? b = h.get? b

theorem FrameOk.storeS {M : Model} {A : Around} {E : Value → Shared → Prop} {x : Str} {v : Value} {d : PyData} {Q : Unit → Shared → Prop} (F : FrameOk G s₀ X₀ env Γ ol m cm s) (hr : Rep s.heap (XO X₀ ol) v d) (hk : Kind env x) (hΓ : ∀ p ∈ Γ', p ∈ Γ ∧ p.1 ≠ x)
    (h : ∀ s' m' cm', Eff (XO X₀ ol) s s' → OnlyFrame env s.heap s'.heap → FrameOk G s₀ X₀ env ((x, .sh d) :: Γ') ol m' cm' s' → Q () s') : wpAny M A (storeName env x v) Q E s := by
  rcases hk with hl | ⟨hl, c, hc⟩
  · refine wpAny_storeName_local hl F.inn.toInCall.ns (fun h' hn hs => ?_) (by rw [F.fe.1]; rfl)
    have hE : Eff (XO X₀ ol) s { s with heap := h', toks := s.toks + 1 } := eff_of_sameBut hs (let ⟨o, _, _, e, _⟩ := hn; ⟨o, e⟩) fun o ho hd => absurd hd (ns_ndc F.inn.toInCall.ns ho)
    have hsafe := hE.safe
    refine h _ _ cm hE (fun b h1 _ => hs.2 b h1) ⟨F.fe, ⟨⟨?_, hn, fun b o e => ?_, F.inn.toInCall.fresh⟩, fun k c hc => ?_, F.inn.apart, F.inn.above⟩, F.base, F.alive, F.off, fun p hp => ?_, F.apart, fun y dy hy => ?_, fun y ds hy => ?_⟩
    · obtain ⟨h₁, tk, e⟩ := F.inn.toInCall.same
      rw [e]; exact ⟨h', _, rfl⟩
    · exact hs.extBut b o (Nat.ne_of_lt (Nat.lt_of_lt_of_le (Heap.lt_size e) F.inn.toInCall.fresh)) (F.inn.toInCall.keep b o e)
    · exact (F.inn.cell k c hc).sameBut hs (Nat.ne_of_gt (F.inn.above k c (mem_of_lookup hc)))
    · obtain ⟨a, vs, n, e⟩ := F.new p hp
      refine ⟨a, vs, n, (hs.2 _ ?_).trans e⟩
      intro q; rw [q] at e; exact ns_ndc F.inn.toInCall.ns e (ndc_seq rfl)
    · rcases List.mem_cons.mp hy with e | hy
      · cases e
        exact ⟨v, .inl ⟨hl, by simp⟩, hr.safe hsafe⟩
      · obtain ⟨h1, h2⟩ := hΓ _ hy
        obtain ⟨w, a, b⟩ := F.sh y dy h1
        refine ⟨w, a.imp (fun q => ⟨q.1, by rw [if_neg h2]; exact q.2⟩) id, b.safe hsafe⟩
    · rcases List.mem_cons.mp hy with e | hy
      · cases e
      · obtain ⟨h1, h2⟩ := hΓ _ hy
        obtain ⟨a, l, vs, b, c, ⟨n, dd⟩, e⟩ := F.ow y ds h1
        refine ⟨a, l, vs, b, by rw [if_neg h2]; exact c, ⟨n, (hs.2 _ ?_).trans dd⟩, e.safe hsafe⟩
        intro q; rw [q] at dd; exact ns_ndc F.inn.toInCall.ns dd (ndc_seq rfl)
  · have hLc := F.inn.above x c (mem_of_lookup hc)
    refine wpAny_storeName_cell F.fe.1 hl hc (F.inn.cell x c hc) fun h' hc' hs => ?_
    have hE : Eff (XO X₀ ol) s { s with heap := h', toks := s.toks } := eff_of_sameBut hs (let ⟨o, e, _⟩ := hc'; ⟨o, e⟩) fun o ho hd => absurd hd (cell_ndc (F.inn.cell x c hc) ho)
    have hsafe := hE.safe
    refine h _ m (fun y => if y = x then some v else cm y) hE (fun b _ h2 => hs.2 b (h2 x c hc)) ⟨F.fe, ⟨⟨?_, F.inn.toInCall.ns.sameBut hs (Nat.ne_of_lt hLc), fun b o e => ?_, F.inn.toInCall.fresh⟩, fun k c' hk' => ?_, F.inn.apart, F.inn.above⟩, F.base, F.alive, F.off, fun p hp => ?_, F.apart, fun y dy hy => ?_, fun y ds hy => ?_⟩
    · obtain ⟨h₁, tk, e⟩ := F.inn.toInCall.same
      rw [e]; exact ⟨h', _, rfl⟩
    · exact hs.extBut b o (Nat.ne_of_lt (Nat.lt_trans (Nat.lt_of_lt_of_le (Heap.lt_size e) F.inn.toInCall.fresh) hLc)) (F.inn.toInCall.keep b o e)
    · by_cases hkn : k = x
      · subst hkn
        rw [hc] at hk'; cases hk'
        simpa using hc'
      · rw [if_neg hkn]
        exact (F.inn.cell k c' hk').sameBut hs fun e => hkn (name_of_addr F.inn.apart (mem_of_lookup hk') (e ▸ mem_of_lookup hc))
    · obtain ⟨a, vs, n, e⟩ := F.new p hp
      refine ⟨a, vs, n, (hs.2 _ ?_).trans e⟩
      intro q; rw [q] at e; exact cell_ndc (F.inn.cell x c hc) e (ndc_seq rfl)
    · rcases List.mem_cons.mp hy with e | hy
      · cases e
        exact ⟨v, .inr ⟨hl, ⟨c, hc⟩, by simp⟩, hr.safe hsafe⟩
      · obtain ⟨h1, h2⟩ := hΓ _ hy
        obtain ⟨w, a, b⟩ := F.sh y dy h1
        refine ⟨w, a.imp id (fun q => ⟨q.1, q.2.1, by rw [if_neg h2]; exact q.2.2⟩), b.safe hsafe⟩
    · rcases List.mem_cons.mp hy with e | hy
      · cases e
      · obtain ⟨h1, h2⟩ := hΓ _ hy
        obtain ⟨a, l, vs, b, c', ⟨n, dd⟩, e⟩ := F.ow y ds h1
        refine ⟨a, l, vs, b, c', ⟨n, (hs.2 _ ?_).trans dd⟩, e.safe hsafe⟩
        intro q; rw [q] at dd; exact cell_ndc (F.inn.cell x c hc) dd (ndc_seq rfl)

theorem FrameOk.store {M : Model} {A : Around} {E : Value → Shared → Prop} {x : Str} {v : Value} {d : PyData} {Q : Unit → Shared → Prop} (F : FrameOk G s₀ X₀ env Γ ol m cm s) (hr : Rep s.heap (XO X₀ ol) v d) (hk : Kind env x) (hΓ : ∀ p ∈ Γ', p ∈ Γ ∧ p.1 ≠ x)
    (h : ∀ s' m' cm', Eff (XO X₀ ol) s s' → FrameOk G s₀ X₀ env ((x, .sh d) :: Γ') ol m' cm' s' → Q () s') : wpAny M A (storeName env x v) Q E s :=
  F.storeS hr hk hΓ fun s' m' cm' e _ F' => h s' m' cm' e F'

end
end Mine

/-! text VG -/
namespace Mine
open PySem

inductive AFlow where
  | next (Γ : AEnv)
  | ret (d : PyData)

noncomputable def Out (G : Glo) (s₀ : Shared) (X₀ : Addr → Prop) (env : Env) (Post : AFlow → Prop) (ol : List (Str × Addr)) (s : Shared) (fl : Flow) (s' : Shared) : Prop :=
  Eff (XO X₀ ol) s s' ∧
  match fl with
  | .next => ∃ Γ' ol' m' cm', Post (.next Γ') ∧ FrameOk G s₀ X₀ env Γ' ol' m' cm' s' ∧ ∀ a, XO X₀ ol' a → XO X₀ ol a ∨ s.heap.get? a = none
  | .ret v => ∃ d, Post (.ret d) ∧ Keep s₀.heap s'.heap ∧ Rep s'.heap X₀ v d
  | _ => False

structure Ctx where
  G : Glo
  A : Around
  s₀ : Shared
  X₀ : Addr → Prop
  env : Env

structure SX (C : Ctx) (Γ : AEnv) (st : Stmt) (Post : AFlow → Prop) : Prop where
  val : ∀ E ol m cm s, FrameOk C.G C.s₀ C.X₀ C.env Γ ol m cm s → wpAny C.G.M C.A (exec st C.env) (Out C.G C.s₀ C.X₀ C.env Post ol s) E s
structure SW (C : Ctx) (Γ : AEnv) (sts : List Stmt) (Post : AFlow → Prop) : Prop where
  val : ∀ E ol m cm s, FrameOk C.G C.s₀ C.X₀ C.env Γ ol m cm s → wpAny C.G.M C.A (execs sts C.env) (Out C.G C.s₀ C.X₀ C.env Post ol s) E s

noncomputable def Seq (C : Ctx) (rest : List Stmt) (Post : AFlow → Prop) : AFlow → Prop
  | .next Γ => SW C Γ rest Post
  | .ret d => Post (.ret d)

section
variable {C : Ctx} {Γ Γ' : AEnv} {Post Post' : AFlow → Prop}

theorem Out.mono {G : Glo} {s₀ : Shared} {X₀ : Addr → Prop} {env : Env} {ol : List (Str × Addr)} {s s' : Shared} {fl : Flow} (h : Out G s₀ X₀ env Post ol s fl s') (k : ∀ f, Post f → Post' f) : Out G s₀ X₀ env Post' ol s fl s' := by
  refine ⟨h.1, ?_⟩
  have h2 := h.2
  cases fl with
  | next => obtain ⟨Γ', ol', m', cm', a, b⟩ := h2; exact ⟨Γ', ol', m', cm', k _ a, b⟩
  | ret v => obtain ⟨d, a, b⟩ := h2; exact ⟨d, k _ a, b⟩
  | brk => exact h2
  | cont => exact h2

theorem SW.mono {sts : List Stmt} (h : SW C Γ sts Post) (k : ∀ f, Post f → Post' f) : SW C Γ sts Post' := ⟨fun E ol m cm s F => wpAny_mono (h.val E ol m cm s F) (fun _ _ o => o.mono k) fun _ _ e => e⟩
theorem SW.sub {sts : List Stmt} (h : SW C Γ' sts Post) (k : ∀ p ∈ Γ', p ∈ Γ) : SW C Γ sts Post := ⟨fun E ol m cm s F => h.val E ol m cm s (F.sub k)⟩

theorem SW.nil (h : Post (.next Γ)) : SW C Γ [] Post := ⟨fun E ol m cm s F => wpAny_execs_nil ⟨Eff.refl _ _, Γ, ol, m, cm, h, F, fun _ e => .inl e⟩⟩

theorem out_comp {G : Glo} {s₀ : Shared} {X₀ : Addr → Prop} {env : Env} {ol ol' : List (Str × Addr)} {s s' s'' : Shared} {fl : Flow} (e : Eff (XO X₀ ol) s s') (hx : ∀ a, XO X₀ ol' a → XO X₀ ol a ∨ s.heap.get? a = none)
    (o : Out G s₀ X₀ env Post ol' s' fl s'') : Out G s₀ X₀ env Post ol s fl s'' := by
  refine ⟨e.trans o.1 hx, ?_⟩
  have o2 := o.2
  cases fl with
  | next =>
    obtain ⟨Γ', ol'', m', cm', a, b, c⟩ := o2
    refine ⟨Γ', ol'', m', cm', a, b, fun a ha => ?_⟩
    rcases c a ha with h | h
    · exact hx a h
    · right
      cases q : s.heap.get? a with
      | none => rfl
      | some o => obtain ⟨o', h'⟩ := e.live a ⟨o, q⟩; rw [h] at h'; cases h'
  | ret v => exact o2
  | brk => exact o2
  | cont => exact o2

theorem SW.cons {st : Stmt} {rest : List Stmt} (h : SX C Γ st (Seq C rest Post)) : SW C Γ (st :: rest) Post := by
  refine ⟨?_⟩
  intro E ol m cm s F
  refine wpAny_execs_cons (wpAny_mono (h.val E ol m cm s F) (fun fl s' o => ?_) fun _ _ e => e)
  have o2 := o.2
  cases fl with
  | next =>
    obtain ⟨Γ', ol', m', cm', a, b, c⟩ := o2
    exact wpAny_mono (SW.val (show SW _ _ _ _ from a) E ol' m' cm' s' b) (fun fl s'' o' => out_comp o.1 c o') fun _ _ e => e
  | ret v => exact ⟨o.1, o2⟩
  | brk => exact o2.elim
  | cont => exact o2.elim

/-! ## Assignments -/
noncomputable def Scal : PyData → Prop
  | .none | .bool _ | .int _ | .str _ => True
  | _ => False
theorem Rep.scal {h h' : Heap} {X X' : Addr → Prop} {v : Value} {d : PyData} (hs : Scal d) (r : Rep h X v d) : Rep h' X' v d := by
  cases r with
  | none => exact .none
  | bool b => exact .bool b
  | int i t => exact .int i t
  | str x t => exact .str x t
  | list => exact hs.elim
  | tuple => exact hs.elim

noncomputable def Del (x : Str) (Γ Γ' : AEnv) : Prop := ∀ p ∈ Γ', p ∈ Γ ∧ p.1 ≠ x
theorem Del.nil {x : Str} : Del x [] [] := fun _ h => nomatch h
theorem Del.skip {x : Str} {sl : Slot} {r r' : AEnv} (h : Del x r r') : Del x ((x, sl) :: r) r' := fun p hp => ⟨List.mem_cons_of_mem _ (h p hp).1, (h p hp).2⟩
theorem Del.keep {x y : Str} {sl : Slot} {r r' : AEnv} (hne : y ≠ x) (h : Del x r r') : Del x ((y, sl) :: r) ((y, sl) :: r') := by
  intro p hp
  rcases List.mem_cons.mp hp with rfl | hp
  · exact ⟨List.mem_cons_self, hne⟩
  · exact ⟨List.mem_cons_of_mem _ (h p hp).1, (h p hp).2⟩

theorem SX.assign {x : Str} {p pos : Pos} {e : Expr} {d : PyData} (he : PE C.G C.A C.env Γ e d) (hd : Del x Γ Γ') (h : Post (.next ((x, .sh d) :: Γ')))
    (hk : Kind C.env x := by first | exact .inl rfl | exact .inr ⟨rfl, _, rfl⟩) (hs : swapsWith e (some (.Name x p)) pos.line C.env = pure false := by rfl) : SX C Γ (.Assign [.Name x p] e pos) Post := by
  refine ⟨?_⟩
  intro E ol m cm s F
  refine wpAny_Assign_Name (he.run F.rd fun v s₁ k₁ R₁ r₁ => ?_) hs
  refine (F.keep k₁).store r₁ hk hd fun s₂ m' cm' e₂ F₂ => ?_
  exact ⟨(Eff.of_kp k₁).trans e₂ fun _ h => .inl h, _, ol, m', cm', h, F₂, fun _ e => .inl e⟩

theorem SX.assignT {x : Str} {p pos : Pos} {e : Expr} {d : PyData} (he : PE C.G C.A C.env (thaw Γ) e d) (hsc : Scal d) (hd : Del x Γ Γ') (h : Post (.next ((x, .sh d) :: Γ')))
    (hk : Kind C.env x := by first | exact .inl rfl | exact .inr ⟨rfl, _, rfl⟩) (hs : swapsWith e (some (.Name x p)) pos.line C.env = pure false := by rfl) : SX C Γ (.Assign [.Name x p] e pos) Post := by
  refine ⟨?_⟩
  intro E ol m cm s F
  refine wpAny_Assign_Name (he.run F.rdT fun v s₁ k₁ R₁ r₁ => ?_) hs
  refine (F.keep k₁).store (r₁.scal hsc) hk hd fun s₂ m' cm' e₂ F₂ => ?_
  exact ⟨(Eff.of_kp k₁).trans e₂ fun _ h => .inl h, _, ol, m', cm', h, F₂, fun _ e => .inl e⟩

theorem SX.new {x : Str} {p q pos : Pos} (hd : Del x Γ Γ') (h : Post (.next ((x, .ow []) :: Γ'))) (hl : C.env.kindOf x = some .local := by rfl)
    (hs : swapsWith (.List [] q) (some (.Name x p)) pos.line C.env = pure false := by rfl) : SX C Γ (.Assign [.Name x p] (.List [] q) pos) Post := by
  refine ⟨?_⟩
  intro E ol m cm s F
  refine wpAny_Assign_Name (PyProof.Rows.List_ ?_) hs
  show wpAny C.G.M C.A (spliced []) _ _ s
  refine Calls.spliced_nil (wpAny_newObj_type ?_ (by show 0 ≤ sizeLine; exact Nat.zero_le _))
  generalize hL : s.heap.objs.size = l
  have hnone : s.heap.get? l = none := hL ▸ get?_size _
  generalize ho : ({ cls := .type "list", data := .seq ([] : List Value).toArray } : Obj) = o
  have hnew : (s.heap.push o).get? l = some o := hL ▸ Heap.get?_push_size _ (by subst ho; rfl)
  have F₁ : FrameOk C.G C.s₀ C.X₀ C.env Γ ol m cm { s with heap := s.heap.push o } := F.keep (Kp.heap (Keep.push _ _))
  refine wpAny_storeName_local hl F₁.inn.toInCall.ns (fun h' hn hs' => ?_) (by rw [F.fe.1]; rfl)
  have hnd : ∀ o', (s.heap.push o).get? C.env.locals = some o' → NDC o' → XO C.X₀ ol C.env.locals := fun o' e nd => absurd nd (ns_ndc F₁.inn.toInCall.ns e)
  have e₁ : Eff (XO C.X₀ ol) s { s with heap := s.heap.push o } := Eff.of_kp (Kp.heap (Keep.push _ _))
  have e₂ : Eff (XO C.X₀ ol) { s with heap := s.heap.push o } { ({ s with heap := s.heap.push o } : Shared) with heap := h', toks := s.toks + 1 } := eff_of_sameBut hs' (let ⟨o, _, _, e, _⟩ := hn; ⟨o, e⟩) hnd
  have eE := e₁.trans e₂ fun _ h => .inl h
  have hlL : l ≠ C.env.locals := by
    rintro rfl
    obtain ⟨o', _, _, e', _⟩ := F.inn.toInCall.ns
    rw [hnone] at e'; cases e'
  have hpl : h'.PlainList l (([] : List Value).toArray) := by
    refine ⟨0, (hs'.2 l hlL).trans ?_⟩
    show (s.heap.push o).get? l = _
    rw [hnew, ← ho]
  have hold : s.heap.get? l = none → Safe s.heap (XO C.X₀ ol) h' (XO C.X₀ ((x, l) :: ol)) := fun _ => by
    intro a o' hx ho' hsq
    obtain ⟨vs, n, hd'⟩ := hsq
    refine ⟨eE.kb a o' ho' (ndc_seq hd') hx, ?_⟩
    rintro (q | ⟨y, q⟩)
    · exact hx (.inl q)
    · rcases List.mem_cons.mp q with q | q
      · cases q; rw [hnone] at ho'; cases ho'
      · exact hx (.inr ⟨y, q⟩)
  have hsafe := hold hnone
  have hfresh : ∀ a, XO C.X₀ ((x, l) :: ol) a → XO C.X₀ ol a ∨ s.heap.get? a = none := by
    rintro a (q | ⟨y, q⟩)
    · exact .inl (.inl q)
    · rcases List.mem_cons.mp q with q | q
      · cases q; exact .inr hnone
      · exact .inl (.inr ⟨y, q⟩)
  refine ⟨eE, _, (x, l) :: ol, _, cm, h, ⟨F.fe, ⟨⟨?_, hn, fun b o' e => ?_, F.inn.toInCall.fresh⟩, fun k c hc => ?_, F.inn.apart, F.inn.above⟩, F.base, F.alive, F.off, fun p hp => ?_, ?_, fun y dy hy => ?_, fun y ds hy => ?_⟩, hfresh⟩
  · obtain ⟨h₁, tk, e⟩ := F.inn.toInCall.same
    rw [e]; exact ⟨h', _, rfl⟩
  · exact hs'.extBut b o' (Nat.ne_of_lt (Nat.lt_of_lt_of_le (Heap.lt_size e) F.inn.toInCall.fresh)) (F₁.inn.toInCall.keep b o' e)
  · exact (F₁.inn.cell k c hc).sameBut hs' (Nat.ne_of_gt (F.inn.above k c (mem_of_lookup hc)))
  · rcases List.mem_cons.mp hp with rfl | hp
    · refine ⟨?_, _, hpl⟩
      show C.s₀.heap.objs.size ≤ l
      rw [← hL]
      exact Nat.le_of_lt (Nat.lt_of_le_of_lt F.inn.toInCall.fresh F.inn.toInCall.ns.lt)
    · obtain ⟨a, vs, n, e⟩ := F₁.new p hp
      refine ⟨a, vs, n, (hs'.2 _ ?_).trans e⟩
      intro q; rw [q] at e; exact ns_ndc F₁.inn.toInCall.ns e (ndc_seq rfl)
  · refine List.pairwise_cons.mpr ⟨fun y hy e => ?_, F.apart⟩
    obtain ⟨_, vs, n, e'⟩ := F.new y hy
    have e'' : l = y.2 := e
    rw [← e'', hnone] at e'; cases e'
  · rcases List.mem_cons.mp hy with e | hy
    · cases e
    · obtain ⟨h1, h2⟩ := hd _ hy
      obtain ⟨w, a, b⟩ := F.sh y dy h1
      refine ⟨w, a.imp (fun q => ⟨q.1, by rw [if_neg h2]; exact q.2⟩) id, b.safe hsafe⟩
  · rcases List.mem_cons.mp hy with e | hy
    · cases e
      exact ⟨hl, l, [], List.mem_cons_self, by simp, hpl, .nil⟩
    · obtain ⟨h1, h2⟩ := hd _ hy
      obtain ⟨a, l', vs, b, c, ⟨n, dd⟩, e⟩ := F.ow y ds h1
      refine ⟨a, l', vs, List.mem_cons_of_mem _ b, by rw [if_neg h2]; exact c, ⟨n, ?_⟩, e.safe hsafe⟩
      have hne : l' ≠ C.env.locals := by intro q; rw [q] at dd; exact ns_ndc F.inn.toInCall.ns dd (ndc_seq rfl)
      exact (hs'.2 _ hne).trans (Keep.push _ _ _ _ dd)

/-! ## append -/
theorem FrameOk.append {G : Glo} {s₀ : Shared} {X₀ : Addr → Prop} {env : Env} {ol : List (Str × Addr)} {m cm : Str → Option Value} {s : Shared} {A : Around} {E : Value → Shared → Prop} {x : Str} {l : Addr} {v : Value} {vs : List Value} {ds : List PyData} {d : PyData}
    {Q : Value → Shared → Prop} (F : FrameOk G s₀ X₀ env Γ ol m cm s) (hl : env.kindOf x = some .local) (h1 : (x, l) ∈ ol) (h2 : m x = some (.ref l)) (h3 : s.heap.PlainList l vs.toArray) (h4 : Reps s.heap (XO X₀ ol) vs ds)
    (hr : Rep s.heap (XO X₀ ol) v d) (hΓ : Del x Γ Γ') (hsz : ds.length ≤ sizeLine)
    (h : ∀ s', Eff (XO X₀ ol) s s' → FrameOk G s₀ X₀ env ((x, .ow (ds ++ [d])) :: Γ') ol m cm s' → Q .none s') : wpAny G.M A (call (.builtin "list.append") [.ref l, v]) Q E s := by
  refine wpAny_list_append_plain h3 (fun h' hpl hs => ?_) (by rw [List.size_toArray, h4.length]; exact hsz)
  have hX : XO X₀ ol l := .inr ⟨x, h1⟩
  have hE : Eff (XO X₀ ol) s { s with heap := h', toks := s.toks } := eff_of_sameBut hs (let ⟨n, e⟩ := hpl; ⟨_, e⟩) fun _ _ _ => hX
  have hsafe := hE.safe
  have hlL : l ≠ env.locals := by
    rintro rfl
    obtain ⟨n, e⟩ := h3
    exact ns_ndc F.inn.toInCall.ns e (ndc_seq rfl)
  have hlc : ∀ k c, env.cells.lookup k = some c → c ≠ l := by
    rintro k c hc rfl
    obtain ⟨n, e⟩ := h3
    exact cell_ndc (F.inn.cell k c hc) e (ndc_seq rfl)
  have hl0 : ∀ b o, s₀.heap.get? b = some o → b ≠ l := by
    rintro b o e rfl
    exact absurd (Heap.lt_size e) (Nat.not_lt.mpr (F.new _ h1).1)
  refine h _ hE ⟨F.fe, ⟨⟨?_, F.inn.toInCall.ns.sameBut hs (Ne.symm hlL), fun b o e => hs.extBut b o (hl0 b o e) (F.inn.toInCall.keep b o e), F.inn.toInCall.fresh⟩, fun k c hc => (F.inn.cell k c hc).sameBut hs (hlc k c hc), F.inn.apart, F.inn.above⟩, F.base, F.alive, F.off, fun p hp => ?_, F.apart, fun y dy hy => ?_, fun y ds' hy => ?_⟩
  · obtain ⟨h₁, tk, e⟩ := F.inn.toInCall.same
    rw [e]; exact ⟨h', _, rfl⟩
  · obtain ⟨a, vs', n, e⟩ := F.new p hp
    by_cases q : p.2 = l
    · rw [q]; exact ⟨q ▸ a, _, hpl⟩
    · exact ⟨a, vs', n, (hs.2 _ q).trans e⟩
  · rcases List.mem_cons.mp hy with e | hy
    · cases e
    · obtain ⟨q1, q2⟩ := hΓ _ hy
      obtain ⟨w, a, b⟩ := F.sh y dy q1
      exact ⟨w, a, b.safe hsafe⟩
  · rcases List.mem_cons.mp hy with e | hy
    · cases e
      refine ⟨hl, l, vs ++ [v], h1, h2, by simpa using hpl, (h4.safe hsafe).append (.cons (hr.safe hsafe) .nil)⟩
    · obtain ⟨q1, q2⟩ := hΓ _ hy
      obtain ⟨a, l', vs', b, c, ⟨n, dd⟩, e⟩ := F.ow y ds' q1
      have hne : l' ≠ l := fun q => q2 (name_of_addr F.apart b (q ▸ h1))
      exact ⟨a, l', vs', b, c, ⟨n, (hs.2 _ hne).trans dd⟩, e.safe hsafe⟩

theorem append_call {A : Around} {env : Env} {G : Glo} {E : Value → Shared → Prop} {s : Shared} {x : Str} {p ap cp : Pos} {e : Expr} {Q : Value → Shared → Prop}
    (h : wpAny G.M A (eval (.Name x p) env) (fun ov s₁ => ∃ D its, ov = .ref D ∧ PlainL s₁.heap D its ∧ wpAny G.M A (eval e env) (fun y s₂ => wpAny G.M A (call (.builtin "list.append") [.ref D, y]) Q E s₂) E s₁) E s)
    (hline : (ap.endLine == cp.line) = true) (hst : starEach [e] env = [(false, eval e env)]) : wpAny G.M A (eval (.Call (.Attribute (.Name x p) "append" ap) [e] [] cp) env) Q E s :=
  wpAny_Call_append rfl (by rw [hst]; rfl) hline (by rw [hst]; rfl) h

theorem SX.append {x : Str} {p ap cp pos : Pos} {e : Expr} {ds : List PyData} {d : PyData} (hx : (x, Slot.ow ds) ∈ Γ) (he : PE C.G C.A C.env Γ e d) (hΓ : Del x Γ Γ') (h : Post (.next ((x, .ow (ds ++ [d])) :: Γ'))) (hsz : ds.length ≤ sizeLine)
    (hd : (x == ("__debug__" : Str)) = false := by decide) (hline : (ap.endLine == cp.line) = true := by rfl) (hst : starEach [e] C.env = [(false, eval e C.env)] := by rfl) (hi : interactive C.env = false := by rfl)
    (hs : swapsWith (.Call (.Attribute (.Name x p) "append" ap) [e] [] cp) none pos.line C.env = pure false := by rfl) : SX C Γ (.Expr (.Call (.Attribute (.Name x p) "append" ap) [e] [] cp) pos) Post := by
  refine ⟨?_⟩
  intro E ol m cm s F
  obtain ⟨hl, l, vs, h1, h2, h3, h4⟩ := F.ow x ds hx
  refine wpAny_Expr (append_call ?_ hline hst) hi hs
  refine wpAny_Name (wpAny_loadName_local F.fe.1 hl F.inn.toInCall.ns h2 ?_) hd
  refine ⟨l, _, rfl, (let ⟨n, e⟩ := h3; ⟨_, n, e, rfl, rfl, rfl⟩), he.run F.rd fun v s₁ k₁ R₁ r₁ => ?_⟩
  refine (F.keep k₁).append hl h1 h2 (h3.at fun o e => k₁.keep _ o e) (h4.keep k₁.keep) r₁ hΓ hsz fun s₂ e₂ F₂ => ?_
  exact ⟨(Eff.of_kp k₁).trans e₂ fun _ h => .inl h, _, ol, m, cm, h, F₂, fun _ e => .inl e⟩

theorem SX.appendT {x : Str} {p ap cp pos : Pos} {e : Expr} {ds : List PyData} {d : PyData} (hx : (x, Slot.ow ds) ∈ Γ) (he : PE C.G C.A C.env (thaw Γ) e d) (hsc : Scal d) (hΓ : Del x Γ Γ') (h : Post (.next ((x, .ow (ds ++ [d])) :: Γ'))) (hsz : ds.length ≤ sizeLine)
    (hd : (x == ("__debug__" : Str)) = false := by decide) (hline : (ap.endLine == cp.line) = true := by rfl) (hst : starEach [e] C.env = [(false, eval e C.env)] := by rfl) (hi : interactive C.env = false := by rfl)
    (hs : swapsWith (.Call (.Attribute (.Name x p) "append" ap) [e] [] cp) none pos.line C.env = pure false := by rfl) : SX C Γ (.Expr (.Call (.Attribute (.Name x p) "append" ap) [e] [] cp) pos) Post := by
  refine ⟨?_⟩
  intro E ol m cm s F
  obtain ⟨hl, l, vs, h1, h2, h3, h4⟩ := F.ow x ds hx
  refine wpAny_Expr (append_call ?_ hline hst) hi hs
  refine wpAny_Name (wpAny_loadName_local F.fe.1 hl F.inn.toInCall.ns h2 ?_) hd
  refine ⟨l, _, rfl, (let ⟨n, e⟩ := h3; ⟨_, n, e, rfl, rfl, rfl⟩), he.run F.rdT fun v s₁ k₁ R₁ r₁ => ?_⟩
  refine (F.keep k₁).append hl h1 h2 (h3.at fun o e => k₁.keep _ o e) (h4.keep k₁.keep) (r₁.scal hsc) hΓ hsz fun s₂ e₂ F₂ => ?_
  exact ⟨(Eff.of_kp k₁).trans e₂ fun _ h => .inl h, _, ol, m, cm, h, F₂, fun _ e => .inl e⟩

/-! ## if, return, freezing -/
theorem SX.ifs {test : Expr} {body orelse : List Stmt} {pos : Pos} {b : Bool} (ht : PB C.G C.A C.env (thaw Γ) test b) (h1 : b = true → SW C Γ body Post) (h2 : b = false → SW C Γ orelse Post) : SX C Γ (.If test body orelse pos) Post := by
  refine ⟨?_⟩
  intro E ol m cm s F
  refine wpAny_If (ht.run F.rdT fun s₁ k₁ _ => ?_)
  have F₁ := F.keep k₁
  cases b with
  | true => exact wpAny_mono ((h1 rfl).val E ol m cm s₁ F₁) (fun _ _ o => out_comp (Eff.of_kp k₁) (fun _ e => .inl e) o) fun _ _ e => e
  | false => exact wpAny_mono ((h2 rfl).val E ol m cm s₁ F₁) (fun _ _ o => out_comp (Eff.of_kp k₁) (fun _ e => .inl e) o) fun _ _ e => e

theorem SX.ret {e : Expr} {pos : Pos} {d : PyData} (he : PE C.G C.A C.env (thaw Γ) e d) (h : Post (.ret d)) : SX C Γ (.Return (some e) pos) Post := by
  refine ⟨?_⟩
  intro E ol m cm s F
  refine wpAny_Return_some (he.run F.rdT fun v s₁ k₁ _ r₁ => ?_)
  exact ⟨Eff.of_kp k₁, d, h, F.keep₀.trans k₁.keep, r₁⟩

theorem SW.freeze {x : Str} {ds : List PyData} {sts : List Stmt} (hx : (x, Slot.ow ds) ∈ Γ) (hΓ : Del x Γ Γ') (h : SW C ((x, .sh (.list ds)) :: Γ') sts Post) : SW C Γ sts Post := by
  refine ⟨?_⟩
  intro E ol m cm s F
  obtain ⟨hl, l, vs, h1, h2, h3, h4⟩ := F.ow x ds hx
  have hmem : ∀ p, p ∈ ol.filter (fun p => p.2 != l) → p ∈ ol := fun p hp => (List.mem_filter.mp hp).1
  have hw : ∀ a, XO C.X₀ (ol.filter fun p => p.2 != l) a → XO C.X₀ ol a := by
    rintro a (q | ⟨y, q⟩)
    · exact .inl q
    · exact .inr ⟨y, hmem _ q⟩
  have hnl : ¬ XO C.X₀ (ol.filter fun p => p.2 != l) l := by
    rintro (q | ⟨y, q⟩)
    · exact F.notX₀ h1 q
    · have := (List.mem_filter.mp q).2; simp at this
  have F' : FrameOk C.G C.s₀ C.X₀ C.env ((x, .sh (.list ds)) :: Γ') (ol.filter fun p => p.2 != l) m cm s := by
    refine ⟨F.fe, F.inn, F.base, F.alive, F.off, fun p hp => F.new p (hmem p hp), F.apart.filter _, fun y dy hy => ?_, fun y ds' hy => ?_⟩
    · rcases List.mem_cons.mp hy with e | hy
      · cases e
        exact ⟨.ref l, .inl ⟨hl, h2⟩, .list hnl h3.isList (h4.weaken hw)⟩
      · obtain ⟨v, a, b⟩ := F.sh y dy (hΓ _ hy).1
        exact ⟨v, a, b.weaken hw⟩
    · rcases List.mem_cons.mp hy with e | hy
      · cases e
      · obtain ⟨q1, q2⟩ := hΓ _ hy
        obtain ⟨a, l', vs', b, c, dd, e⟩ := F.ow y ds' q1
        have hne : l' ≠ l := fun q => q2 (name_of_addr F.apart b (q ▸ h1))
        exact ⟨a, l', vs', List.mem_filter.mpr ⟨b, by simpa using hne⟩, c, dd, e.weaken hw⟩
  exact wpAny_mono (h.val E _ m cm s F') (fun _ _ o => out_comp ⟨⟨s.heap, s.toks, rfl⟩, fun _ e => e, fun _ _ e _ _ => e⟩ (fun a q => .inl (hw a q)) o) fun _ _ e => e

end
end Mine

/-! text VH -/
namespace Mine
open PySem

/-! ## Walking over a list or a range -/
structure Walk (G : Glo) (A : Around) (X : Addr → Prop) (I : Addr) (ds : List PyData) (hB : Heap) (fp wr : List Addr) (P : Nat → Value → Prop) (St : Nat → Heap → Prop) : Prop where
  w : Walks G.prog G.w A I fp wr ds.length P St
  fresh : ∀ b ∈ wr, hB.get? b = none
  obj : ∀ i h, St i h → ∀ b ∈ fp, ∃ o, h.get? b = some o ∧ NDC o
  wobj : ∀ i h, St i h → ∀ b ∈ wr, ∃ o, h.get? b = some o ∧ ∀ vs n, o.data ≠ .seq vs n
  off : ∀ b ∈ fp, ¬ X b
  val : ∀ i v, i < ds.length → P i v → ∃ d, ds[i]? = some d ∧ Rep hB X v d
  go : ∀ (target : Expr) i (s : Shared) (v : Value) (Q : Unit → Shared → Prop) (E : Value → Shared → Prop), St i s.heap → Q () s → wpAny G.M A (letOwnedTupleGo target (.ref I) v) Q E s

noncomputable def Itr (G : Glo) (A : Around) (X : Addr → Prop) (I : Addr) (ds : List PyData) (h hB : Heap) : Prop :=
  ∃ fp wr P St, Walk G A X I ds hB fp wr P St ∧ St 0 h

structure ItE (G : Glo) (A : Around) (env : Env) (Γ : AEnv) (iter : Expr) (ds : List PyData) : Prop where
  val : ∀ (E : Value → Shared → Prop) (X : Addr → Prop) (s : Shared), Rd G X env Γ s.heap →
    wpAny G.M A (eval iter env) (fun x s₁ => Kp s s₁ ∧ ∀ E' : Value → Shared → Prop, wpAny G.M A (pyIter x) (fun it s₂ => Kp s₁ s₂ ∧ ∃ I, it = .ref I ∧ Itr G A X I ds s₂.heap s₁.heap) E' s₁) E s

section
variable {G : Glo} {A : Around} {env : Env} {Γ : AEnv} {X : Addr → Prop} {s : Shared} {E : Value → Shared → Prop} {n : Nat}

theorem letGo_any {target : Expr} {I : Addr} {o : Obj} {T : String} {vs : Array Value} {v : Value} {Q : Unit → Shared → Prop} (ho : s.heap.get? I = some o) (hc : o.cls = .type T) (hd : o.data = .fields vs)
    (hT : (["enumerate", "zip", "dict_itemiterator", "dict_reverseitemiterator", "odict_iterator", "itertools.zip_longest", "itertools.pairwise"].contains T) = false) (hQ : Q () s) : wpAny G.M A (letOwnedTupleGo target (.ref I) v) Q E s := by
  unfold letOwnedTupleGo
  split
  all_goals first | exact wpAny_pure hQ | skip
  all_goals
    split
    · rename_i r a e
      cases e
      refine wpAny_bind (wpAny_load ho ?_)
      rw [hc, hd]
      dsimp only
      rw [if_neg (by
        intro h
        rw [hT, Bool.false_and] at h
        cases h)]
      exact wpAny_pure hQ
    · exact wpAny_pure hQ

theorem ItE.list {e : Expr} {ds : List PyData} (hh : A.handled = none) (h : PE G A env Γ e (.list ds)) : ItE G A env Γ e ds := by
  refine ⟨?_⟩
  intro E X s R
  refine h.run R fun x s₁ k₁ R₁ r₁ => ⟨k₁, fun E' => ?_⟩
  cases r₁ with
  | @list ax vs _ hx hl r =>
    refine wpAny_pyIter_list hl ⟨Kp.heap (Keep.push _ _), _, rfl, ?_⟩
    have hne : ax ≠ s₁.heap.objs.size := by obtain ⟨o, ho, _⟩ := hl; exact Nat.ne_of_lt (Heap.lt_size ho)
    have hW := Walks.list (prog := G.prog) (w := G.w) (A := A) hh s₁.heap.objs.size ax hne vs.toArray
    have hlen : vs.toArray.size = ds.length := by rw [List.size_toArray]; exact r.length
    rw [hlen] at hW
    refine ⟨_, _, _, _, ⟨hW, fun b hb => ?_, fun i h st b hb => ?_, fun i h st b hb => ?_, fun b hb => ?_, fun i v _ hv => ?_, fun target i s v Q E st hQ => let ⟨o, ho, hc, hd⟩ := st.1; letGo_any ho hc hd (by decide) hQ⟩, ⟨_, Heap.get?_push_size _ rfl, rfl, rfl⟩, hl.push _⟩
    · rw [List.mem_singleton.mp hb]; exact get?_size _
    · obtain ⟨⟨o, ho, _, hd⟩, ⟨o', ho', _, n', hd'⟩⟩ := st
      rcases List.mem_cons.mp hb with e | hb
      · subst e; exact ⟨o, ho, ndc_fields hd⟩
      · rw [List.mem_singleton.mp hb]; exact ⟨o', ho', ndc_seq hd'⟩
    · obtain ⟨⟨o, ho, _, hd⟩, _⟩ := st
      rw [List.mem_singleton.mp hb]
      exact ⟨o, ho, fun vs n e => by rw [hd] at e; cases e⟩
    · rcases List.mem_cons.mp hb with e | hb
      · subst e; exact R₁.alive.next
      · rw [List.mem_singleton.mp hb]; exact hx
    · obtain ⟨d, h1, h2⟩ := r.getV i v (by simpa using hv)
      exact ⟨d, h1, h2⟩

theorem iter_range {ra : Addr} {a b : Int} {t u v : Tok} (hh : A.handled = none) (hX : Alive X s.heap) (hr : IsRange s.heap ra a b 1 t u v) (ha : -(2 ^ 62) ≤ a) (ha' : a < 2 ^ 62) (hb : -(2 ^ 62) ≤ b) (hb' : b < 2 ^ 62) (ds : List PyData)
    (hds : ds = (List.range (b - a).toNat).map fun i => .int (a + i)) :
    wpAny G.M A (pyIter (.ref ra)) (fun it s₂ => Kp s s₂ ∧ ∃ I, it = .ref I ∧ Itr G A X I ds s₂.heap s.heap) E s := by
  refine wpAny_pyIter_range hr (small_one ha ha' hb hb') ⟨Kp.heap (Keep.push _ _), _, rfl, ?_⟩
  have hW := Walks.range (prog := G.prog) (w := G.w) (A := A) hh s.heap.objs.size a 1 (b - a).toNat
  have hlen : ds.length = (b - a).toNat := by rw [hds]; simp
  rw [← hlen] at hW
  have hsize : Builtin.Range.rangeSize a b 1 = ((ds.length : Nat) : Int) := by rw [rangeSize_one, hlen]; split <;> omega
  refine ⟨_, _, _, _, ⟨hW, fun b hb => ?_, fun i h st b hb => ?_, fun i h st b hb => ?_, fun b hb => ?_, fun i v hi hv => ?_, fun target i s v Q E st hQ => letGo_any st rfl rfl (by decide) hQ⟩, ?_⟩
  · rw [List.mem_singleton.mp hb]; exact get?_size _
  · rw [List.mem_singleton.mp hb]; exact ⟨_, st, ndc_fields rfl⟩
  · rw [List.mem_singleton.mp hb]; exact ⟨_, st, fun vs n e => by cases e⟩
  · rw [List.mem_singleton.mp hb]; exact hX.next
  · obtain ⟨t', rfl⟩ := hv
    refine ⟨.int (a + i), ?_, by rw [Int.mul_one]; exact .int _ _⟩
    rw [hds, List.getElem?_map, List.getElem?_range (by omega)]
    rfl
  · show IsRangeIter _ _ _ _ _
    rw [hsize]
    simp only [Int.mul_one, Int.natCast_zero, Int.add_zero, Int.sub_zero]
    exact Heap.get?_push_size _ rfl

noncomputable def rangeD (a b : Int) : List PyData := (List.range (b - a).toNat).map fun (i : Nat) => .int (a + (i : Int))

theorem ItE.range1 {e : Expr} {p pos : Pos} {b : Int} (hA : AOk n A) (F : Bi G "range" (.type "range")) (he : PE G A env Γ e (.int b)) (hb : -(2 ^ 62) ≤ b) (hb' : b < 2 ^ 62)
    (hk : env.kindOf "range" = some .globalImplicit := by rfl) (hst : starEach [e] env = [(false, eval e env)] := by rfl) : ItE G A env Γ (.Call (.Name "range" p) [e] [] pos) (rangeD 0 b) := by
  refine ⟨?_⟩
  intro E X s R
  rw [eval_CallName]
  refine wpAny_bind (loadGlobal_bi R hk F.1 F.2 ?_ (by decide))
  show wpAny G.M A (callWith pos (.type "range") [] (backTo pos (starEach [e] env)) []) _ E s
  rw [hst]
  refine callWith_type rfl (Calls.evalArgs_plain (Calls.spliced_cons (he.run R fun v s₁ k₁ R₁ r₁ => Calls.spliced_nil ?_)))
  cases r₁
  refine call_range_1 ⟨k₁.trans (Kp.push _ _ _), fun E' => ?_⟩
  exact iter_range hA.1 (R₁.alive.keep (Keep.push _ _)) (IsRange.new _ _ _ _ _ _ _) (by decide) (by decide) hb hb' _ rfl
theorem ItE.range2 {e f : Expr} {p pos : Pos} {a b : Int} (hA : AOk n A) (F : Bi G "range" (.type "range")) (he : PE G A env Γ e (.int a)) (hf : PE G A env Γ f (.int b)) (ha : -(2 ^ 62) ≤ a) (ha' : a < 2 ^ 62) (hb : -(2 ^ 62) ≤ b) (hb' : b < 2 ^ 62)
    (hk : env.kindOf "range" = some .globalImplicit := by rfl) (hst : starEach [e, f] env = [(false, eval e env), (false, eval f env)] := by rfl) : ItE G A env Γ (.Call (.Name "range" p) [e, f] [] pos) (rangeD a b) := by
  refine ⟨?_⟩
  intro E X s R
  rw [eval_CallName]
  refine wpAny_bind (loadGlobal_bi R hk F.1 F.2 ?_ (by decide))
  show wpAny G.M A (callWith pos (.type "range") [] (backTo pos (starEach [e, f] env)) []) _ E s
  rw [hst]
  refine callWith_type rfl (Calls.evalArgs_plain (Calls.spliced_cons (he.run R fun v s₁ k₁ R₁ r₁ => Calls.spliced_cons (hf.run R₁ fun v' s₂ k₂ R₂ r₂ => Calls.spliced_nil ?_))))
  cases r₁
  cases r₂
  refine call_range_2 ⟨(k₁.trans k₂).trans (Kp.push _ _ _), fun E' => ?_⟩
  exact iter_range hA.1 (R₂.alive.keep (Keep.push _ _)) (IsRange.new _ _ _ _ _ _ _) ha ha' hb hb' _ rfl

end

/-! ## for -/
section
variable {C : Ctx} {Γ Γ' Γ'' : AEnv} {Post : AFlow → Prop}

structure Tgt (C : Ctx) (target : Expr) (d : PyData) (Γ Γ'' : AEnv) : Prop where
  val : ∀ (E : Value → Shared → Prop) ol m cm s v (Q : Unit → Shared → Prop), FrameOk C.G C.s₀ C.X₀ C.env Γ ol m cm s → Rep s.heap (XO C.X₀ ol) v d →
    (∀ s' m' cm', Eff (XO C.X₀ ol) s s' → FrameOk C.G C.s₀ C.X₀ C.env Γ'' ol m' cm' s' → Q () s') → wpAny C.G.M C.A (assign target C.env v) Q E s

theorem Tgt.name {x : Str} {p : Pos} {d : PyData} (hd : Del x Γ Γ') (hk : Kind C.env x := by first | exact .inl rfl | exact .inr ⟨rfl, _, rfl⟩) : Tgt C (.Name x p) d Γ ((x, .sh d) :: Γ') :=
  ⟨fun _ _ _ _ _ _ _ F r h => wpAny_assign_Name (F.store r hk hd fun s' m' cm' e F' => h s' m' cm' e F')⟩

theorem FrameOk.change {G : Glo} {s₀ : Shared} {X₀ : Addr → Prop} {env : Env} {ol : List (Str × Addr)} {m cm : Str → Option Value} {s : Shared} {h' : Heap} {tk : Nat} {wr : List Addr} (F : FrameOk G s₀ X₀ env Γ ol m cm s)
    (hk : ∀ b o, b ∉ wr → s.heap.get? b = some o → h'.get? b = some o) (hL : env.locals ∉ wr) (hC : ∀ k c, env.cells.lookup k = some c → c ∉ wr) (hw : ∀ b ∈ wr, ∀ o, s.heap.get? b = some o → ∀ vs n, o.data ≠ .seq vs n) (h0 : ∀ b ∈ wr, s₀.heap.get? b = none) :
    FrameOk G s₀ X₀ env Γ ol m cm { s with heap := h', toks := tk } := by
  have hseq : ∀ b o, s.heap.get? b = some o → (∃ vs n, o.data = .seq vs n) → h'.get? b = some o := fun b o e ⟨vs, n, hd⟩ => hk b o (fun hb => hw b hb o e vs n hd) e
  have hsafe : Safe s.heap (XO X₀ ol) h' (XO X₀ ol) := fun a o hx ho hsq => ⟨hseq a o ho hsq, hx⟩
  have hpl : ∀ l vs, s.heap.PlainList l vs → h'.PlainList l vs := fun l vs ⟨n, e⟩ => ⟨n, hseq _ _ e ⟨_, _, rfl⟩⟩
  refine ⟨F.fe, ⟨⟨?_, ?_, fun b o e => ?_, F.inn.toInCall.fresh⟩, fun k c hc => ?_, F.inn.apart, F.inn.above⟩, F.base, F.alive, F.off, fun p hp => ?_, F.apart, fun y dy hy => ?_, fun y ds hy => ?_⟩
  · obtain ⟨h₁, tk', e⟩ := F.inn.toInCall.same
    rw [e]; exact ⟨h', _, rfl⟩
  · exact F.inn.toInCall.ns.at' fun o e => hk _ o hL e
  · refine hk b o (fun hb => ?_) (F.inn.toInCall.keep b o e)
    rw [h0 b hb] at e; cases e
  · obtain ⟨o, e, hd⟩ := F.inn.cell k c hc
    exact ⟨o, hk c o (hC k c hc) e, hd⟩
  · obtain ⟨a, vs, b⟩ := F.new p hp
    exact ⟨a, vs, hpl _ _ b⟩
  · obtain ⟨v, a, b⟩ := F.sh y dy hy
    exact ⟨v, a, b.safe hsafe⟩
  · obtain ⟨a, l, vs, b, c, d, e⟩ := F.ow y ds hy
    exact ⟨a, l, vs, b, c, hpl _ _ d, e.safe hsafe⟩

theorem FrameOk.walk {G : Glo} {s₀ : Shared} {X₀ : Addr → Prop} {env : Env} {ol : List (Str × Addr)} {m cm : Str → Option Value} {s : Shared} {h' : Heap} {tk : Nat} {wr : List Addr} (F : FrameOk G s₀ X₀ env Γ ol m cm s)
    (hk : ∀ b o, b ∉ wr → s.heap.get? b = some o → h'.get? b = some o) (hw : ∀ b ∈ wr, ∃ o, s.heap.get? b = some o ∧ NDC o ∧ ∀ vs n, o.data ≠ .seq vs n) (h0 : ∀ b ∈ wr, s₀.heap.get? b = none) :
    FrameOk G s₀ X₀ env Γ ol m cm { s with heap := h', toks := tk } := by
  refine F.change hk (fun hb => ?_) (fun k c hc hb => ?_) (fun b hb o e => ?_) h0
  · obtain ⟨o', e', q, _⟩ := hw _ hb
    exact ns_ndc F.inn.toInCall.ns e' q
  · obtain ⟨o', e', q, _⟩ := hw _ hb
    exact cell_ndc (F.inn.cell k c hc) e' q
  · obtain ⟨o', e', _, q⟩ := hw b hb
    rw [e] at e'; cases e'
    exact q

theorem Eff.walk {X : Addr → Prop} {s s' : Shared} {h' : Heap} {tk : Nat} {wr : List Addr} (e : Eff X s s') (hk : ∀ b o, b ∉ wr → s'.heap.get? b = some o → h'.get? b = some o) (h0 : ∀ b ∈ wr, s.heap.get? b = none) : Eff X s { s' with heap := h', toks := tk } := by
  refine ⟨?_, fun b hb => ?_, fun b o ho hn hX => ?_⟩
  · obtain ⟨h₁, tk', e'⟩ := e.rest
    rw [e']; exact ⟨h', tk, rfl⟩
  · obtain ⟨o', ho'⟩ := e.live b hb
    refine ⟨o', hk b o' (fun q => ?_) ho'⟩
    obtain ⟨o, ho⟩ := hb
    rw [h0 b q] at ho; cases ho
  · refine hk b o (fun q => ?_) (e.kb b o ho hn hX)
    rw [h0 b q] at ho; cases ho

noncomputable def LoopPost (C : Ctx) (J : AEnv → Prop) (Post : AFlow → Prop) : AFlow → Prop
  | .next Γ => ∃ Γ', (∀ p ∈ Γ', p ∈ Γ) ∧ J Γ'
  | .ret d => Post (.ret d)

theorem SX.for_ {target iter : Expr} {body : List Stmt} {pos : Pos} {ds : List PyData} (hit : ItE C.G C.A C.env Γ iter ds) (J : Nat → AEnv → Prop) (h0 : ∃ Γ', (∀ p ∈ Γ', p ∈ Γ) ∧ J 0 Γ')
    (turn : ∀ i d Γ', ds[i]? = some d → J i Γ' → ∃ Γ'', Tgt C target d Γ' Γ'' ∧ SW C Γ'' body (LoopPost C (J (i + 1)) Post))
    (done : ∀ Γ', J ds.length Γ' → Post (.next Γ'))
    (hs : ∀ x, foldedSetIterable iter C.env x = pure x := by intro _; rfl) : SX C Γ (.For target iter body [] pos) Post := by
  refine ⟨?_⟩
  intro E ol m cm s F
  refine wpAny_For (wpAny_mono (hit.val E (XO C.X₀ ol) s F.rd) (fun x s₁ h₁ => ?_) fun _ _ e => e) hs
  obtain ⟨k₁, h₁⟩ := h₁
  refine wpAny_mono (h₁ E) (fun it s₂ h₂ => ?_) fun _ _ e => e
  obtain ⟨k₂, I, rfl, fp, wr, P, St, W, st⟩ := h₂
  have F₂ := (F.keep k₁).keep k₂
  obtain ⟨Γ0, hsub, hJ0⟩ := h0
  have hwr0 : ∀ b ∈ wr, C.s₀.heap.get? b = none := fun b hb => by
    cases e : C.s₀.heap.get? b with
    | none => rfl
    | some o => have := k₁.keep _ _ (F.keep₀ b o e); rw [W.fresh b hb] at this; cases this
  refine codeAny_forLoop_any (fun k s' => ∃ i Γi oli mi cmi, i ≤ ds.length ∧ k = ds.length - i ∧ J i Γi ∧ FrameOk C.G C.s₀ C.X₀ C.env Γi oli mi cmi s' ∧ Eff (XO C.X₀ ol) s₁ s' ∧ St i s'.heap ∧ (∀ b ∈ fp, ¬ XO C.X₀ oli b) ∧
    ∀ a, XO C.X₀ oli a → XO C.X₀ ol a ∨ s₁.heap.get? a = none) ?_ (ds.length - 0) ⟨0, Γ0, ol, m, cm, Nat.zero_le _, rfl, hJ0, F₂.sub hsub, Eff.of_kp k₂, st, W.off, fun _ e => .inl e⟩
  rintro k s' ⟨i, Γi, oli, mi, cmi, hi, rfl, hJ, Fi, ei, sti, hfp, hx⟩
  have ei0 : Eff (XO C.X₀ ol) s s' := (Eff.of_kp k₁).trans ei fun _ h => .inl h
  by_cases hlt : i < ds.length
  · have hw : ∀ b ∈ wr, ∃ o, s'.heap.get? b = some o ∧ NDC o ∧ ∀ vs n, o.data ≠ .seq vs n := fun b hb => by
      obtain ⟨o, ho, hn⟩ := W.obj i _ sti b (W.w.sub b hb)
      obtain ⟨o', ho', hq⟩ := W.wobj i _ sti b hb
      rw [ho] at ho'; cases ho'
      exact ⟨o, ho, hn, hq⟩
    refine W.w.item i s' _ _ hlt sti fun v h' tk hP st' hk' => ?_
    have F₃ : FrameOk C.G C.s₀ C.X₀ C.env Γi oli mi cmi { s' with heap := h', toks := tk } := Fi.walk hk' hw hwr0
    have e₃ : Eff (XO C.X₀ ol) s₁ { s' with heap := h', toks := tk } := ei.walk hk' W.fresh
    obtain ⟨d, hd, hr⟩ := W.val i v hlt hP
    obtain ⟨Γ'', hT, hB⟩ := turn i d Γi hd hJ
    have hr₃ : Rep h' (XO C.X₀ oli) v d := hr.safe fun a o hxa ho hsq => by
      refine ⟨e₃.kb a o ho (let ⟨vs, n, q⟩ := hsq; ndc_seq q) hxa, fun q => ?_⟩
      rcases hx a q with q | q
      · exact hxa q
      · rw [ho] at q; cases q
    refine W.go target (i + 1) _ v _ _ st' ?_
    refine hT.val _ oli mi cmi _ v _ F₃ hr₃ fun s₄ m₄ cm₄ e₄ F₄ => ?_
    have st₄ : St (i + 1) s₄.heap := W.w.frame _ _ _ st' fun b hb o ho => by
      obtain ⟨o', ho', hn⟩ := W.obj (i + 1) _ st' b hb
      rw [ho] at ho'; cases ho'
      exact e₄.kb b o ho hn (hfp b hb)
    refine wpAny_mono (hB.val _ oli m₄ cm₄ s₄ F₄) (fun fl s₅ o₅ => ?_) fun _ _ e => e
    have e₅ : Eff (XO C.X₀ oli) { s' with heap := h', toks := tk } s₅ := e₄.trans o₅.1 fun _ h => .inl h
    have e₁₅ : Eff (XO C.X₀ ol) s₁ s₅ := e₃.trans e₅ hx
    have e₀₅ : Eff (XO C.X₀ ol) s s₅ := (Eff.of_kp k₁).trans e₁₅ fun _ h => .inl h
    have o2 := o₅.2
    cases fl with
    | next =>
      obtain ⟨Γ₅, ol₅, m₅, cm₅, ⟨Γ₆, hs₆, hJ₆⟩, F₅, hx₅⟩ := o2
      have st₅ : St (i + 1) s₅.heap := W.w.frame _ _ _ st₄ fun b hb o ho => by
        obtain ⟨o', ho', hn⟩ := W.obj (i + 1) _ st₄ b hb
        rw [ho] at ho'; cases ho'
        exact o₅.1.kb b o ho hn (hfp b hb)
      have hx₆ : ∀ a, XO C.X₀ ol₅ a → XO C.X₀ oli a ∨ h'.get? a = none := fun a ha => by
        rcases hx₅ a ha with q | q
        · exact .inl q
        · right
          cases qq : h'.get? a with
          | none => rfl
          | some o => obtain ⟨o', q'⟩ := e₄.live a ⟨o, qq⟩; rw [q] at q'; cases q'
      refine ⟨ds.length - (i + 1), by omega, i + 1, Γ₆, ol₅, m₅, cm₅, by omega, rfl, hJ₆, F₅.sub hs₆, e₁₅, st₅, fun b hb q => ?_, fun a ha => ?_⟩
      · rcases hx₆ b q with q | q
        · exact hfp b hb q
        · obtain ⟨o, ho, _⟩ := W.obj (i + 1) _ st' b hb
          rw [q] at ho; cases ho
      · rcases hx₆ a ha with q | q
        · exact hx a q
        · right
          cases qq : s₁.heap.get? a with
          | none => rfl
          | some o => obtain ⟨o', q'⟩ := e₃.live a ⟨o, qq⟩; rw [q] at q'; cases q'
    | ret v =>
      obtain ⟨d', hP', hK', hR'⟩ := o2
      exact ⟨e₀₅, d', hP', hK', hR'⟩
    | brk => exact o2.elim
    | cont => exact o2.elim
  · have hin : i = ds.length := by omega
    subst hin
    have hw : ∀ b ∈ wr, ∃ o, s'.heap.get? b = some o ∧ NDC o ∧ ∀ vs n, o.data ≠ .seq vs n := fun b hb => by
      obtain ⟨o, ho, hn⟩ := W.obj _ _ sti b (W.w.sub b hb)
      obtain ⟨o', ho', hq⟩ := W.wobj _ _ sti b hb
      rw [ho] at ho'; cases ho'
      exact ⟨o, ho, hn, hq⟩
    refine W.w.done s' _ _ sti fun h' tk hk' => ?_
    have F₃ : FrameOk C.G C.s₀ C.X₀ C.env Γi oli mi cmi { s' with heap := h', toks := tk } := Fi.walk hk' hw hwr0
    have e₃ : Eff (XO C.X₀ ol) s₁ { s' with heap := h', toks := tk } := ei.walk hk' W.fresh
    have e₀₃ : Eff (XO C.X₀ ol) s { s' with heap := h', toks := tk } := (Eff.of_kp k₁).trans e₃ fun _ h => .inl h
    refine wpAny_execs_nil ⟨e₀₃, Γi, oli, mi, cmi, done Γi hJ, F₃, fun a ha => ?_⟩
    rcases hx a ha with q | q
    · exact .inl q
    · right
      cases qq : s.heap.get? a with
      | none => rfl
      | some o => have := k₁.keep a o qq; rw [q] at this; cases this

end
end Mine

/-! text VI -/
namespace Mine
open PySem

section
variable {C : Ctx} {Γ Γ' Γ'' Γ''' : AEnv} {Post : AFlow → Prop}

/-! ## tuple targets -/
theorem extBut_size {h h' : Heap} (e : Heap.ExtBut h.objs.size h h') : Keep h h' := fun b o ho => e b o (Nat.ne_of_lt (Heap.lt_size ho)) ho

theorem Tgt.tup2 {x y : Str} {p q r : Pos} {k : Nat} {d1 d2 : PyData} (hh : C.A.handled = none) (h1 : Tgt C (.Name x p) d1 Γ Γ') (h2 : Tgt C (.Name y q) d2 Γ' Γ'') : Tgt C (.Tuple [.Name x p, .Name y q] k r) (.tuple [d1, d2]) Γ Γ'' := by
  refine ⟨?_⟩
  intro E ol m cm s v Q F hr h
  cases hr with
  | tuple hx ht r =>
    obtain _ | ⟨r1, r⟩ := r
    obtain _ | ⟨r2, r⟩ := r
    cases r
    refine wpAny_assign_Tuple hh ht rfl rfl fun h' he => ?_
    have k₁ : Kp s { s with heap := h' } := Kp.heap (extBut_size he)
    have F₁ := F.keep k₁
    refine wpAny_assignInOrder_more (h1.val E ol m cm _ _ _ F₁ (r1.keep k₁.keep) fun s₂ m₂ cm₂ e₂ F₂ => ?_)
    refine wpAny_assignInOrder_more (h2.val E ol m₂ cm₂ s₂ _ _ F₂ ((r2.keep k₁.keep).safe e₂.safe) fun s₃ m₃ cm₃ e₃ F₃ => ?_)
    exact wpAny_assignInOrder_none (h s₃ m₃ cm₃ ((Eff.of_kp k₁).trans (e₂.trans e₃ fun _ q => .inl q) fun _ q => .inl q) F₃)
theorem Tgt.tup3 {x y z : Str} {p q t r : Pos} {k : Nat} {d1 d2 d3 : PyData} (hh : C.A.handled = none) (h1 : Tgt C (.Name x p) d1 Γ Γ') (h2 : Tgt C (.Name y q) d2 Γ' Γ'') (h3 : Tgt C (.Name z t) d3 Γ'' Γ''') :
    Tgt C (.Tuple [.Name x p, .Name y q, .Name z t] k r) (.tuple [d1, d2, d3]) Γ Γ''' := by
  refine ⟨?_⟩
  intro E ol m cm s v Q F hr h
  cases hr with
  | tuple hx ht r =>
    obtain _ | ⟨r1, r⟩ := r
    obtain _ | ⟨r2, r⟩ := r
    obtain _ | ⟨r3, r⟩ := r
    cases r
    refine wpAny_assign_Tuple hh ht rfl rfl fun h' he => ?_
    have k₁ : Kp s { s with heap := h' } := Kp.heap (extBut_size he)
    have F₁ := F.keep k₁
    refine wpAny_assignInOrder_more (h1.val E ol m cm _ _ _ F₁ (r1.keep k₁.keep) fun s₂ m₂ cm₂ e₂ F₂ => ?_)
    refine wpAny_assignInOrder_more (h2.val E ol m₂ cm₂ s₂ _ _ F₂ ((r2.keep k₁.keep).safe e₂.safe) fun s₃ m₃ cm₃ e₃ F₃ => ?_)
    refine wpAny_assignInOrder_more (h3.val E ol m₃ cm₃ s₃ _ _ F₃ (((r3.keep k₁.keep).safe e₂.safe).safe e₃.safe) fun s₄ m₄ cm₄ e₄ F₄ => ?_)
    exact wpAny_assignInOrder_none (h s₄ m₄ cm₄ ((Eff.of_kp k₁).trans ((e₂.trans e₃ fun _ q => .inl q).trans e₄ fun _ q => .inl q) fun _ q => .inl q) F₄)
end

/-! ## Comprehensions -/
section
variable {G : Glo} {A : Around} {env : Env} {Γ : AEnv} {X : Addr → Prop} {s : Shared} {E : Value → Shared → Prop} {n : Nat}

structure PTs (G : Glo) (A : Around) (env : Env) (Γ : AEnv) (ifs : List Expr) (b : Bool) : Prop where
  val : ∀ (E : Value → Shared → Prop) (X : Addr → Prop) (s : Shared), Rd G X env Γ s.heap →
    wpAny G.M A (forIn ifs true fun c r => if r = true then do let ok ← isTrue c env (eval c env); pure (ForInStep.yield ok) else pure (ForInStep.yield r)) (fun ok s' => Kp s s' ∧ ok = b) E s
theorem PTs.nil : PTs G A env Γ [] true := ⟨fun _ _ _ _ => wpAny_tests_nil ⟨Kp.refl _, rfl⟩⟩
theorem PTs.one {c : Expr} {b : Bool} (h : PB G A env Γ c b) : PTs G A env Γ [c] b := ⟨fun E X s R => wpAny_tests_one (h.val E X s R)⟩

/-- what the comprehension's own frame sees of the frame around -/
noncomputable def Cap (env : Env) (scope : Scope) (cl : List (Str × Addr)) (Γ Γc : AEnv) : Prop :=
  ∀ p ∈ Γc, p ∈ Γ ∧ env.kindOf p.1 = some .cell ∧ (∀ D, (compEnvC scope cl D env).kindOf p.1 = some .cell) ∧ cl.lookup p.1 = env.cells.lookup p.1
theorem Cap.nil {scope : Scope} {cl : List (Str × Addr)} : Cap env scope cl Γ [] := fun _ h => nomatch h
theorem Cap.cons {scope : Scope} {cl : List (Str × Addr)} {Γc : AEnv} {x : Str} {sl : Slot} (hx : (x, sl) ∈ Γ) (h1 : env.kindOf x = some .cell) (h2 : ∀ D, (compEnvC scope cl D env).kindOf x = some .cell) (h3 : cl.lookup x = env.cells.lookup x)
    (h : Cap env scope cl Γ Γc) : Cap env scope cl Γ ((x, sl) :: Γc) := by
  intro p hp
  rcases List.mem_cons.mp hp with rfl | hp
  · exact ⟨hx, h1, h2, h3⟩
  · exact h p hp

theorem Rd.comp {scope : Scope} {cl : List (Str × Addr)} {Γc : AEnv} {D : Addr} {h h' : Heap} (R : Rd G X env Γ h) (k : Keep h h') (hcap : Cap env scope cl Γ Γc) (hkind : scope.kind = .function)
    (xs : AEnv) (hxs : ∀ x d, (x, Slot.sh d) ∈ xs → ∃ v, Loads (compEnvC scope cl D env) h' x v ∧ Rep h' X v d) : Rd G X (compEnvC scope cl D env) (xs ++ Γc) h' where
  fe := ⟨by simp [compEnvC, relabel, hkind], R.fe.2.1, R.fe.2.2⟩
  base := R.base.trans k
  alive := R.alive.keep k
  off := R.off
  var := fun x d hx => by
    rcases List.mem_append.mp hx with hx | hx
    · exact hxs x d hx
    · obtain ⟨h1, h2, h3, h4⟩ := hcap _ hx
      obtain ⟨v, hl, hr⟩ := R.var x d h1
      refine ⟨v, ?_, hr.keep k⟩
      rcases hl with ⟨q, _⟩ | ⟨_, c, hc, hv⟩
      · rw [h2] at q; cases q
      · exact .inr ⟨h3 D, c, h4.trans hc, hv.keeps k⟩

theorem alive_fresh {h : Heap} {a : Addr} {o : Obj} (h1 : h.get? a = none) {b : Addr} (h2 : h.get? b = some o) : a ≠ b := by rintro rfl; rw [h1] at h2; cases h2

theorem Reps.scal {h h' : Heap} {X X' : Addr → Prop} : ∀ {vs : List Value} {ds : List PyData}, (∀ d ∈ ds, Scal d) → Reps h X vs ds → Reps h' X' vs ds
  | _, _, _, .nil => .nil
  | _, _, hs, .cons a r => .cons (a.scal (hs _ List.mem_cons_self)) (Reps.scal (fun d hd => hs d (List.mem_cons_of_mem _ hd)) r)

theorem scal_all {f : PyData → PyData} {out ds : List PyData} (hsc : ∀ d, Scal (f d)) (hout : ∀ d ∈ out, Scal d) : ∀ d ∈ out ++ ds.map f, Scal d := by
  intro d hd
  rcases List.mem_append.mp hd with h | h
  · exact hout d h
  · obtain ⟨e, _, rfl⟩ := List.mem_map.mp h; exact hsc e

/-- the last for of a comprehension, from a heap where its frame D and its list acc stand -/
theorem comp_loop {elt iter : Expr} {x : Str} {px : Pos} {ifs : List Expr} {scope : Scope} {cl : List (Str × Addr)} {pos : Pos} {ds : List PyData} {out : List PyData} {I D acc : Addr} {s₁ s₄ : Shared} {mD : Str → Option Value} {ys : List Value}
    {Γc : AEnv} {R : Result → Shared → Prop} (t : PyData → Bool) (f : PyData → PyData)
    (RR : Rd G X env Γ s₁.heap) (hkind : scope.kind = .function) (hx : scope.names.lookup x = some .local) (hcap : Cap env scope cl Γ Γc)
    (htests : ∀ d, d ∈ ds → PTs G A (compEnvC scope cl D env) ((x, .sh d) :: Γc) ifs (t d))
    (helt : ∀ d, d ∈ ds → t d = true → PE G A (compEnvC scope cl D env) ((x, .sh d) :: Γc) elt (f d))
    (hsc : ∀ d, Scal (f d)) (hout : ∀ d ∈ out, Scal d) (hsz : out.length + ds.length ≤ sizeLine)
    {fp wr : List Addr} {P : Nat → Value → Prop} {St : Nat → Heap → Prop} (W : Walk G A X I ds s₁.heap fp wr P St) (st : St 0 s₄.heap)
    (k₄ : Kp s₁ s₄) (hD : s₄.heap.Ns D mD) (hD0 : s₁.heap.get? D = none) (hacc : s₄.heap.PlainList acc ys.toArray) (ha0 : s₁.heap.get? acc = none) (hafp : acc ∉ fp) (hys : Reps s₄.heap X ys out)
    (hdone : ∀ s' m' zs, Kp s₁ s' → s'.heap.Ns D m' → s'.heap.PlainList acc zs.toArray → Reps s'.heap X zs (out ++ (ds.filter t).map f) → R (.ok .next) s') :
    codeAny G.M A (.compLoop (.ListComp elt [⟨.Name x px, iter, ifs, 0⟩] scope pos) 0 (.ref I) (.ref acc) (compEnvC scope cl D env)) R s₄ := by
  refine codeAny_compLoop_tests (fun k s' => ∃ i m' zs, i ≤ ds.length ∧ k = ds.length - i ∧ Kp s₁ s' ∧ St i s'.heap ∧ s'.heap.Ns D m' ∧ s'.heap.PlainList acc zs.toArray ∧ Reps s'.heap X zs (out ++ ((ds.take i).filter t).map f)) ?_ (ds.length - 0)
    ⟨0, mD, ys, Nat.zero_le _, rfl, k₄, st, hD, hacc, by simpa using hys⟩
  rintro k s' ⟨i, m', zs, hi, rfl, k', sti, hn', hacc', hz⟩
  have hDfp : ∀ {j : Nat} {h : Heap} {m : Str → Option Value}, St j h → h.Ns D m → ∀ b ∈ fp, b ≠ D := fun stj hn b hb e => by
    obtain ⟨o, ho, hnd⟩ := W.obj _ _ stj b hb
    subst e; exact ns_ndc hn ho hnd
  have hDacc : D ≠ acc := by
    rintro rfl
    obtain ⟨n, e⟩ := hacc'
    exact ns_ndc hn' e (ndc_seq rfl)
  have hwr0 : ∀ b ∈ wr, s₁.heap.get? b = none := W.fresh
  have keepW : ∀ {h h' : Heap}, Keep s₁.heap h → (∀ b o, b ∉ wr → h.get? b = some o → h'.get? b = some o) → Keep s₁.heap h' := fun ka hk b o e => hk b o (fun q => by rw [hwr0 b q] at e; cases e) (ka b o e)
  have haccw : acc ∉ wr := fun q => hafp (W.w.sub _ q)
  have hDw : D ∉ wr := fun q => hDfp sti hn' D (W.w.sub _ q) rfl
  by_cases hlt : i < ds.length
  · refine W.w.item i s' _ _ hlt sti fun v h₂ tk₂ hP st₂ hk₂ => ?_
    obtain ⟨d, hd, hr⟩ := W.val i v hlt hP
    have hmem : d ∈ ds := List.mem_of_getElem? hd
    have kk₂ : Keep s₁.heap h₂ := keepW k'.keep hk₂
    have hn₂ : h₂.Ns D m' := hn'.at' fun o e => hk₂ _ o hDw e
    have hacc₂ : h₂.PlainList acc zs.toArray := hacc'.at fun o e => hk₂ _ o haccw e
    have hxl : (compEnvC scope cl D env).kindOf x = some .local := lookup_relabel_local hx
    refine wpAny_assign_Name (wpAny_storeName_local hxl hn₂ (fun h₃ hn₃ hs₃ => ?_) (by simp [compEnvC, relabel, hkind]))
    have kk₃ : Keep s₁.heap h₃ := fun b o e => hs₃.extBut b o (fun q => by subst q; rw [show s₁.heap.get? _ = none from hD0] at e; cases e) (kk₂ b o e)
    have st₃ : St (i + 1) h₃ := W.w.frame _ _ _ st₂ fun b hb o e => hs₃.extBut b o (hDfp st₂ hn₂ b hb) e
    have hacc₃ : h₃.PlainList acc zs.toArray := hacc₂.extBut hs₃.extBut (Ne.symm hDacc)
    have R₃ : Rd G X (compEnvC scope cl D env) ([(x, .sh d)] ++ Γc) h₃ := RR.comp kk₃ hcap hkind _ fun y dy hy => by
      cases List.mem_singleton.mp hy
      exact ⟨v, .inl ⟨hxl, _, hn₃, by simp⟩, hr.keep kk₃⟩
    have hz₃ : ∀ {h}, Reps h X zs (out ++ ((ds.take i).filter t).map f) := hz.scal (scal_all hsc hout)
    refine wpAny_mono ((htests d hmem).val _ X _ R₃) (fun ok s₄' h₄ => ?_) fun _ _ e => e
    obtain ⟨k₄', rfl⟩ := h₄
    have R₄ := R₃.keep k₄'.keep
    have st₄ : St (i + 1) s₄'.heap := W.w.frame _ _ _ st₃ fun b _ o e => k₄'.keep b o e
    have hacc₄ : s₄'.heap.PlainList acc zs.toArray := hacc₃.at fun o e => k₄'.keep _ o e
    have hn₄ := hn₃.keeps k₄'.keep
    have kp₃ : Kp s₁ { s' with heap := h₃, toks := tk₂ + 1 } := by
      obtain ⟨h, tk, e, _⟩ := k'
      rw [e]; exact ⟨h₃, _, rfl, kk₃⟩
    have kp₄ : Kp s₁ s₄' := kp₃.trans k₄'
    have htake : (ds.take (i + 1)).filter t = (ds.take i).filter t ++ (if t d then [d] else []) := by
      rw [List.take_add_one, hd, List.filter_append]
      cases h : t d <;> simp [h]
    cases hb : t d with
    | false =>
      simp only [Bool.false_eq_true, if_false]
      refine ⟨ds.length - (i + 1), by omega, i + 1, _, zs, by omega, rfl, kp₄, st₄, hn₄, hacc₄, ?_⟩
      rw [htake, hb]; simpa using hz₃
    | true =>
      simp only [if_true]
      refine (helt d hmem hb).run R₄ fun y s₅ k₅ R₅ r₅ => ?_
      have hlen : zs.length ≤ sizeLine := by
        rw [hz.length, List.length_append, List.length_map]
        have h1 : ((ds.take i).filter t).length ≤ (ds.take i).length := List.length_filter_le _ _
        have h2 : (ds.take i).length ≤ ds.length := by rw [List.length_take]; omega
        omega
      refine wpAny_list_append_plain (hacc₄.at fun o e => k₅.keep _ o e) (fun h₆ hpl hs₆ => ?_) (by rw [List.size_toArray]; exact hlen)
      have kp₆ : Kp s₁ { s₅ with heap := h₆ } := by
        obtain ⟨h, tk, e, q⟩ := kp₄.trans k₅
        rw [e]
        refine ⟨h₆, tk, rfl, fun b o e' => ?_⟩
        have : s₅.heap.get? b = some o := by rw [e]; exact q b o e'
        exact hs₆.extBut b o (fun q' => by subst q'; rw [ha0] at e'; cases e') this
      refine ⟨ds.length - (i + 1), by omega, i + 1, _, zs ++ [y], by omega, rfl, kp₆, ?_, (hn₄.keeps k₅.keep).sameBut hs₆ hDacc, by simpa using hpl, ?_⟩
      · exact W.w.frame _ _ _ (W.w.frame _ _ _ st₄ fun b _ o e => k₅.keep b o e) fun b hb o e => hs₆.extBut b o (fun q => hafp (q ▸ hb)) e
      · rw [htake, hb]
        simp only [if_true, List.map_append, List.map_cons, List.map_nil, ← List.append_assoc]
        exact hz₃.append (.cons (r₅.scal (hsc d)) .nil)
  · have hin : i = ds.length := by omega
    subst hin
    refine W.w.done s' _ _ sti fun h₂ tk₂ hk₂ => ?_
    rw [List.take_length] at hz
    refine hdone _ m' zs ?_ (hn'.at' fun o e => hk₂ _ o hDw e) (hacc'.at fun o e => hk₂ _ o haccw e) ?_
    · obtain ⟨h, tk, e, q⟩ := k'
      rw [e] at hk₂ ⊢
      exact ⟨h₂, tk₂, rfl, keepW q hk₂⟩
    · exact hz.scal (scal_all hsc hout)

theorem comp_core {elt iter : Expr} {x : Str} {px : Pos} {ifs : List Expr} {scope : Scope} {cl : List (Str × Addr)} {pos : Pos} {ds : List PyData} {I : Addr} {s₁ s₂ : Shared} {Γc : AEnv} (t : PyData → Bool) (f : PyData → PyData)
    {RR : Value → Addr → Result → Shared → Prop}
    (R : Rd G X env Γ s₁.heap) (hcell : ∀ y ∈ scope.names, y.2 ≠ .cell) (hkind : scope.kind = .function) (hx : scope.names.lookup x = some .local) (hcap : Cap env scope cl Γ Γc)
    (htests : ∀ D d, d ∈ ds → PTs G A (compEnvC scope cl D env) ((x, .sh d) :: Γc) ifs (t d))
    (helt : ∀ D d, d ∈ ds → t d = true → PE G A (compEnvC scope cl D env) ((x, .sh d) :: Γc) elt (f d))
    (hsc : ∀ d, Scal (f d)) (hsz : ds.length ≤ sizeLine) (k₂ : Kp s₁ s₂) (hI : Itr G A X I ds s₂.heap s₁.heap)
    (hRR : ∀ acc D s' m', Kp s₁ s' → s₁.heap.get? D = none → s₁.heap.get? acc = none → D ≠ acc → s'.heap.Ns D m' → Rep s'.heap X (.ref acc) (.list ((ds.filter t).map f)) → RR (.ref acc) D (.ok .next) s') :
    wpAny G.M A (newList []) (fun acc s₃ => wpAny G.M A (newFunctionEnv scope env.globals cl [] env.qual none .none (some env)) (fun cenv s₄ =>
      codeAny G.M A (.compStart (.ListComp elt [⟨.Name x px, iter, ifs, 0⟩] scope pos) 0 (.ref I) acc { cenv with scope := relabel scope env }) (RR acc cenv.locals) s₄) E s₃) E s₂ := by
  obtain ⟨fp, wr, P, St, W, st⟩ := hI
  refine wpAny_newObj_type (wpAny_newFunctionEnv hcell (by intro y hy; simp at hy) (fun h₁ hns₁ hsb₁ => ?_) hkind)
  dsimp only at hns₁ hsb₁ ⊢
  generalize ho : ({ cls := .type "list", dict := none, data := .seq ([] : List Value).toArray } : Obj) = o at hns₁ hsb₁ ⊢
  generalize hH2 : s₂.heap.push o = H2 at hns₁ hsb₁ ⊢
  have hC : H2.objs.size = s₂.heap.objs.size + 1 := by rw [← hH2, Heap.size_push]
  have kk : Keep s₂.heap h₁ := fun b o' e => hsb₁.extBut b o' (Nat.ne_of_lt (by rw [hC]; exact Nat.lt_succ_of_lt (Heap.lt_size e))) (Heap.get?_push_of_some _ (hH2 ▸ Heap.get?_push_of_some _ e))
  have hne : s₂.heap.objs.size ≠ H2.objs.size := by rw [hC]; exact Nat.ne_of_lt (Nat.lt_succ_self _)
  have hacc : h₁.PlainList s₂.heap.objs.size ([] : List Value).toArray := ⟨0, hsb₁.extBut _ _ hne (Heap.get?_push_of_some _ (hH2 ▸ (by rw [← ho]; exact Heap.get?_push_size _ rfl)))⟩
  have fresh : ∀ a, s₂.heap.objs.size ≤ a → s₁.heap.get? a = none := fun a ha => by
    cases e : s₁.heap.get? a with
    | none => rfl
    | some o' => exact absurd (Heap.lt_size (k₂.keep a o' e)) (Nat.not_lt.mpr ha)
  have hD0 := fresh H2.objs.size (by rw [hC]; exact Nat.le_succ _)
  have ha0 := fresh s₂.heap.objs.size (Nat.le_refl _)
  have kp : ∀ k, Kp s₁ { s₂ with heap := h₁, toks := k } := fun k => k₂.trans (Kp.mk' kk)
  have hafp : s₂.heap.objs.size ∉ fp := fun q => by
    obtain ⟨o', e, _⟩ := W.obj 0 _ st _ q
    exact absurd (Heap.lt_size e) (Nat.lt_irrefl _)
  have st₁ : St 0 h₁ := W.w.frame _ _ _ st fun b _ o' e => kk b o' e
  have loop : ∀ k, codeAny G.M A (.compLoop (.ListComp elt [⟨.Name x px, iter, ifs, 0⟩] scope pos) 0 (.ref I) (.ref s₂.heap.objs.size) (compEnvC scope cl H2.objs.size env)) (RR (.ref s₂.heap.objs.size) H2.objs.size) { s₂ with heap := h₁, toks := k } := fun k =>
    comp_loop (out := []) (ys := []) t f R hkind hx hcap (htests _) (helt _) hsc (fun d hd => nomatch hd) (by simpa using hsz) W st₁ (kp k) hns₁ hD0 hacc ha0 hafp .nil fun s' m' zs k' hn' hp' hr' =>
      hRR _ _ s' m' k' hD0 ha0 (Ne.symm hne) hn' (.list (R.alive.fresh ha0) hp'.isList (by simpa using hr'))
  exact codeAny_compStart_list (loop _) (W.w.self 0 _ _ _ st₁ (loop _))

theorem PE.comp {elt iter : Expr} {x : Str} {px : Pos} {ifs : List Expr} {scope : Scope} {cl : List (Str × Addr)} {pos : Pos} {ds : List PyData} (Γc : AEnv) (t : PyData → Bool) (f : PyData → PyData)
    (hit : ItE G A env Γ iter ds) (hclos : closureFor scope env = pure cl) (hcap : Cap env scope cl Γ Γc)
    (htests : ∀ D d, d ∈ ds → PTs G A (compEnvC scope cl D env) ((x, .sh d) :: Γc) ifs (t d))
    (helt : ∀ D d, d ∈ ds → t d = true → PE G A (compEnvC scope cl D env) ((x, .sh d) :: Γc) elt (f d))
    (hsc : ∀ d, Scal (f d)) (hsz : ds.length ≤ sizeLine)
    (hcell : ∀ y ∈ scope.names, y.2 ≠ .cell := by decide) (hkind : scope.kind = .function := by rfl)
    (hnames : ∀ y ∈ scope.names, y.2 = .local → scope.names.lookup y.1 = some .local := by decide) (hx : scope.names.lookup x = some .local := by rfl)
    (hs : ∀ x, foldedSetIterable iter env x = pure x := by intro _; rfl) :
    PE G A env Γ (.ListComp elt [⟨.Name x px, iter, ifs, 0⟩] scope pos) (.list ((ds.filter t).map f)) := by
  refine ⟨?_⟩
  intro X s R E
  rw [eval_ListComp]
  refine wpAny_comprehension_free (use := none) rfl hs hclos hkind hnames (wpAny_mono (hit.val E X s R) (fun xv s₁ h₁ => ?_) fun _ _ e => e)
  refine wpAny_mono (h₁.2 E) (fun it s₂ h₂ => ?_) fun _ _ e => e
  obtain ⟨k₂, I, rfl, hI⟩ := h₂
  refine comp_core (RR := fun acc D => compPost G.M A E none _ acc D) t f (R.keep h₁.1.keep) hcell hkind hx hcap htests helt hsc hsz k₂ hI ?_
  intro acc D s' m' k' hD0 ha0 hne hn hr
  refine ⟨m', hn, fun h'' hs'' => ?_⟩
  have kk : Keep s₁.heap h'' := fun b o e => hs''.extBut b o (fun q => by subst q; rw [hD0] at e; cases e) (k'.keep b o e)
  refine ⟨h₁.1.trans ?_, hr.safe fun a o hxa ho hsq => ⟨hs''.extBut a o (fun q => ?_) ho, hxa⟩⟩
  · obtain ⟨h, tk, e, _⟩ := k'
    rw [e]; exact ⟨h'', tk, rfl, kk⟩
  · subst q
    obtain ⟨vs, n, hd⟩ := hsq
    exact ns_ndc hn ho (ndc_seq hd)
end

section
variable {C : Ctx} {Γ Γ' : AEnv} {Post : AFlow → Prop}
theorem SX.assignComp {elt iter : Expr} {x y : Str} {px py : Pos} {ifs : List Expr} {scope : Scope} {cl : List (Str × Addr)} {pos spos : Pos} {ds : List PyData} (Γc : AEnv) (t : PyData → Bool) (f : PyData → PyData)
    (hit : ItE C.G C.A C.env Γ iter ds) (hclos : closureFor scope C.env = pure cl) (hcap : Cap C.env scope cl Γ Γc)
    (htests : ∀ D d, d ∈ ds → PTs C.G C.A (compEnvC scope cl D C.env) ((x, .sh d) :: Γc) ifs (t d))
    (helt : ∀ D d, d ∈ ds → t d = true → PE C.G C.A (compEnvC scope cl D C.env) ((x, .sh d) :: Γc) elt (f d))
    (hsc : ∀ d, Scal (f d)) (hsz : ds.length ≤ sizeLine) (hd : Del y Γ Γ') (h : Post (.next ((y, .sh (.list ((ds.filter t).map f))) :: Γ')))
    (hsw : swapsWith (.ListComp elt [⟨.Name x px, iter, ifs, 0⟩] scope pos) (some (.Name y py)) spos.line C.env = pure true := by rfl)
    (hk : Kind C.env y := by first | exact .inl rfl | exact .inr ⟨rfl, _, rfl⟩)
    (hcell : ∀ y ∈ scope.names, y.2 ≠ .cell := by decide) (hkind : scope.kind = .function := by rfl)
    (hnames : ∀ y ∈ scope.names, y.2 = .local → scope.names.lookup y.1 = some .local := by decide) (hx : scope.names.lookup x = some .local := by rfl)
    (hs : ∀ x, foldedSetIterable iter C.env x = pure x := by intro _; rfl) :
    SX C Γ (.Assign [.Name y py] (.ListComp elt [⟨.Name x px, iter, ifs, 0⟩] scope pos) spos) Post := by
  refine ⟨?_⟩
  intro E ol m cm s F
  rw [exec_Assign_Name_used _ _ _ _ hsw]
  refine wpAny_bind (wpAny_standAt (wpAny_bind ?_))
  show wpAny C.G.M C.A (do let _ ← comprehension (.ListComp elt [⟨.Name x px, iter, ifs, 0⟩] scope pos) scope C.env _ (newList []) false (eval iter C.env) (some (PySem.assign (.Name y py) C.env))) _ _ s
  have R := F.rd
  refine wpAny_bind (wpAny_mono (wpAny_comprehension_free (use := some (PySem.assign (.Name y py) C.env)) (Q := fun _ s' => Out C.G C.s₀ C.X₀ C.env Post ol s .next s') rfl hs hclos hkind hnames (wpAny_mono (hit.val E _ s R) (fun xv s₁ h₁ => ?_) fun _ _ e => e))
    (fun _ s' hq => wpAny_pure (wpAny_pure hq)) fun _ _ e => e)
  refine wpAny_mono (h₁.2 E) (fun it s₂ h₂ => ?_) fun _ _ e => e
  obtain ⟨k₂, I, rfl, hI⟩ := h₂
  refine comp_core (RR := fun acc D => compPost C.G.M C.A E (some (PySem.assign (.Name y py) C.env)) _ acc D) t f (R.keep h₁.1.keep) hcell hkind hx hcap htests helt hsc hsz k₂ hI ?_
  intro acc D s' m' k' hD0 ha0 hne hn hr
  have F₁ := F.keep h₁.1
  have F' := F₁.keep k'
  have hDL : D ≠ C.env.locals := by
    rintro rfl
    obtain ⟨o, _, _, e, _⟩ := F₁.inn.toInCall.ns
    rw [hD0] at e; cases e
  have hDc : ∀ k c, C.env.cells.lookup k = some c → D ≠ c := by
    rintro k c hc rfl
    obtain ⟨o, e, _⟩ := F₁.inn.cell k D hc
    rw [hD0] at e; cases e
  have hDs : C.s₀.heap.get? D = none := by
    cases e : C.s₀.heap.get? D with
    | none => rfl
    | some o => have := F₁.keep₀ D o e; rw [hD0] at this; cases this
  show wpAny C.G.M C.A (PySem.assign (.Name y py) C.env (.ref acc)) _ E s'
  refine wpAny_assign_Name (F'.storeS hr hk hd fun s'' m'' cm'' e'' only F'' => ?_)
  have hn'' : s''.heap.Ns D m' := hn.at' fun o e => (only D hDL hDc).trans e
  refine ⟨m', hn'', fun h'' hs'' => ?_⟩
  have hkk : ∀ b o, b ∉ [D] → s''.heap.get? b = some o → h''.get? b = some o := fun b o hb e => hs''.extBut b o (fun q => hb (by simp [q])) e
  have F3 : FrameOk C.G C.s₀ C.X₀ C.env _ ol m'' cm'' { s'' with heap := h'', toks := s''.toks } := F''.change (wr := [D]) hkk (fun q => hDL (List.mem_singleton.mp q).symm) (fun k c hc q => hDc k c hc (List.mem_singleton.mp q).symm)
    (fun b hb o e vs n hd' => by rw [List.mem_singleton.mp hb] at e; exact ns_ndc hn'' e (ndc_seq hd')) (fun b hb => by rw [List.mem_singleton.mp hb]; exact hDs)
  have e1 : Eff (XO C.X₀ ol) s₁ s'' := (Eff.of_kp k').trans e'' fun _ q => .inl q
  have e2 : Eff (XO C.X₀ ol) s₁ { s'' with heap := h'', toks := s''.toks } := e1.walk hkk (fun b hb => by rw [List.mem_singleton.mp hb]; exact hD0)
  exact ⟨(Eff.of_kp h₁.1).trans e2 fun _ q => .inl q, _, ol, m'', cm'', h, F3, fun _ e => .inl e⟩
end
end Mine

/-! text VL -/
namespace Mine
open PySem

noncomputable abbrev flatE (elt iter iter2 : Expr) (x y : Str) (px py : Pos) (scope : Scope) (pos : Pos) : Expr := .ListComp elt [⟨.Name x px, iter, [], 0⟩, ⟨.Name y py, iter2, [], 0⟩] scope pos

theorem compTurn2_0 (elt iter iter2 : Expr) (x y : Str) (px py : Pos) (scope : Scope) (pos : Pos) (it acc : Value) (env : Env) :
    compTurn (flatE elt iter iter2 x y px py scope pos) 0 it acc env = (standAt iter.pos >>= fun _ => pyNext it >>= fun r => match r with
      | none => pure (.done .next)
      | some v => letOwnedTupleGo (.Name x px) it v >>= fun _ => assign (.Name x px) env v >>= fun _ =>
        eval iter2 env >>= fun xv => standAt iter2.pos >>= fun _ => foldedSetIterable iter2 env xv >>= fun xv => holding [xv] (pyIter xv) >>= fun it2 =>
          runOwn (.compStart (flatE elt iter iter2 x y px py scope pos) 1 it2 acc env) env >>= fun _ =>
            again (.compLoop (flatE elt iter iter2 x y px py scope pos) 0 it acc env)) := by rfl

theorem compTurn2_1 (elt iter iter2 : Expr) (x y : Str) (px py : Pos) (scope : Scope) (pos : Pos) (it acc : Value) (env : Env) :
    compTurn (flatE elt iter iter2 x y px py scope pos) 1 it acc env = (standAt iter2.pos >>= fun _ => pyNext it >>= fun r => match r with
      | none => pure (.done .next)
      | some v => letOwnedTupleGo (.Name y py) it v >>= fun _ => assign (.Name y py) env v >>= fun _ =>
        (eval elt env >>= fun x => call (.builtin "list.append") [acc, x] >>= fun _ => pure ()) >>= fun _ =>
          again (.compLoop (flatE elt iter iter2 x y px py scope pos) 1 it acc env)) := by rfl

section
variable {G : Glo} {A : Around} {env : Env} {Γ : AEnv} {X : Addr → Prop} {s : Shared} {E : Value → Shared → Prop} {n : Nat}

theorem codeAny_compStart2_1 {elt iter iter2 : Expr} {x y : Str} {px py : Pos} {scope : Scope} {pos : Pos} {it acc : Value} {cenv : Env} {R : Result → Shared → Prop}
    (h0 : codeAny G.M A (.compLoop (flatE elt iter iter2 x y px py scope pos) 1 it acc cenv) R s)
    (h : wpAny G.M A (pyIter it) (fun it' s' => codeAny G.M A (.compLoop (flatE elt iter iter2 x y px py scope pos) 1 it' acc cenv) R s') (notedBy G.M A cenv fun x s' => R (.error x) s') s) :
    codeAny G.M A (.compStart (flatE elt iter iter2 x y px py scope pos) 1 it acc cenv) R s := by
  refine codeAny_of_tree ?_
  show wpAny _ _ ((compStart (flatE elt iter iter2 x y px py scope pos) 1 it acc cenv).onRaise (fun x => do noteFrame x cenv; standAt theWindowsPlace)) _ _ s
  refine wpAny_notedAt ?_
  unfold compStart
  show wpAny _ _ (ask >>= _) _ _ s
  refine wpAny_bind (wpAny_askSetting (wpAny_ite ?_))
  split
  · first
      | exact wpAny_bind (wpAny_pure (wpAny_pure (And.intro rfl h0)))
      | exact wpAny_pure (And.intro rfl h0)
  · first
      | exact wpAny_bind (wpAny_rule (wpAny_bind (wpAny_standAt (wpAny_bind (wpAny_mono h (fun it' s' h' => wpAny_pure (And.intro rfl h')) fun _ _ x => x)))))
      | (refine wpAny_bind (wpAny_rule ?_); show wpAny _ _ (standAt iter2.pos >>= _) _ _ s; exact wpAny_bind (wpAny_standAt (wpAny_bind (wpAny_mono h (fun it' s' h' => wpAny_pure (And.intro rfl h')) fun _ _ x => x))))

/-- the inner for: the items of one list (all plain) go behind what acc holds -/
theorem flat_inner {iter : Expr} {x y : Str} {px py pe pi : Pos} {scope : Scope} {pos : Pos} {D acc ax : Addr} {cenv : Env} {s₁ : Shared} {mD : Str → Option Value} {ys vs : List Value} {out es : List PyData} {R : Result → Shared → Prop}
    (hh : A.handled = none) (hfun : cenv.scope.kind = .function) (hloc : cenv.locals = D) (hy : cenv.kindOf y = some .local) (hyd : (y == ("__debug__" : Str)) = false)
    (hsc : ∀ d ∈ out ++ es, Scal d) (hsz : (out ++ es).length ≤ sizeLine) (hr : Reps s₁.heap X vs es)
    (hD : s₁.heap.Ns D mD) (hacc : s₁.heap.PlainList acc ys.toArray) (hys : Reps s₁.heap X ys out) (hl : s₁.heap.IsList ax vs.toArray) (hax : ax ≠ acc)
    (hdone : ∀ s' m' zs, (∃ h tk, s' = { s₁ with heap := h, toks := tk }) → (∀ b o, b ≠ D → b ≠ acc → s₁.heap.get? b = some o → s'.heap.get? b = some o) → s'.heap.Ns D m' → s'.heap.PlainList acc zs.toArray → Reps s'.heap X zs (out ++ es) → R (.ok .next) s') :
    wpAny G.M A (pyIter (.ref ax)) (fun it s₂ => codeAny G.M A (.compStart (flatE (.Name y pe) iter (.Name x pi) x y px py scope pos) 1 it (.ref acc) cenv) R s₂) E s₁ := by
  refine wpAny_pyIter_list hl ?_
  have hne : ax ≠ s₁.heap.objs.size := by obtain ⟨o, ho, _⟩ := hl; exact Nat.ne_of_lt (Heap.lt_size ho)
  have hIacc : acc ≠ s₁.heap.objs.size := by obtain ⟨n, e⟩ := hacc; exact Nat.ne_of_lt (Heap.lt_size e)
  have hID : D ≠ s₁.heap.objs.size := Nat.ne_of_lt hD.lt
  have hDacc : D ≠ acc := by rintro rfl; obtain ⟨n, e⟩ := hacc; exact ns_ndc hD e (ndc_seq rfl)
  have haxD : ax ≠ D := by rintro rfl; obtain ⟨o, e, _, n, hd⟩ := hl; exact ns_ndc hD e (ndc_seq hd)
  generalize hI : s₁.heap.objs.size = I at hne hIacc hID
  have hI0 : s₁.heap.get? I = none := hI ▸ get?_size _
  generalize hob : ({ cls := .type "list_iterator", data := .fields #[.ref ax, .int 0 0] } : Obj) = ob
  have hit0 : (s₁.heap.push ob).IsListIter I ax 0 := ⟨ob, hI ▸ Heap.get?_push_size _ (by subst hob; rfl), by subst hob; rfl, by subst hob; rfl⟩
  have kp : Keep s₁.heap (s₁.heap.push ob) := Keep.push _ _
  have loop : codeAny G.M A (.compLoop (flatE (.Name y pe) iter (.Name x pi) x y px py scope pos) 1 (.ref I) (.ref acc) cenv) R { s₁ with heap := s₁.heap.push ob } := by
    refine codeAny_loop rfl (fun k s' => ∃ i m' zs, i ≤ vs.length ∧ k = vs.length - i ∧ (∃ h tk, s' = { s₁ with heap := h, toks := tk }) ∧ s'.heap.IsListIter I ax i ∧ s'.heap.IsList ax vs.toArray ∧
      (∀ b o, b ≠ D → b ≠ acc → s₁.heap.get? b = some o → s'.heap.get? b = some o) ∧ s'.heap.Ns D m' ∧ s'.heap.PlainList acc zs.toArray ∧ Reps s'.heap X zs (out ++ es.take i)) ?_ (vs.length - 0)
      ⟨0, mD, ys, Nat.zero_le _, rfl, ⟨_, s₁.toks, rfl⟩, hit0, hl.push _, fun b o _ _ e => kp b o e, hD.push _, ⟨_, kp _ _ hacc.choose_spec⟩, by simpa using hys.keep kp⟩
    rintro k s' ⟨i, m', zs, hi, rfl, hrest, hit, hl', hk, hn', hacc', hz⟩
    have hlen : vs.length = es.length := hr.length
    show wpAny _ A ((compTurn (flatE (.Name y pe) iter (.Name x pi) x y px py scope pos) 1 (.ref I) (.ref acc) cenv).onRaise (fun x => do noteFrame x cenv; theTreesLotGoes x)) _ _ s'
    refine wpAny_noted ?_
    rw [compTurn2_1]
    refine wpAny_bind (wpAny_standAt (wpAny_bind ?_))
    by_cases hlt : i < vs.length
    · refine wpAny_pyNext_list_item hit hl' (x := vs[i]) (by simp [hlt]) fun h₂ hit₂ hs₂ => ?_
      obtain ⟨d, hd, hrd⟩ := hr.getV i vs[i] (by simp [hlt])
      have hdm : d ∈ es := List.mem_of_getElem? hd
      have hds : Scal d := hsc d (List.mem_append.mpr (.inr hdm))
      refine wpAny_bind (wpAny_pure ?_)
      have hn₂ : h₂.Ns D m' := hn'.sameBut hs₂ hID
      refine wpAny_bind (wpAny_assign_Name (wpAny_storeName_local hy (hloc ▸ hn₂) (fun h₃ hn₃ hs₃ => ?_) (by rw [hfun]; rfl)))
      rw [hloc] at hn₃ hs₃
      refine wpAny_bind (wpAny_bind (wpAny_Name (wpAny_loadName_local (v := vs[i]) hfun hy (hloc ▸ hn₃) (by simp) ?_) hyd))
      have hacc₃ : h₃.PlainList acc zs.toArray := (hacc'.extBut hs₂.extBut hIacc).extBut hs₃.extBut (Ne.symm hDacc)
      have hzl : zs.length ≤ sizeLine := by
        rw [hz.length, List.length_append, List.length_take]
        rw [List.length_append] at hsz
        omega
      refine wpAny_bind (wpAny_list_append_plain hacc₃ (fun h₄ hpl hs₄ => ?_) (by rw [List.size_toArray]; exact hzl))
      refine wpAny_pure (wpAny_pure ⟨rfl, vs.length - (i + 1), by omega, i + 1, _, zs ++ [vs[i]], by omega, rfl, ?_, ?_, ?_, fun b o h1 h2 e => ?_, hn₃.sameBut hs₄ hDacc, by simpa using hpl, ?_⟩)
      · obtain ⟨h, tk, e⟩ := hrest
        rw [e]; exact ⟨h₄, _, rfl⟩
      · exact (hit₂.extBut hs₃.extBut (Ne.symm hID)).extBut hs₄.extBut (Ne.symm hIacc)
      · exact ((hl'.extBut hs₂.extBut hne).extBut hs₃.extBut haxD).extBut hs₄.extBut hax
      · exact hs₄.extBut b o h2 (hs₃.extBut b o h1 (hs₂.extBut b o (fun q => by subst q; rw [hI0] at e; cases e) (hk b o h1 h2 e)))
      · have ht : es.take (i + 1) = es.take i ++ [d] := by rw [List.take_add_one, hd]; rfl
        rw [ht, ← List.append_assoc]
        refine Reps.append (hz.scal fun d' hd' => hsc d' ?_) (.cons (hrd.scal hds) .nil)
        rcases List.mem_append.mp hd' with q | q
        · exact List.mem_append.mpr (.inl q)
        · exact List.mem_append.mpr (.inr (List.mem_of_mem_take q))
    · have hin : i = vs.length := by omega
      subst hin
      refine wpAny_pyNext_list_end hh hit hl' (by simp) fun h₂ he₂ => ?_
      refine wpAny_pure ?_
      refine hdone _ m' zs ?_ (fun b o h1 h2 e => he₂ b o (fun q => by subst q; rw [hI0] at e; cases e) (hk b o h1 h2 e)) (hn'.extBut he₂ hID) (hacc'.extBut he₂ hIacc) ?_
      · obtain ⟨h, tk, e⟩ := hrest
        rw [e]; exact ⟨h₂, tk, rfl⟩
      · rw [hlen, List.take_length] at hz
        exact hz.scal hsc
  exact codeAny_compStart2_1 loop (wpAny_pyIter_listiter hit0 loop)

theorem PE.flat {iter : Expr} {x y : Str} {px py pe pi : Pos} {scope : Scope} {cl : List (Str × Addr)} {pos : Pos} {L : List (List PyData)} (hA : AOk n A)
    (hit : ItE G A env Γ iter (L.map .list)) (hclos : closureFor scope env = pure cl) (hsc : ∀ es ∈ L, ∀ d ∈ es, Scal d) (hsz : L.flatten.length ≤ sizeLine) (hxy : x ≠ y)
    (hcell : ∀ y ∈ scope.names, y.2 ≠ .cell := by decide) (hkind : scope.kind = .function := by rfl)
    (hnames : ∀ y ∈ scope.names, y.2 = .local → scope.names.lookup y.1 = some .local := by decide) (hx : scope.names.lookup x = some .local := by rfl) (hy : scope.names.lookup y = some .local := by rfl)
    (hxd : (x == ("__debug__" : Str)) = false := by decide) (hyd : (y == ("__debug__" : Str)) = false := by decide)
    (hs : ∀ x, foldedSetIterable iter env x = pure x := by intro _; rfl) :
    PE G A env Γ (flatE (.Name y pe) iter (.Name x pi) x y px py scope pos) (.list L.flatten) := by
  refine ⟨?_⟩
  intro X s R E
  show wpAny G.M A (eval (.ListComp (.Name y pe) [⟨.Name x px, iter, [], 0⟩, ⟨.Name y py, .Name x pi, [], 0⟩] scope pos) env) _ E s
  rw [eval_ListComp]
  refine wpAny_comprehension_free (use := none) rfl hs hclos hkind hnames (wpAny_mono (hit.val E X s R) (fun xv s₁ h₁ => ?_) fun _ _ e => e)
  obtain ⟨k₁, h₁⟩ := h₁
  refine wpAny_mono (h₁ E) (fun it s₂ h₂ => ?_) fun _ _ e => e
  obtain ⟨k₂, I, rfl, fp, wr, P, St, W, st⟩ := h₂
  have R₁ := R.keep k₁.keep
  refine wpAny_newObj_type (wpAny_newFunctionEnv hcell (by intro y hy; simp at hy) (fun h₁ hns₁ hsb₁ => ?_) hkind)
  dsimp only at hns₁ hsb₁ ⊢
  generalize ho : ({ cls := .type "list", dict := none, data := .seq ([] : List Value).toArray } : Obj) = o at hns₁ hsb₁ ⊢
  generalize hH2 : s₂.heap.push o = H2 at hns₁ hsb₁ ⊢
  have hC : H2.objs.size = s₂.heap.objs.size + 1 := by rw [← hH2, Heap.size_push]
  have kk : Keep s₂.heap h₁ := fun b o' e => hsb₁.extBut b o' (Nat.ne_of_lt (by rw [hC]; exact Nat.lt_succ_of_lt (Heap.lt_size e))) (Heap.get?_push_of_some _ (hH2 ▸ Heap.get?_push_of_some _ e))
  have hne : s₂.heap.objs.size ≠ H2.objs.size := by rw [hC]; exact Nat.ne_of_lt (Nat.lt_succ_self _)
  have hacc0 : h₁.PlainList s₂.heap.objs.size ([] : List Value).toArray := ⟨0, hsb₁.extBut _ _ hne (Heap.get?_push_of_some _ (hH2 ▸ (by rw [← ho]; exact Heap.get?_push_size _ rfl)))⟩
  have fresh : ∀ a, s₂.heap.objs.size ≤ a → s₁.heap.get? a = none := fun a ha => by
    cases e : s₁.heap.get? a with
    | none => rfl
    | some o' => exact absurd (Heap.lt_size (k₂.keep a o' e)) (Nat.not_lt.mpr ha)
  have hD0 := fresh H2.objs.size (by rw [hC]; exact Nat.le_succ _)
  have ha0 := fresh s₂.heap.objs.size (Nat.le_refl _)
  have kp : ∀ k, Kp s₁ { s₂ with heap := h₁, toks := k } := fun k => k₂.trans (Kp.mk' kk)
  have hafp : s₂.heap.objs.size ∉ fp := fun q => by
    obtain ⟨o', e, _⟩ := W.obj 0 _ st _ q
    exact absurd (Heap.lt_size e) (Nat.lt_irrefl _)
  have st₁ : St 0 h₁ := W.w.frame _ _ _ st fun b _ o' e => kk b o' e
  generalize hacc : s₂.heap.objs.size = acc at hne hacc0 ha0 hafp ⊢
  generalize hDD : H2.objs.size = D at hne hns₁ hD0 ⊢
  have hxl : (compEnvC scope cl D env).kindOf x = some .local := lookup_relabel_local hx
  have hyl : (compEnvC scope cl D env).kindOf y = some .local := lookup_relabel_local hy
  have hfun : (compEnvC scope cl D env).scope.kind = .function := by simp [compEnvC, relabel, hkind]
  have hcpu : ∀ (s' : Shared) (m' : Str → Option Value), Kp s₁ s' → s'.heap.Ns D m' → Rep s'.heap X (.ref acc) (.list L.flatten) → compPost G.M A E none (fun v s' => Kp s s' ∧ Rep s'.heap X v (.list L.flatten)) (.ref acc) D (.ok .next) s' := by
    intro s' m' k' hn hr
    refine ⟨m', hn, fun h'' hs'' => ?_⟩
    have kk : Keep s₁.heap h'' := fun b o e => hs''.extBut b o (fun q => by subst q; rw [hD0] at e; cases e) (k'.keep b o e)
    refine ⟨k₁.trans ?_, hr.safe fun a o hxa ho hsq => ⟨hs''.extBut a o (fun q => ?_) ho, hxa⟩⟩
    · obtain ⟨h, tk, e, _⟩ := k'
      rw [e]; exact ⟨h'', tk, rfl, kk⟩
    · subst q
      obtain ⟨vs, n, hd⟩ := hsq
      exact ns_ndc hn ho (ndc_seq hd)
  have loop : ∀ k, codeAny G.M A (.compLoop (flatE (.Name y pe) iter (.Name x pi) x y px py scope pos) 0 (.ref I) (.ref acc) (compEnvC scope cl D env)) (compPost G.M A E none (fun v s' => Kp s s' ∧ Rep s'.heap X v (.list L.flatten)) (.ref acc) D) { s₂ with heap := h₁, toks := k } := by
    intro k0
    have hlenL : (L.map PyData.list).length = L.length := List.length_map _
    refine codeAny_loop rfl (fun k s' => ∃ i m' zs, i ≤ L.length ∧ k = L.length - i ∧ Kp s₁ s' ∧ St i s'.heap ∧ s'.heap.Ns D m' ∧ s'.heap.PlainList acc zs.toArray ∧ Reps s'.heap X zs ((L.take i).flatten)) ?_ (L.length - 0)
      ⟨0, _, [], Nat.zero_le _, rfl, kp k0, st₁, hns₁, hacc0, by simpa using .nil⟩
    rintro k s' ⟨i, m', zs, hi, rfl, k', sti, hn', hacc', hz⟩
    have hDfp : ∀ {j : Nat} {h : Heap} {m : Str → Option Value}, St j h → h.Ns D m → ∀ b ∈ fp, b ≠ D := fun stj hn b hb e => by
      obtain ⟨o, ho, hnd⟩ := W.obj _ _ stj b hb
      subst e; exact ns_ndc hn ho hnd
    have haccw : acc ∉ wr := fun q => hafp (W.w.sub _ q)
    have hDw : D ∉ wr := fun q => hDfp sti hn' D (W.w.sub _ q) rfl
    have keepW : ∀ {h h' : Heap}, Keep s₁.heap h → (∀ b o, b ∉ wr → h.get? b = some o → h'.get? b = some o) → Keep s₁.heap h' := fun ka hk b o e => hk b o (fun q => by rw [W.fresh b q] at e; cases e) (ka b o e)
    have hscL : ∀ d ∈ L.flatten, Scal d := fun d hd => by obtain ⟨es, h1, h2⟩ := List.mem_flatten.mp hd; exact hsc es h1 d h2
    show wpAny _ A ((compTurn (flatE (.Name y pe) iter (.Name x pi) x y px py scope pos) 0 (.ref I) (.ref acc) (compEnvC scope cl D env)).onRaise (fun x => do noteFrame x (compEnvC scope cl D env); theTreesLotGoes x)) _ _ s'
    refine wpAny_noted ?_
    rw [compTurn2_0]
    refine wpAny_bind (wpAny_standAt (wpAny_bind ?_))
    by_cases hlt : i < L.length
    · refine W.w.item i s' _ _ (by rw [hlenL]; exact hlt) sti fun v h₂ tk₂ hP st₂ hk₂ => ?_
      obtain ⟨d, hd, hr⟩ := W.val i v (by rw [hlenL]; exact hlt) hP
      have hd' : d = .list L[i] := by rw [List.getElem?_map, List.getElem?_eq_getElem hlt] at hd; simpa using hd.symm
      subst hd'
      have hLi : ∀ d ∈ L[i], Scal d := hsc _ (List.getElem_mem hlt)
      have htake : (L.take (i + 1)).flatten = (L.take i).flatten ++ L[i] := by rw [List.take_add_one, List.getElem?_eq_getElem hlt, List.flatten_append]; simp
      have hsub : ∀ d ∈ (L.take i).flatten ++ L[i], Scal d := fun d hd => by
        rcases List.mem_append.mp hd with q | q
        · obtain ⟨es, h1, h2⟩ := List.mem_flatten.mp q; exact hsc es (List.mem_of_mem_take h1) d h2
        · exact hLi d q
      have hlen2 : ((L.take i).flatten ++ L[i]).length ≤ sizeLine := by
        rw [← htake]
        refine Nat.le_trans ?_ hsz
        conv => rhs; rw [← List.take_append_drop (i + 1) L, List.flatten_append, List.length_append]
        exact Nat.le_add_right _ _
      have kk₂ : Keep s₁.heap h₂ := keepW k'.keep hk₂
      have hn₂ : h₂.Ns D m' := hn'.at' fun o e => hk₂ _ o hDw e
      have hacc₂ : h₂.PlainList acc zs.toArray := hacc'.at fun o e => hk₂ _ o haccw e
      refine wpAny_bind (wpAny_pure ?_)
      refine wpAny_bind (wpAny_assign_Name (wpAny_storeName_local hxl hn₂ (fun h₃ hn₃ hs₃ => ?_) (by simp [compEnvC, relabel, hkind])))
      have kk₃ : Keep s₁.heap h₃ := fun b o e => hs₃.extBut b o (fun q => by subst q; rw [show s₁.heap.get? _ = none from hD0] at e; cases e) (kk₂ b o e)
      have st₃ : St (i + 1) h₃ := W.w.frame _ _ _ st₂ fun b hb o e => hs₃.extBut b o (hDfp st₂ hn₂ b hb) e
      have hacc₃ : h₃.PlainList acc zs.toArray := hacc₂.extBut hs₃.extBut (Ne.symm (fun q => hne q.symm))
      have hr₃ := hr.keep kk₃
      refine wpAny_bind (wpAny_Name (wpAny_loadName_local (v := v) hfun hxl hn₃ (by simp) ?_) hxd)
      refine wpAny_bind (wpAny_standAt (wpAny_bind (wpAny_pure (wpAny_bind (wpAny_holding ?_)))))
      have hr₁ := hr
      cases hr₃ with
      | @list ax vs _ hxa hl rr =>
        have hax : ax ≠ acc := by
          cases hr₁ with
          | list _ hl₁ _ => obtain ⟨o, e, _⟩ := hl₁; rintro rfl; rw [ha0] at e; cases e
        have kp₃ : ∀ k, Kp s₁ { s' with heap := h₃, toks := k } := fun k => by
          obtain ⟨h, tk, e, _⟩ := k'
          rw [e]; exact ⟨h₃, k, rfl, kk₃⟩
        have e1 : A.mark none = A := rfl
        refine wpAny_mono (flat_inner (G := G) (A := A) (R := fun r s'' => match r with | .ok f => wpAny G.M A (again (.compLoop (flatE (.Name y pe) iter (.Name x pi) x y px py scope pos) 0 (.ref I) (.ref acc) (compEnvC scope cl D env))) _ _ s'' | .error e => cameBackBy G.M A (compEnvC scope cl D env) _ e s'')
          hA.1 hfun rfl hyl hyd hsub hlen2 rr hn₃ hacc₃ (hz.scal fun d hd => hsub d (List.mem_append.mpr (.inl hd))) hl hax ?_) (fun it2 s₄ h₄ => wpAny_bind (wpAny_runOwn h₄)) fun _ _ e => e
        intro s₅ m₅ zs₅ hrest₅ hk₅ hn₅ hacc₅ hz₅
        have kp₅ : Kp s₁ s₅ := by
          obtain ⟨h, tk, e⟩ := hrest₅
          obtain ⟨h', tk', e', _⟩ := kp₃ (tk₂ + 1)
          rw [e] at hk₅ ⊢
          obtain ⟨h'', tk'', e'', _⟩ := k'
          rw [e'']
          refine ⟨h, tk, rfl, fun b o q => hk₅ b o (fun qq => ?_) (fun qq => ?_) (kk₃ b o q)⟩
          · subst qq; rw [hD0] at q; cases q
          · subst qq; rw [ha0] at q; cases q
        refine wpAny_pure ⟨rfl, L.length - (i + 1), by omega, i + 1, m₅, zs₅, by omega, rfl, kp₅, ?_, hn₅, hacc₅, by rw [htake]; exact hz₅⟩
        exact W.w.frame _ _ _ st₃ fun b hb o e => hk₅ b o (hDfp st₃ hn₃ b hb) (fun q => hafp (q ▸ hb)) e
    · have hin : i = L.length := by omega
      subst hin
      refine W.w.done s' _ _ (by rw [hlenL]; exact sti) fun h₂ tk₂ hk₂ => ?_
      rw [List.take_length] at hz
      refine wpAny_pure (hcpu _ m' ?_ (hn'.at' fun o e => hk₂ _ o hDw e) (.list (R₁.alive.fresh ha0) (hacc'.at fun o e => hk₂ _ o haccw e).isList (hz.scal hscL)))
      obtain ⟨h, tk, e, q⟩ := k'
      rw [e] at hk₂ ⊢
      exact ⟨h₂, tk₂, rfl, keepW q hk₂⟩
  exact codeAny_compStart_list (loop _) (W.w.self 0 _ _ _ st₁ (loop _))
end
end Mine

/-! text VJ -/
namespace Mine
open PySem

noncomputable def DefAt (G : Glo) (name : Str) (params : Arguments) (body : List Stmt) (scope : Scope) : Prop :=
  ∃ a o pm code doc, G.mg name = some (.ref a) ∧ G.h₀.get? a = some o ∧ o.data = .func (Calls.docDef name params body scope pm code doc) ∧ G.h₀.CodeRec code name

noncomputable def Rets (r : PyData) : AFlow → Prop
  | .next _ => False
  | .ret d => d = r

noncomputable def shs : List Str → List PyData → AEnv
  | x :: xs, d :: ds => (x, .sh d) :: shs xs ds
  | _, _ => []

noncomputable def Binds (name : Str) (params : Arguments) (body : List Stmt) (scope : Scope) (names : List Str) : Prop :=
  ∀ (pm code doc : Value) (vs : List Value), vs.length = names.length → bindArgs (Calls.docDef name params body scope pm code doc) ⟨vs, []⟩ = pure (names.zip vs)

section
variable {G : Glo}

theorem bindL_notin {kindOf : Str → Option NameKind} : ∀ (binds : List (Str × Value)) (m : Str → Option Value) (x : Str), (∀ p ∈ binds, p.1 ≠ x) → bindL kindOf binds m x = m x
  | [], _, _, _ => rfl
  | (n, v) :: r, m, x, h => by
    unfold bindL
    rw [bindL_notin r _ x fun p hp => h p (List.mem_cons_of_mem _ hp)]
    split
    · show (if x = n then some v else m x) = m x
      rw [if_neg (Ne.symm (h (n, v) List.mem_cons_self))]
    · rfl
theorem bindC_notin {kindOf : Str → Option NameKind} : ∀ (binds : List (Str × Value)) (m : Str → Option Value) (x : Str), (∀ p ∈ binds, p.1 ≠ x) → bindC kindOf binds m x = m x
  | [], _, _, _ => rfl
  | (n, v) :: r, m, x, h => by
    unfold bindC
    rw [bindC_notin r _ x fun p hp => h p (List.mem_cons_of_mem _ hp)]
    split
    · rfl
    · show (if x = n then some v else m x) = m x
      rw [if_neg (Ne.symm (h (n, v) List.mem_cons_self))]

theorem binds_env {env : Env} {h : Heap} {X : Addr → Prop} : ∀ (names : List Str) (vs : List Value) (ds : List PyData) (m cm : Str → Option Value), names.Nodup → (∀ x ∈ names, Kind env x) → Reps h X vs ds →
    ∀ x d, (x, Slot.sh d) ∈ shs names ds → ∃ v, ((env.kindOf x = some .local ∧ bindL env.kindOf (names.zip vs) m x = some v) ∨ (env.kindOf x = some .cell ∧ (∃ c, env.cells.lookup x = some c) ∧ bindC env.kindOf (names.zip vs) cm x = some v)) ∧ Rep h X v d
  | [], _, _, _, _, _, _, _, x, d, hx => by cases hx
  | n :: names, _, _, m, cm, hnd, hk, .nil, x, d, hx => by cases hx
  | n :: names, v :: vs, d' :: ds, m, cm, hnd, hk, .cons a r, x, d, hx => by
    obtain ⟨h1, h2⟩ := List.nodup_cons.mp hnd
    have hz : ∀ p ∈ names.zip vs, p.1 ≠ n := fun p hp e => h1 (e ▸ (List.of_mem_zip hp).1)
    rcases List.mem_cons.mp hx with e | hx
    · cases e
      refine ⟨v, ?_, a⟩
      rcases hk n List.mem_cons_self with q | ⟨q, c⟩
      · left
        refine ⟨q, ?_⟩
        show bindL env.kindOf ((n, v) :: names.zip vs) m n = _
        unfold bindL
        rw [bindL_notin _ _ _ hz, if_pos q]
        simp
      · right
        refine ⟨q, c, ?_⟩
        show bindC env.kindOf ((n, v) :: names.zip vs) cm n = _
        unfold bindC
        rw [bindC_notin _ _ _ hz, if_neg (by rw [q]; decide)]
        simp
    · exact binds_env names vs ds _ _ h2 (fun y hy => hk y (List.mem_cons_of_mem _ hy)) r x d hx
theorem shs_ow : ∀ (names : List Str) (ds : List PyData) (x : Str) (es : List PyData), (x, Slot.ow es) ∉ shs names ds
  | [], _, _, _, h => by cases h
  | _ :: _, [], _, _, h => by cases h
  | _ :: names, _ :: ds, x, es, h => by
    rcases List.mem_cons.mp h with e | h
    · cases e
    · exact shs_ow names ds x es h

noncomputable def fenv (scope : Scope) (name : Str) (L a : Addr) (code : Value) : Env := newEnv scope L mainGlobals (cellsFrom (L + 1) scope.names []) (name ++ ".<locals>.") (some a) code none builtinsNs

theorem Fn.of {n : Nat} {name : Str} {params : Arguments} {body : List Stmt} {scope : Scope} {P : List PyData → PyData → Prop} (names : List Str) (hD : DefAt G name params body scope) (hb : Binds name params body scope names)
    (hlen : ∀ ds r, P ds r → ds.length = names.length)
    (hbody : ∀ ds r, P ds r → ∀ (A : Around) (s₀ : Shared) (X₀ : Addr → Prop) (L a : Addr) (code : Value), AOk n A → SW ⟨G, A, s₀, X₀, fenv scope name L a code⟩ (shs names ds) body (Rets r))
    (hnd : names.Nodup := by decide) (hkind : ∀ (L a : Addr) (code : Value), ∀ x ∈ names, Kind (fenv scope name L a code) x)
    (hco : scope.isCoroutine = false := by rfl) (hgen : scope.isGenerator = false := by rfl) (hk : scope.kind = .function := by rfl) : Fn G (n + 1) name P := by
  obtain ⟨a, o, pm, code, doc, h1, h2, h3, h4⟩ := hD
  refine ⟨a, o, _, h1, h2, h3, ?_⟩
  intro A X s vs ds r hA hbase halive hoff hrep hP E
  have hl := hlen ds r hP
  have hvl : vs.length = names.length := hrep.length.trans hl
  refine wpAny_call (codeAny_call_cells (fd := Calls.docDef name params body scope pm code doc) (body := body) (by have := hA.2.1; unfold recursionLimit; omega) (hbase _ _ h2) h3 (G.lim.keeps hbase) (h4.keeps hbase) rfl (hb pm code doc vs hvl) rfl ?_ ?_ hco hgen hk)
  · intro x hx
    have hxn : x.1 ∈ names := (List.of_mem_zip hx).1
    rcases hkind s.heap.objs.size a code x.1 hxn with q | ⟨q, c, hc⟩
    · exact .inl q
    · exact .inr ⟨q, by show (((fenv scope name s.heap.objs.size a code).cells).lookup x.1).isSome = true; rw [hc]; rfl⟩
  · intro s₁ hin
    have F : FrameOk G s X (callEnvC (Calls.docDef name params body scope pm code doc) s.heap.objs.size a) (shs names ds) [] (bindL (callEnvC (Calls.docDef name params body scope pm code doc) s.heap.objs.size a).kindOf (names.zip vs) fun _ => none) (bindC (callEnvC (Calls.docDef name params body scope pm code doc) s.heap.objs.size a).kindOf (names.zip vs) fun _ => none) s₁ := by
      refine ⟨⟨hk, rfl, rfl⟩, hin, hbase, halive, hoff, (fun p hp => nomatch hp), List.Pairwise.nil, fun x d hx => ?_, fun x es hx => absurd hx (shs_ow _ _ _ _)⟩
      have hr₁ : Reps s₁.heap (XO X []) vs ds := (hrep.keep hin.toInCall.keep).weaken fun b hb => by
        rcases hb with q | ⟨_, q⟩
        · exact q
        · cases q
      exact binds_env names vs ds _ _ hnd (hkind _ _ _) hr₁ x d hx
    refine wpAny_mono ((hbody ds r hP (A.deeper (fenv scope name s.heap.objs.size a code)) s X _ a code hA.deeper).val _ [] _ _ s₁ F) (fun fl s' o' => ?_) fun _ _ e => e
    have o2 := o'.2
    cases fl with
    | next => obtain ⟨_, _, _, _, q, _⟩ := o2; exact q.elim
    | ret v =>
      obtain ⟨d, rfl, q1, q2⟩ := o2
      refine ⟨?_, q2⟩
      obtain ⟨h, tk, e⟩ := o'.1.rest
      obtain ⟨h', tk', e'⟩ := hin.toInCall.same
      rw [e, e']
      refine ⟨h, tk, rfl, fun b o ho => ?_⟩
      have := q1 b o ho
      rw [e] at this; exact this
    | brk => exact o2.elim
    | cont => exact o2.elim
end

/-! ## The program's defs -/
noncomputable abbrev prog : Program := PySem.Challenge.pw_sx_vscribe_8o
noncomputable def stmtAt (k : Nat) : Stmt := prog.main.body.getD k (.Pass ⟨0, 0, 0, 0⟩)
noncomputable def bodyOf : Stmt → List Stmt
  | .FunctionDef _ _ b _ _ _ _ _ _ _ => b
  | _ => []
noncomputable def paramsOf : Stmt → Arguments
  | .FunctionDef _ a _ _ _ _ _ _ _ _ => a
  | _ => ⟨[], [], none, [], [], none, []⟩
noncomputable def scopeOf : Stmt → Scope
  | .FunctionDef _ _ _ _ _ _ s _ _ _ => s
  | _ => prog.main.scope
noncomputable def nameOf : Stmt → Str
  | .FunctionDef n _ _ _ _ _ _ _ _ _ => n
  | _ => Str.empty
noncomputable def DefK (G : Glo) (k : Nat) : Prop := DefAt G (nameOf (stmtAt k)) (paramsOf (stmtAt k)) (bodyOf (stmtAt k)) (scopeOf (stmtAt k))

end Mine

/-! text PA -/
namespace Mine
open PySem PySem.Builtin PySem.Builtin.Str

/-! ## Texts as lists of signs -/
noncomputable abbrev sepS : Str := Str.ofString " "
noncomputable abbrev nilS : Str := Str.ofString ""
noncomputable def cl (x : Str) : List Nat := x.cps.toList
noncomputable abbrev isSp (c : Nat) : Bool := Unicode.isSpace c

theorem cl_inj {x y : Str} (h : cl x = cl y) : x = y := Str.ext' (Array.toList_inj.mp h)
theorem cl_append (x y : Str) : cl (x ++ y) = cl x ++ cl y := by unfold cl; rw [Str.cps_append, Array.toList_append]
theorem cl_length (x : Str) : (cl x).length = x.length := by unfold cl Str.length; simp
theorem sepS_eq : sepS = ⟨#[32]⟩ := by decide +kernel
theorem nilS_eq : nilS = Str.empty := by decide +kernel
theorem cl_sep : cl sepS = [32] := by rw [sepS_eq]; rfl
theorem cl_nil : cl nilS = [] := by rw [nilS_eq]; rfl
theorem cl_empty : cl Str.empty = [] := rfl
theorem sp32 : isSp 32 = true := by decide +kernel
theorem nilS_iff {x : Str} : x = nilS ↔ cl x = [] := ⟨fun h => by rw [h, cl_nil], fun h => cl_inj (by rw [h, cl_nil])⟩
theorem sepS_length : sepS.length = 1 := by rw [sepS_eq]; rfl
theorem nilS_length : nilS.length = 0 := by rw [nilS_eq]; rfl
theorem length_zero_iff {x : Str} : x.length = 0 ↔ x = nilS := by rw [nilS_iff, ← cl_length, List.length_eq_zero_iff]

theorem mul_list (n : Nat) : ∀ acc : Array Nat, ((List.replicate n (#[32] : Array Nat)).foldl (· ++ ·) acc).toList = acc.toList ++ List.replicate n 32 := by
  induction n with
  | zero => intro acc; simp
  | succ n ih => intro acc; rw [List.replicate_succ, List.foldl_cons, ih]; simp [List.replicate_succ]
theorem cl_mul (n : Int) : cl (Txt.mul sepS n) = List.replicate n.toNat 32 := by
  rw [sepS_eq]
  unfold Txt.mul
  split
  · rw [show n.toNat = 0 by omega]; rfl
  · split
    · rename_i h1 h2
      have : n = 1 := by simpa [Str.length] using h2
      subst this; rfl
    · unfold cl
      rw [mul_list]; simp

/-! ## Words -/
noncomputable abbrev stepW := KWd.step
noncomputable def runW (st : List Str × Str) (l : List Nat) : List Str × Str := l.foldl stepW st
noncomputable def W (l : List Nat) : List Str := KWd.fin (runW ([], Str.empty) l)
theorem words_eq (x : Str) : Txt.words x = W (cl x) := KWd.words_scan x

theorem runW_append (st : List Str × Str) (l m : List Nat) : runW st (l ++ m) = runW (runW st l) m := List.foldl_append ..
theorem runW_gen : ∀ (l : List Nat) (ws : List Str) (r : Str), runW (ws, r) l = (ws ++ (runW ([], r) l).1, (runW ([], r) l).2)
  | [], ws, r => by simp [runW]
  | c :: l, ws, r => by
    show runW (stepW (ws, r) c) l = _
    have e : runW ([], r) (c :: l) = runW (stepW ([], r) c) l := rfl
    rw [e]
    unfold stepW KWd.step
    by_cases hc : Unicode.isSpace c = true
    · simp only [hc, if_true]
      by_cases hr : r.length = 0
      · simp only [hr, if_true]; exact runW_gen l ws r
      · simp only [hr, if_false]
        rw [runW_gen l (ws ++ [r]) Str.empty, runW_gen l ([] ++ [r]) Str.empty]
        simp
    · simp only [hc, Bool.false_eq_true, if_false]; exact runW_gen l ws _
theorem fin_gen (ws vs : List Str) (r : Str) : KWd.fin (ws ++ vs, r) = ws ++ KWd.fin (vs, r) := by
  unfold KWd.fin
  split <;> simp
theorem W_from (ws : List Str) (l : List Nat) : KWd.fin (runW (ws, Str.empty) l) = ws ++ W l := by
  rw [runW_gen, fin_gen]; rfl

theorem W_sp {c : Nat} (hc : isSp c = true) (l : List Nat) : W (c :: l) = W l := by
  show KWd.fin (runW (stepW ([], Str.empty) c) l) = _
  have : stepW ([], Str.empty) c = ([], Str.empty) := by
    unfold stepW KWd.step; rw [if_pos hc]; rfl
  rw [this]; rfl
theorem W_mid {c : Nat} (hc : isSp c = true) (l m : List Nat) : W (l ++ c :: m) = W l ++ W m := by
  unfold W
  rw [runW_append]
  show KWd.fin (runW (stepW (runW ([], Str.empty) l) c) m) = _
  generalize runW ([], Str.empty) l = st
  obtain ⟨ws, r⟩ := st
  have : stepW (ws, r) c = (KWd.fin (ws, r), Str.empty) := by
    unfold stepW KWd.step KWd.fin
    rw [if_pos hc]
    by_cases hr : r.length = 0
    · simp only [hr, if_true]
      rw [KWd.len0 hr]
    · simp only [hr, if_false]
  rw [this, W_from]; rfl
theorem W_nil : W [] = [] := rfl
theorem W_allsp : ∀ (l : List Nat), (∀ c ∈ l, isSp c = true) → W l = []
  | [], _ => rfl
  | c :: l, h => by rw [W_sp (h c List.mem_cons_self)]; exact W_allsp l fun d hd => h d (List.mem_cons_of_mem _ hd)
theorem W_left {a : List Nat} (ha : ∀ c ∈ a, isSp c = true) (l : List Nat) : W (a ++ l) = W l := by
  induction a with
  | nil => rfl
  | cons c a ih => rw [List.cons_append, W_sp (ha c List.mem_cons_self)]; exact ih fun d hd => ha d (List.mem_cons_of_mem _ hd)
theorem W_right {b : List Nat} (hb : ∀ c ∈ b, isSp c = true) (l : List Nat) : W (l ++ b) = W l := by
  cases b with
  | nil => rw [List.append_nil]
  | cons c b => rw [W_mid (hb c List.mem_cons_self), W_allsp b fun d hd => hb d (List.mem_cons_of_mem _ hd), List.append_nil]

noncomputable def IsWord (w : Str) : Prop := cl w ≠ [] ∧ ∀ c ∈ cl w, isSp c = false
theorem runW_word : ∀ (l : List Nat) (r : Str), (∀ c ∈ l, isSp c = false) → runW ([], r) l = ([], r ++ ⟨l.toArray⟩)
  | [], r, _ => by show ([], r) = _; congr 1
  | c :: l, r, h => by
    show runW (stepW ([], r) c) l = _
    have : stepW ([], r) c = ([], r ++ ⟨#[c]⟩) := by
      unfold stepW KWd.step; rw [if_neg (by rw [show Unicode.isSpace c = false from h c List.mem_cons_self]; exact Bool.false_ne_true)]
    rw [this, runW_word l _ fun d hd => h d (List.mem_cons_of_mem _ hd)]
    congr 1
    exact cl_inj (by rw [cl_append, cl_append, cl_append]; simp [cl])
theorem W_word {w : Str} (h : IsWord w) : W (cl w) = [w] := by
  unfold W
  rw [runW_word _ _ h.2]
  have e : (Str.empty ++ ⟨(cl w).toArray⟩ : Str) = w := cl_inj (by rw [cl_append]; simp [cl, Str.empty])
  rw [e]
  unfold KWd.fin
  rw [if_neg (by rw [← cl_length]; intro q; exact h.1 (List.length_eq_zero_iff.mp q))]
  rfl

theorem runW_isWord : ∀ (l : List Nat) (r : Str), (∀ c ∈ cl r, isSp c = false) → (∀ w ∈ (runW ([], r) l).1, IsWord w) ∧ ∀ c ∈ cl (runW ([], r) l).2, isSp c = false
  | [], r, h => ⟨fun w hw => (nomatch hw), h⟩
  | c :: l, r, h => by
    have e : runW ([], r) (c :: l) = runW (stepW ([], r) c) l := rfl
    rw [e]
    unfold stepW KWd.step
    by_cases hc : Unicode.isSpace c = true
    · simp only [hc, if_true]
      by_cases hr : r.length = 0
      · simp only [hr, if_true]; exact runW_isWord l r h
      · simp only [hr, if_false]
        rw [runW_gen]
        have ih := runW_isWord l Str.empty (by intro d hd; cases hd)
        refine ⟨fun w hw => ?_, ih.2⟩
        rcases List.mem_append.mp hw with q | q
        · have : w = r := by simpa using q
          subst this
          exact ⟨fun q => hr (by rw [← cl_length, q]; rfl), h⟩
        · exact ih.1 w q
    · simp only [hc, Bool.false_eq_true, if_false]
      refine runW_isWord l _ fun d hd => ?_
      rw [cl_append] at hd
      rcases List.mem_append.mp hd with q | q
      · exact h d q
      · have : d = c := by simpa [cl] using q
        subst this; simpa using hc
theorem W_isWord (l : List Nat) : ∀ w ∈ W l, IsWord w := by
  intro w hw
  have h := runW_isWord l Str.empty (by intro d hd; cases hd)
  unfold W KWd.fin at hw
  split at hw
  · exact h.1 w hw
  · rename_i hr
    rcases List.mem_append.mp hw with q | q
    · exact h.1 w q
    · have : w = (runW ([], Str.empty) l).2 := by simpa using q
      subst this
      exact ⟨fun q => hr (by rw [← cl_length, q]; rfl), h.2⟩

/-! ## join -/
noncomputable def jn (ts : List Str) : Str := Txt.join sepS ts
theorem jn_eq (ts : List Str) : jn ts = Str.join sepS ts := StrLaws.glued_eq_join sepS ts
theorem jn_nil : cl (jn []) = [] := by rw [jn_eq]; rfl
theorem jn_one (x : Str) : jn [x] = x := by rw [jn_eq]; rfl
theorem cl_jn_cons (x y : Str) (r : List Str) : cl (jn (x :: y :: r)) = cl x ++ 32 :: cl (jn (y :: r)) := by
  rw [jn_eq, jn_eq]
  show cl (x ++ sepS ++ Str.join sepS (y :: r)) = _
  rw [cl_append, cl_append, cl_sep]; simp
theorem W_jn : ∀ ts : List Str, W (cl (jn ts)) = (ts.map fun t => W (cl t)).flatten
  | [] => by rw [jn_nil]; rfl
  | [x] => by rw [jn_one]; simp
  | x :: y :: r => by rw [cl_jn_cons, W_mid sp32, W_jn (y :: r)]; simp
theorem W_jn_words (ws : List Str) (h : ∀ w ∈ ws, IsWord w) : W (cl (jn ws)) = ws := by
  rw [W_jn]
  induction ws with
  | nil => rfl
  | cons w ws ih => rw [List.map_cons, List.flatten_cons, W_word (h w List.mem_cons_self), ih fun v hv => h v (List.mem_cons_of_mem _ hv)]; rfl

/-- joined by a gap of one or more blanks -/
theorem cl_join_cons (sep x y : Str) (r : List Str) : cl (Txt.join sep (x :: y :: r)) = cl x ++ (cl sep ++ cl (Txt.join sep (y :: r))) := by
  show cl (glued sep (x :: y :: r)) = _ ++ (_ ++ cl (glued sep (y :: r)))
  rw [StrLaws.glued_eq_join, StrLaws.glued_eq_join]
  show cl (x ++ sep ++ Str.join sep (y :: r)) = _
  rw [cl_append, cl_append, List.append_assoc]
theorem cl_join_one (sep x : Str) : cl (Txt.join sep [x]) = cl x := rfl
theorem cl_join_nil (sep : Str) : cl (Txt.join sep []) = [] := rfl
theorem W_join_gap {sep : Str} {n : Nat} (hs : cl sep = List.replicate (n + 1) 32) : ∀ (ws : List Str), (∀ w ∈ ws, IsWord w) → W (cl (Txt.join sep ws)) = ws
  | [], _ => rfl
  | [x], h => by rw [cl_join_one, W_word (h x List.mem_cons_self)]
  | x :: y :: r, h => by
    rw [cl_join_cons, hs, List.replicate_succ, List.cons_append, W_mid sp32, W_left (by intro c hc; rw [List.eq_of_mem_replicate hc]; exact sp32), W_word (h x List.mem_cons_self),
      W_join_gap hs (y :: r) fun v hv => h v (List.mem_cons_of_mem _ hv)]
    rfl

/-! ## strip, rstrip -/
theorem tw_imp {p : Nat → Bool} : ∀ {l : List Nat} {c : Nat}, c ∈ l.takeWhile p → p c = true
  | a :: l, c, h => by
    rw [List.takeWhile_cons] at h
    split at h
    · rcases List.mem_cons.mp h with rfl | q
      · assumption
      · exact tw_imp q
    · cases h
theorem dw_len (p : Nat → Bool) (l : List Nat) : (l.dropWhile p).length ≤ l.length := (List.dropWhile_sublist p).length_le
noncomputable def rsL (l : List Nat) : List Nat := (l.reverse.dropWhile isSp).reverse
theorem rsL_split (l : List Nat) : ∃ b, l = rsL l ++ b ∧ ∀ c ∈ b, isSp c = true := by
  refine ⟨(l.reverse.takeWhile isSp).reverse, ?_, fun c hc => ?_⟩
  · unfold rsL
    rw [← List.reverse_append, List.takeWhile_append_dropWhile, List.reverse_reverse]
  · have := tw_imp (List.mem_reverse.mp hc)
    exact this
theorem rsL_take (l : List Nat) : l.take (l.length - (l.reverse.takeWhile isSp).length) = rsL l := by
  unfold rsL
  have h : l = (l.reverse.dropWhile isSp).reverse ++ (l.reverse.takeWhile isSp).reverse := by
    rw [← List.reverse_append, List.takeWhile_append_dropWhile, List.reverse_reverse]
  have hlen : (l.reverse.dropWhile isSp).reverse.length = l.length - (l.reverse.takeWhile isSp).length := by
    have := congrArg List.length h
    simp only [List.length_append, List.length_reverse] at this ⊢
    omega
  rw [← hlen]
  conv => lhs; arg 2; rw [h]
  rw [List.take_left']
  rfl
theorem drop_takeWhile (l : List Nat) : l.drop (l.takeWhile isSp).length = l.dropWhile isSp := by
  conv => lhs; arg 2; rw [← List.takeWhile_append_dropWhile (p := isSp) (l := l)]
  rw [List.drop_left']
  rfl
theorem stripBy_sub (goes : Nat → Bool) (l r : Bool) (x : Str) : Txt.stripBy goes l r x = strSub x (stripLo goes l x) (stripHi goes r x (stripLo goes l x)) := by
  unfold Txt.stripBy
  split
  · rename_i h
    unfold stripSame at h
    simp only [Bool.and_eq_true, beq_iff_eq] at h
    rw [h.2, h.1, StrLaws.sub_whole]
  · rfl
theorem cl_rstrip (x : Str) : cl (Txt.rstrip x) = rsL (cl x) := by
  unfold Txt.rstrip
  rw [stripBy_sub]
  unfold cl
  rw [StrLaws.strSub_toList]
  unfold stripHi stripLo
  simp only [Bool.false_eq_true, if_false, if_true, List.drop_zero, Nat.sub_zero]
  have : x.length = x.cps.toList.length := by simp [Str.length]
  rw [this]
  exact rsL_take _
theorem cl_strip (x : Str) : cl (Txt.strip x) = rsL ((cl x).dropWhile isSp) := by
  unfold Txt.strip
  rw [stripBy_sub]
  unfold cl
  rw [StrLaws.strSub_toList]
  unfold stripHi stripLo
  simp only [if_true]
  have h0 : x.length = x.cps.toList.length := by simp [Str.length]
  have h1 : x.cps.toList.length - ((x.cps.toList.drop (x.cps.toList.takeWhile Unicode.isSpace).length).reverse.takeWhile Unicode.isSpace).length - (x.cps.toList.takeWhile Unicode.isSpace).length
      = (x.cps.toList.drop (x.cps.toList.takeWhile Unicode.isSpace).length).length - ((x.cps.toList.drop (x.cps.toList.takeWhile Unicode.isSpace).length).reverse.takeWhile Unicode.isSpace).length := by
    rw [List.length_drop]; omega
  rw [h0, h1, rsL_take, drop_takeWhile]
theorem W_rsL (l : List Nat) : W (rsL l) = W l := by
  obtain ⟨b, h1, h2⟩ := rsL_split l
  conv => rhs; rw [h1]
  rw [W_right h2]
theorem W_dropWhile (l : List Nat) : W (l.dropWhile isSp) = W l := by
  conv => rhs; rw [← List.takeWhile_append_dropWhile (p := isSp) (l := l)]
  rw [W_left fun c hc => tw_imp hc]
theorem W_rstrip (x : Str) : W (cl (Txt.rstrip x)) = W (cl x) := by rw [cl_rstrip, W_rsL]
theorem W_strip (x : Str) : W (cl (Txt.strip x)) = W (cl x) := by rw [cl_strip, W_rsL, W_dropWhile]
theorem rsL_length (l : List Nat) : (rsL l).length ≤ l.length := by
  unfold rsL
  have := dw_len isSp l.reverse
  simpa using this
theorem rstrip_length (x : Str) : (Txt.rstrip x).length ≤ x.length := by rw [← cl_length, ← cl_length, cl_rstrip]; exact rsL_length _
theorem strip_length (x : Str) : (Txt.strip x).length ≤ x.length := by
  rw [← cl_length, ← cl_length, cl_strip]
  refine Nat.le_trans (rsL_length _) ?_
  exact dw_len _ _

/-- no blank at the end: rstrip does nothing -/
theorem rsL_self {l : List Nat} (h : ∀ c, l.getLast? = some c → isSp c = false) : rsL l = l := by
  unfold rsL
  cases hr : l.reverse with
  | nil => simpa using hr.symm
  | cons c r =>
    have hl : l.getLast? = some c := by rw [List.getLast?_eq_head?_reverse, hr]; rfl
    rw [List.dropWhile_cons, if_neg (by rw [h c hl]; exact Bool.false_ne_true), ← hr, List.reverse_reverse]

theorem W_ne_nil {l : List Nat} {c : Nat} (hc : c ∈ l) (hs : isSp c = false) : W l ≠ [] := by
  induction l with
  | nil => cases hc
  | cons d l ih =>
    by_cases hd : isSp d = true
    · rw [W_sp hd]
      rcases List.mem_cons.mp hc with rfl | q
      · rw [hs] at hd; cases hd
      · exact ih q
    · intro e
      have hd' : isSp d = false := by simpa using hd
      have key : ∀ (m : List Nat) (r : Str), r.length ≠ 0 → KWd.fin (runW ([], r) m) ≠ [] := by
        intro m
        induction m with
        | nil => intro r hr q; unfold KWd.fin runW at q; simp [hr] at q
        | cons a m ihm =>
          intro r hr
          show KWd.fin (runW (stepW ([], r) a) m) ≠ []
          unfold stepW KWd.step
          by_cases ha : Unicode.isSpace a = true
          · simp only [ha, if_true, hr, if_false]
            rw [runW_gen, fin_gen]; simp
          · simp only [ha, Bool.false_eq_true, if_false]
            refine ihm _ ?_
            rw [Str.length_append]; omega
      have e2 : KWd.fin (runW (stepW ([], Str.empty) d) l) = [] := e
      have : stepW ([], Str.empty) d = ([], Str.empty ++ ⟨#[d]⟩) := by
        unfold stepW KWd.step; rw [if_neg (by rw [show Unicode.isSpace d = false from hd']; exact Bool.false_ne_true)]
      rw [this] at e2
      exact key l _ (by rw [Str.length_append]; show _ + 1 ≠ 0; omega) e2

theorem strip_ne_iff (x : Str) : Txt.strip x ≠ Str.empty ↔ W (cl x) ≠ [] := by
  constructor
  · intro h e
    apply h
    refine cl_inj ?_
    rw [cl_empty, cl_strip]
    cases hd : (cl x).dropWhile isSp with
    | nil => rfl
    | cons c r =>
      exfalso
      have hc : isSp c = false := by
        have := List.head?_dropWhile_not isSp (cl x)
        rw [hd] at this; simpa using this
      have hm : c ∈ cl x := (List.dropWhile_sublist isSp).subset (by rw [hd]; exact List.mem_cons_self)
      exact W_ne_nil hm hc e
  · intro h e
    apply h
    rw [← W_strip, e]; rfl

end Mine

/-! text PB -/
namespace Mine
open PySem

/-! ## What the defs compute, as plain functions -/
noncomputable def wrapStep (w : Int) (st : List Str × Str) (x : Str) : List Str × Str :=
  if st.2 = nilS then (st.1, x) else if (st.2.length : Int) + 1 + x.length ≤ w then (st.1, st.2 ++ sepS ++ x) else (st.1 ++ [st.2], x)
noncomputable def wrapF (w : Int) (ws : List Str) : List Str :=
  if (ws.foldl (wrapStep w) ([], nilS)).2 = nilS then (ws.foldl (wrapStep w) ([], nilS)).1 else (ws.foldl (wrapStep w) ([], nilS)).1 ++ [(ws.foldl (wrapStep w) ([], nilS)).2]

noncomputable def gapAt (blanks gaps i : Int) : Int := if i < blanks.fmod gaps then blanks.fdiv gaps + 1 else blanks.fdiv gaps
noncomputable def justStep (ws : List Str) (blanks gaps : Int) (full : Str) (i : Nat) : Str := full ++ Txt.mul sepS (gapAt blanks gaps i) ++ ws.getD (i + 1) nilS
noncomputable def justF (line : Str) (w : Int) : Str :=
  if (Txt.words line).length = 1 then Txt.ljust line w else
  (List.range ((Txt.words line).length - 1)).foldl (justStep (Txt.words line) (w - (Txt.join nilS (Txt.words line)).length) ((Txt.words line).length - 1)) ((Txt.words line).getD 0 nilS)

noncomputable def spreadStep (ws : List Str) (blanks gaps : Int) (line : Str) (j : Nat) : Str := line ++ Txt.mul sepS ((blanks + gaps - 1 - j).fdiv gaps) ++ ws.getD (j + 1) nilS
noncomputable def spreadF (ws : List Str) (w : Int) : Str :=
  Txt.ljust ((List.range (ws.length - 1)).foldl (spreadStep ws (w - (Txt.join nilS ws).length) (ws.length - 1)) (ws.getD 0 nilS)) w

noncomputable def paraStep (st : List Str × List Str) (t : Str) : List Str × List Str :=
  if Txt.strip t ≠ Str.empty then (st.1, st.2 ++ [t]) else if st.2 = [] then st else (st.1 ++ [jn st.2], [])
noncomputable def paraF (ts : List Str) : List Str := ((ts ++ [nilS]).foldl paraStep ([], [])).1

noncomputable def jlF (lines : List Str) (w : Int) : List Str :=
  (lines.take (lines.length - 1)).map (fun l => if (l.length : Int) ≤ w then Txt.rstrip (justF l w) else l) ++ lines.drop (lines.length - 1)

noncomputable def pool : List Str := ["a", "of", "nut", "bolt", "screw", "x-ray.", "justify", "-"].map Str.ofString
noncomputable def pick (i : Int) : Str := pool.getD (i.fmod 8).toNat nilS
noncomputable def heapF (shape first second : Int) : List Str :=
  if shape.fmod 6 < 2 then [] else if shape.fmod 6 = 2 then [pick first] else if shape.fmod 6 = 3 then [pick first, pick second] else [pick first, pick second, pick (first + second)]
noncomputable def textF (heap : List Str) (shape : Int) : Str := Txt.mul sepS (shape.fmod 2) ++ Txt.join (Txt.mul sepS (1 + shape.fmod 3)) heap ++ Txt.mul sepS (shape.fdiv 6)

noncomputable def stopAt (own : List (List Str)) (i : Nat) : Nat := i + ((own.drop i).takeWhile (fun o => !o.isEmpty)).length
noncomputable def foundAt (texts : List Str) (own : List (List Str)) (i : Nat) : Option (Str × List Str) :=
  if own.getD i [] ≠ [] ∧ (i = 0 ∨ own.getD (i - 1) [] = []) then some (jn ((texts.drop i).take (stopAt own i - i)), ((own.drop i).take (stopAt own i - i)).flatten) else none
noncomputable def foundF (texts : List Str) (own : List (List Str)) : List (Str × List Str) := (List.range own.length).filterMap (foundAt texts own)

noncomputable def fitsB (w : Int) (rest : List Str) (k : Nat) : Bool := decide (((jn (rest.take k)).length : Int) ≤ w)
noncomputable def nfit (w : Int) (rest : List Str) : Nat := (List.range rest.length).foldl (fun m k => if fitsB w rest (k + 1) then k + 1 else m) 1
noncomputable def fillStep (w : Int) (st : List (List Str) × List Str) : List (List Str) × List Str :=
  if st.2 = [] then st else (st.1 ++ [st.2.take (nfit w st.2)], st.2.drop (nfit w st.2))
noncomputable def fillF (w : Int) (heap : List Str) : List (List Str) := ((List.range heap.length).foldl (fun st _ => fillStep w st) ([], heap)).1

noncomputable def pageLine (w full : Int) (filled : List (List Str)) (i : Nat) : Str :=
  if full = 1 ∧ (i : Int) + 1 < filled.length then Txt.rstrip (spreadF (filled.getD i []) w) else jn (filled.getD i [])
noncomputable def parted (page : List Str) : List Str := if page = [] then page else page ++ [nilS]
noncomputable def pageStep (w full : Int) (page : List Str) (heap : List Str) : List Str := parted page ++ (List.range (fillF w heap).length).map (pageLine w full (fillF w heap))
noncomputable def pageF (w full : Int) (heaps : List (List Str)) : List Str := heaps.foldl (pageStep w full) []

noncomputable def setLines (w full : Int) (text : Str) : List Str := if full = 1 then jlF (wrapF w (Txt.words text)) w else wrapF w (Txt.words text)
noncomputable def setStep (w full : Int) (page : List Str) (text : Str) : List Str := parted page ++ setLines w full text
noncomputable def setF (texts : List Str) (w full : Int) : List Str := (paraF texts).foldl (setStep w full) []

noncomputable def firstF (texts : List Str) (op w : Int) : List Str :=
  if op < 2 then setF texts w op else if op = 2 then texts.map (fun t => Txt.rstrip (Txt.center (Txt.strip t) w)) else texts.map (fun t => jn (Txt.words t))
noncomputable def dueF (texts : List Str) (own : List (List Str)) (op w : Int) : List Str :=
  if op < 2 then pageF w op ((foundF texts own).map (·.2))
  else if op = 2 then texts.map (fun t => Txt.rstrip (Txt.mul sepS ((w - (Txt.strip t).length + w.fmod 2).fdiv 2) ++ Txt.strip t)) else own.map jn

end Mine

namespace Mine
open PySem
/-! text WM -/

noncomputable abbrev sL (xs : List Str) : PyData := .list (xs.map .str)
noncomputable abbrev sLL (xs : List (List Str)) : PyData := .list (xs.map sL)

theorem PE.cast {G : Glo} {A : Around} {env : Env} {Γ : AEnv} {e : Expr} {d d' : PyData} (h : PE G A env Γ e d) (q : d = d') : PE G A env Γ e d' := q ▸ h
theorem PB.cast {G : Glo} {A : Around} {env : Env} {Γ : AEnv} {e : Expr} {d d' : Bool} (h : PB G A env Γ e d) (q : d = d') : PB G A env Γ e d' := q ▸ h
theorem ItE.cast {G : Glo} {A : Around} {env : Env} {Γ : AEnv} {e : Expr} {d d' : List PyData} (h : ItE G A env Γ e d) (q : d = d') : ItE G A env Γ e d' := q ▸ h

theorem lin1 {a m c : Nat} (h : a ≤ m) (h' : m ≤ c) : a ≤ c := Nat.le_trans h h'
theorem lin2 {a m k c : Nat} (h : a ≤ m) (h' : m ≤ k) (h'' : k ≤ c) : a ≤ c := Nat.le_trans h (Nat.le_trans h' h'')
theorem lin3 {a m c : Int} (h : a ≤ m) (h' : m ≤ c) : a ≤ c := Int.le_trans h h'
theorem lin4 {a m c : Int} (h : m ≤ c) (h' : a ≤ m) : a ≤ c := Int.le_trans h' h
theorem ofS_ne {a b : String} (h : a ≠ b) : Str.ofString a ≠ Str.ofString b := by
  intro e
  rw [Str.ofString_eq_toList, Str.ofString_eq_toList] at e
  have e1 : a.toList.map Char.toNat = b.toList.map Char.toNat := by
    have := congrArg (fun s : Str => s.cps.toList) e
    simpa using this
  have e2 : a.toList = b.toList := by
    refine List.map_inj_right (f := Char.toNat) ?_ |>.mp e1
    intro x y hxy
    exact Char.ext (UInt32.toNat_inj.mp hxy)
  exact h (String.toList_inj.mp e2)

theorem getD_get {α : Type} {l : List α} {i : Nat} {d : α} (h : i < l.length) : l.getD i d = l[i] := by rw [List.getD_eq_getElem?_getD, List.getElem?_eq_getElem h]; rfl
theorem getD_out {α : Type} {l : List α} {i : Nat} {d : α} (h : l.length ≤ i) : l.getD i d = d := by rw [List.getD_eq_getElem?_getD, List.getElem?_eq_none h]; rfl
theorem sL_snoc {xs : List Str} {y : Str} : PyData.list (xs.map .str ++ [.str y]) = sL (xs ++ [y]) := by rw [sL, List.map_append]; rfl
theorem sL_app {xs ys : List Str} : PyData.list (xs.map .str ++ ys.map .str) = sL (xs ++ ys) := by rw [sL, List.map_append]
theorem LoopPost.nextI {C : Ctx} {J : AEnv → Prop} {Post : AFlow → Prop} {Γ Γ' : AEnv} (hj : J Γ') (h : ∀ p ∈ Γ', p ∈ Γ) : LoopPost C J Post (.next Γ) := ⟨Γ', h, hj⟩
theorem sub_nil {Γ : AEnv} : ∀ p ∈ ([] : AEnv), p ∈ Γ := fun _ h => nomatch h
theorem sub_cons {p : Str × Slot} {r Γ : AEnv} (h : p ∈ Γ) (h' : ∀ q ∈ r, q ∈ Γ) : ∀ q ∈ p :: r, q ∈ Γ := fun q hq => by
  rcases List.mem_cons.mp hq with rfl | hq
  · exact h
  · exact h' q hq

local macro_rules | `(tactic| wtm_at "m.del") => `(tactic| first
  | exact Del.nil
  | ((with_reducible refine' Del.skip ?h); (case h => wtm_at "m.del"))
  | (refine' Del.keep (ofS_ne (by decide)) ?h; (case h => wtm_at "m.del")))
local macro_rules | `(tactic| wtm_at "m.bin") => `(tactic| first
  | with_reducible exact BinOk.addI
  | with_reducible exact BinOk.subI
  | with_reducible refine' BinOk.modI ?_
  | with_reducible refine' BinOk.fdivI ?_ ?_
  | with_reducible refine' BinOk.addS ?_
  | with_reducible refine' BinOk.mulS ?_
  | with_reducible refine' BinOk.addL ?_)
local macro_rules | `(tactic| wtm_at "m.cmp") => `(tactic| first
  | with_reducible exact CmpOk.ltI
  | with_reducible exact CmpOk.leI
  | with_reducible exact CmpOk.eqI
  | with_reducible exact CmpOk.neI
  | with_reducible exact CmpOk.eqS
  | with_reducible exact CmpOk.neS
  | with_reducible exact CmpOk.neNil
  | with_reducible exact CmpOk.eqNil
  | with_reducible exact CmpOk.eqL
  | with_reducible exact CmpOk.neL)
local macro_rules | `(tactic| wtm_at "m.callb") => `(tactic| first
  | with_reducible refine' CallB.lenS ?_
  | with_reducible refine' CallB.lenL ?_
  | with_reducible refine' CallB.strip ?_
  | with_reducible refine' CallB.rstrip ?_
  | with_reducible refine' CallB.ljust ?_
  | with_reducible refine' CallB.center ?_
  | with_reducible refine' CallB.join ?_
  | with_reducible refine' CallB.split ?_ ?_)
local macro_rules | `(tactic| wtm_at "m.meth") => `(tactic| first
  | ((with_reducible show PE _ _ _ _ (Expr.Call (Expr.Attribute _ (Str.ofString "split") _) _ _ _) _); refine' PE.meth (id := "str.split") ?_ ?_ ?_ F.slot_str_split F.type_str_split ?_)
  | ((with_reducible show PE _ _ _ _ (Expr.Call (Expr.Attribute _ (Str.ofString "join") _) _ _ _) _); refine' PE.meth (id := "str.join") ?_ ?_ ?_ F.slot_str_join F.type_str_join ?_)
  | ((with_reducible show PE _ _ _ _ (Expr.Call (Expr.Attribute _ (Str.ofString "strip") _) _ _ _) _); refine' PE.meth (id := "str.strip") ?_ ?_ ?_ F.slot_str_strip F.type_str_strip ?_)
  | ((with_reducible show PE _ _ _ _ (Expr.Call (Expr.Attribute _ (Str.ofString "rstrip") _) _ _ _) _); refine' PE.meth (id := "str.rstrip") ?_ ?_ ?_ F.slot_str_rstrip F.type_str_rstrip ?_)
  | ((with_reducible show PE _ _ _ _ (Expr.Call (Expr.Attribute _ (Str.ofString "ljust") _) _ _ _) _); refine' PE.meth (id := "str.ljust") ?_ ?_ ?_ F.slot_str_ljust F.type_str_ljust ?_)
  | ((with_reducible show PE _ _ _ _ (Expr.Call (Expr.Attribute _ (Str.ofString "center") _) _ _ _) _); refine' PE.meth (id := "str.center") ?_ ?_ ?_ F.slot_str_center F.type_str_center ?_))
local macro_rules | `(tactic| wtm_at "m.e") => `(tactic| first
  | (refine' PE.name ?hm ?hd; (case hm => (((try dsimp only [thaw, List.map, thaw1]); (repeat (first | with_reducible exact List.mem_cons_self | with_reducible refine' List.mem_cons_of_mem _ ?_)); done))); (case hd => decide))
  | exact PE.cint
  | exact PE.cstr
  | refine' PE.bin ?_ ?_ ?_
  | refine' PE.neg ?_
  | (refine' PE.list ?hl ?hz; (case' hl => (repeat' wtm_at "m.s")); (case hz => exact Nat.le_of_ble_eq_true rfl))
  | (refine' PE.tuple ?hl ?hz; (case' hl => (repeat' wtm_at "m.s")); (case hz => exact Nat.le_of_ble_eq_true rfl))
  | refine' PE.cmp1 ?_ ?_ ?_ ?_
  | ((with_reducible show PE _ _ _ _ (Expr.Call (Expr.Attribute _ _ _) _ _ _) _); wtm_at "m.meth")
  | ((with_reducible show PE _ _ _ _ (Expr.Call (Expr.Name _ _) _ _ _) _); first | refine' PE.call ?_ (by with_reducible assumption) ?_ ?_ | refine' PE.bcall ?_ (by with_reducible assumption) ?_ ?_))
local macro_rules | `(tactic| wtm_at "m.s") => `(tactic| first
  | ((with_reducible show PE _ _ _ _ _ _); wtm_at "m.e")
  | exact PEs.nil
  | refine' PEs.cons ?_ ?_
  | exact PO.none
  | refine' PO.some ?_
  | wtm_at "m.bin"
  | wtm_at "m.cmp"
  | wtm_at "m.callb"
  | ((with_reducible show AOk _ _); (first | assumption | exact AOk.le (by assumption) (by decide)))
  | refine' PB.cmp1 ?_ ?_ ?_ ?_)

/-! text WA -/

theorem sw_len (x : Str) : (Builtin.Str.spaceWords x (x.length + 1)).length ≤ x.length + 1 := Nat.le_trans (StrLaws.len_le_wsum _) (StrLaws.sw_weight x).1

noncomputable def szL (sep : Nat) (ts : List Str) : Nat := (ts.map (fun t => t.length + sep)).sum
theorem joinOk_of {sep : Str} {ts : List Str} (h : szL sep.length ts ≤ sizeLine) : JoinOk sep ts = true := by
  unfold JoinOk
  have e : ∀ (l : List Str) (n : Nat), l.foldl (fun a t => a + t.length + sep.length) n = n + szL sep.length l := by
    intro l
    induction l with
    | nil => intro n; rfl
    | cons t l ih => intro n; rw [List.foldl_cons, ih]; unfold szL; simp only [List.map_cons, List.sum_cons]; omega
  rw [← Array.foldl_toList, e]
  unfold Builtin.Str.tooLong
  simp only [Nat.zero_add, Bool.not_eq_true', decide_eq_false_iff_not, gt_iff_lt, Nat.not_lt]
  exact h
theorem words_sz (x : Str) : szL 1 (Txt.words x) ≤ x.length + 1 := by
  have h := StrLaws.words_weight x
  have e : ∀ l : List Str, szL 1 l = (l.map (·.length)).sum + l.length := by
    intro l
    induction l with
    | nil => rfl
    | cons t l ih => unfold szL at ih ⊢; simp only [List.map_cons, List.sum_cons, List.length_cons, ih]; omega
  rw [e]; exact h
theorem words_len (x : Str) : (Txt.words x).length ≤ x.length + 1 := by have := StrLaws.words_weight x; omega
theorem szL_mono {a b : Nat} (h : a ≤ b) (ts : List Str) : szL a ts ≤ szL b ts := by
  induction ts with
  | nil => exact Nat.le_refl _
  | cons t l ih => unfold szL at ih ⊢; simp only [List.map_cons, List.sum_cons]; omega

noncomputable def P_words_of (ds : List PyData) (r : PyData) : Prop := ∃ x : Str, ds = [.str x] ∧ r = sL (Txt.words x) ∧ x.length ≤ 100000
noncomputable def P_squeezed (ds : List PyData) (r : PyData) : Prop := ∃ x : Str, ds = [.str x] ∧ r = .str (jn (Txt.words x)) ∧ x.length ≤ 100000
noncomputable def P_centred (ds : List PyData) (r : PyData) : Prop := ∃ (x : Str) (w : Int), ds = [.str x, .int w] ∧ r = .str (Txt.center x w) ∧ (0 ≤ w ∧ w ≤ 1000)
local macro_rules | `(tactic| wtm_at "m.p") => `(tactic| first
  | (with_reducible show P_words_of _ _; unfold P_words_of; refine' ⟨_, rfl, rfl, ?_⟩)
  | (with_reducible show P_squeezed _ _; unfold P_squeezed; refine' ⟨_, rfl, rfl, ?_⟩)
  | (with_reducible show P_centred _ _; unfold P_centred; refine' ⟨_, _, rfl, rfl, ?_⟩))
local macro_rules | `(tactic| wtm_at "m.s") => `(tactic| wtm_at "m.p")

section
variable {G : Glo}
theorem fn_words_of (hD : DefK G 1) : Fn G 1 "words_of" P_words_of := by
  refine Fn.of (n := 0) (names := ["text"]) hD (by ((intro pm code doc vs hv; (obtain _ | ⟨v, _ | _⟩ := vs <;> simp at hv); rfl))) ?_ ?_ (by decide) (by ((intro L a code x hx; (repeat (rcases List.mem_cons.mp hx with h1 | hx; (subst h1; first | exact .inl rfl | exact .inr ⟨rfl, _, rfl⟩))); cases hx)))
  · rintro ds r ⟨x, rfl, rfl, _⟩; rfl
  · rintro ds r ⟨x, rfl, rfl, hx⟩ A s₀ X₀ L a code hA
    show SW _ [("text", .sh (.str x))] _ _
    (((conv => arg 3; whnf); (conv => arg 1; arg 5; arg 1; whnf)))
    refine SW.cons ?_
    refine' SX.ret ?h1 ?h2
    (repeat' wtm_at "m.s")
    · (first | assumption | exact lin1 (by assumption) (by decide) | exact lin2 (by assumption) (by assumption) (by decide) | (unfold sizeLine; omega))
    · exact Nat.le_trans (sw_len x) (by (first | assumption | exact lin1 (by assumption) (by decide) | exact lin2 (by assumption) (by assumption) (by decide) | (unfold sizeLine; omega)))
    · rfl

theorem fn_squeezed (hD : DefK G 2) (h1 : Fn G 1 "words_of" P_words_of) : Fn G 2 "squeezed" P_squeezed := by
  refine Fn.of (n := 1) (names := ["text"]) hD (by ((intro pm code doc vs hv; (obtain _ | ⟨v, _ | _⟩ := vs <;> simp at hv); rfl))) ?_ ?_ (by decide) (by ((intro L a code x hx; (repeat (rcases List.mem_cons.mp hx with h1 | hx; (subst h1; first | exact .inl rfl | exact .inr ⟨rfl, _, rfl⟩))); cases hx)))
  · rintro ds r ⟨x, rfl, rfl, _⟩; rfl
  · rintro ds r ⟨x, rfl, rfl, hx⟩ A s₀ X₀ L a code hA
    show SW _ [("text", .sh (.str x))] _ _
    (((conv => arg 3; whnf); (conv => arg 1; arg 5; arg 1; whnf)))
    refine SW.cons ?_
    refine' SX.ret ?h1 ?h2
    (repeat' wtm_at "m.s")
    · exact hx
    · refine joinOk_of ?_
      rw [sepS_length]
      have := words_sz x
      (first | assumption | exact lin1 (by assumption) (by decide) | exact lin2 (by assumption) (by assumption) (by decide) | (unfold sizeLine; omega))
    · rfl

theorem padOk_of {w : Int} (h : 0 ≤ w ∧ w ≤ 1000) : PadOk w = true := by
  unfold PadOk fitsSsize Builtin.Str.tooLong sizeLine
  simp only [Bool.and_eq_true, Bool.not_eq_true', Bool.or_eq_false_iff, decide_eq_false_iff_not]
  omega
theorem fn_centred (hD : DefK G 5) : Fn G 1 "centred" P_centred := by
  refine Fn.of (n := 0) (names := ["line", "width"]) hD (by ((intro pm code doc vs hv; (obtain _ | ⟨v1, _ | ⟨v2, _ | _⟩⟩ := vs <;> simp at hv); rfl))) ?_ ?_ (by decide) (by ((intro L a code x hx; (repeat (rcases List.mem_cons.mp hx with h1 | hx; (subst h1; first | exact .inl rfl | exact .inr ⟨rfl, _, rfl⟩))); cases hx)))
  · rintro ds r ⟨x, w, rfl, rfl, _⟩; rfl
  · rintro ds r ⟨x, w, rfl, rfl, hx⟩ A s₀ X₀ L a code hA
    show SW _ [("line", .sh (.str x)), ("width", .sh (.int w))] _ _
    (((conv => arg 3; whnf); (conv => arg 1; arg 5; arg 1; whnf)))
    refine SW.cons ?_
    refine' SX.ret ?h1 ?h2
    (repeat' wtm_at "m.s")
    · exact padOk_of hx
    · rfl
end

/-! text WB -/

noncomputable def P_wrapped (ds : List PyData) (r : PyData) : Prop := ∃ (x : Str) (w : Int), ds = [.str x, .int w] ∧ r = sL (wrapF w (Txt.words x)) ∧ x.length ≤ 100000
section
variable {G : Glo}

/-- sizes while lines are filled -/
theorem wrap_size (w : Int) : ∀ (ws : List Str) (st : List Str × Str), (ws.foldl (wrapStep w) st).1.length ≤ st.1.length + ws.length ∧ (ws.foldl (wrapStep w) st).2.length ≤ st.2.length + szL 1 ws
  | [], st => ⟨Nat.le_refl _, Nat.le_refl _⟩
  | x :: ws, st => by
    rw [List.foldl_cons]
    have ih := wrap_size w ws (wrapStep w st x)
    have h1 : (wrapStep w st x).1.length ≤ st.1.length + 1 ∧ (wrapStep w st x).2.length ≤ st.2.length + (x.length + 1) := by
      unfold wrapStep
      split
      · exact ⟨by simp, by show x.length ≤ _; omega⟩
      · split
        · refine ⟨by simp, ?_⟩
          show (st.2 ++ sepS ++ x).length ≤ _
          rw [Str.length_append, Str.length_append, sepS_length]; omega
        · exact ⟨by simp, by show x.length ≤ _; omega⟩
    have h2 : szL 1 (x :: ws) = (x.length + 1) + szL 1 ws := by unfold szL; simp
    rw [List.length_cons, h2]
    omega

theorem szL_take (n : Nat) (ws : List Str) (i : Nat) : szL n (ws.take i) ≤ szL n ws := by
  induction ws generalizing i with
  | nil => simp
  | cons x ws ih =>
    cases i with
    | zero => simp [szL]
    | succ i => have := ih i; unfold szL at this ⊢; simp only [List.take_succ_cons, List.map_cons, List.sum_cons]; omega
theorem szL_mem {n : Nat} {ws : List Str} {x : Str} (h : x ∈ ws) : x.length + n ≤ szL n ws := by
  induction ws with
  | nil => cases h
  | cons y ws ih =>
    unfold szL at ih ⊢
    simp only [List.map_cons, List.sum_cons]
    rcases List.mem_cons.mp h with rfl | h
    · omega
    · have := ih h; omega

theorem fn_wrapped (hD : DefK G 3) (h1 : Fn G 1 "words_of" P_words_of) (hl : Bi G "len" (.builtin "len")) : Fn G 2 "wrapped" P_wrapped := by
  refine Fn.of (n := 1) (names := ["text", "width"]) hD (by ((intro pm code doc vs hv; (obtain _ | ⟨v1, _ | ⟨v2, _ | _⟩⟩ := vs <;> simp at hv); rfl))) ?_ ?_ (by decide) (by ((intro L a code x hx; (repeat (rcases List.mem_cons.mp hx with h1 | hx; (subst h1; first | exact .inl rfl | exact .inr ⟨rfl, _, rfl⟩))); cases hx)))
  · rintro ds r ⟨x, w, rfl, rfl, _⟩; rfl
  · rintro ds r ⟨x, w, rfl, rfl, hx⟩ A s₀ X₀ L a code hA
    show SW _ [("text", .sh (.str x)), ("width", .sh (.int w))] _ _
    (((conv => arg 3; whnf); (conv => arg 1; arg 5; arg 1; whnf)))
    (((refine SW.cons ?_); (refine' SX.new ?dl_23 ?k_23); (case dl_23 => wtm_at "m.del")))
    (((refine SW.cons ?_); (refine' SX.assignT ?e_24 ?sc_24 ?dl_24 ?k_24); (case' e_24 => (repeat' wtm_at "m.s")); (case' sc_24 => trivial); (case' dl_24 => wtm_at "m.del")))
    refine SW.cons ?_
    let GW : List Str × Str → AEnv := fun st => [("line", .sh (.str st.2)), ("lines", .ow (st.1.map .str)), ("text", .sh (.str x)), ("width", .sh (.int w))]
    refine' SX.for_ ?hit (fun i Γ => Γ = GW (((Txt.words x).take i).foldl (wrapStep w) ([], nilS))) ?h0 ?turn ?done
    case hit =>
      refine' ItE.list hA.1 ?_
      (repeat' wtm_at "m.s")
      omega
    case h0 => exact ⟨GW ([], nilS), by (((repeat (first | exact sub_nil | refine' sub_cons (by (((try dsimp only [thaw, List.map, thaw1]); (repeat (first | with_reducible exact List.mem_cons_self | with_reducible refine' List.mem_cons_of_mem _ ?_)); done))) ?_)); done)), rfl⟩
    case turn =>
      rintro i d Γ' hd rfl
      rw [List.getElem?_map] at hd
      obtain ⟨word, hw, rfl⟩ := Option.map_eq_some_iff.mp hd
      refine ⟨_, Tgt.name (by wtm_at "m.del"), ?_⟩
      have hmem : word ∈ Txt.words x := List.mem_of_getElem? hw
      have hnext : ((Txt.words x).take (i + 1)).foldl (wrapStep w) ([], nilS) = wrapStep w (((Txt.words x).take i).foldl (wrapStep w) ([], nilS)) word := by
        rw [List.take_add_one, hw, List.foldl_append]; rfl
      have hz := wrap_size w ((Txt.words x).take i) ([], nilS)
      have hz2 := szL_take 1 (Txt.words x) i
      have hz3 := words_sz x
      have hz4 := szL_mem (n := 1) hmem
      have hz5 : ((Txt.words x).take i).length ≤ x.length + 1 := Nat.le_trans (by rw [List.length_take]; omega) (words_len x)
      rw [nilS_length] at hz
      generalize ((Txt.words x).take i).foldl (wrapStep w) ([], nilS) = st at hnext hz ⊢
      obtain ⟨lines, line⟩ := st
      simp only [List.length_nil] at hz
      have hsep : (Str.ofString " ").length = 1 := sepS_length
      refine SW.cons ?_
      refine' SX.ifs ?t ?b1 ?b2
      case t => (repeat' wtm_at "m.s")
      case b1 =>
        intro hb
        (((refine SW.cons ?_); (refine' SX.assignT ?e_28 ?sc_28 ?dl_28 ?k_28); (case' e_28 => (repeat' wtm_at "m.s")); (case' sc_28 => trivial); (case' dl_28 => wtm_at "m.del")))
        refine SW.nil (SW.nil (LoopPost.nextI (Γ' := GW (lines, word)) ?_ (by (((repeat (first | exact sub_nil | refine' sub_cons (by (((try dsimp only [thaw, List.map, thaw1]); (repeat (first | with_reducible exact List.mem_cons_self | with_reducible refine' List.mem_cons_of_mem _ ?_)); done))) ?_)); done)))))
        rw [hnext]
        unfold wrapStep; rw [if_pos (by simpa using hb)]
      case b2 =>
        intro hb
        refine SW.cons ?_
        refine' SX.ifs ?t2 ?c1 ?c2
        case t2 =>
          (repeat' wtm_at "m.s")
          all_goals (first | assumption | exact lin1 (by assumption) (by decide) | exact lin2 (by assumption) (by assumption) (by decide) | (unfold sizeLine; omega))
        case c1 =>
          intro hc
          (((refine SW.cons ?_); (refine' SX.assignT ?e_32 ?sc_32 ?dl_32 ?k_32); (case' e_32 => (repeat' wtm_at "m.s")); (case' sc_32 => trivial); (case' dl_32 => wtm_at "m.del")))
          · (first | assumption | exact lin1 (by assumption) (by decide) | exact lin2 (by assumption) (by assumption) (by decide) | (unfold sizeLine; omega))
          · rw [Str.length_append]; (first | assumption | exact lin1 (by assumption) (by decide) | exact lin2 (by assumption) (by assumption) (by decide) | (unfold sizeLine; omega))
          refine SW.nil (SW.nil (SW.nil (LoopPost.nextI (Γ' := GW (lines, line ++ sepS ++ word)) ?_ (by (((repeat (first | exact sub_nil | refine' sub_cons (by (((try dsimp only [thaw, List.map, thaw1]); (repeat (first | with_reducible exact List.mem_cons_self | with_reducible refine' List.mem_cons_of_mem _ ?_)); done))) ?_)); done))))))
          rw [hnext]
          unfold wrapStep; rw [if_neg (by simpa using hb), if_pos (by simpa using hc)]
        case c2 =>
          intro hc
          (((refine SW.cons ?_); (refine' SX.appendT ?hm_36 ?e_36 ?sc_36 ?dl_36 ?k_36 ?sz_36); (case' hm_36 => (((try dsimp only [thaw, List.map, thaw1]); (repeat (first | with_reducible exact List.mem_cons_self | with_reducible refine' List.mem_cons_of_mem _ ?_)); done))); (case' e_36 => (repeat' wtm_at "m.s")); (case' sc_36 => trivial); (case' dl_36 => wtm_at "m.del"); (case' sz_36 => skip)))
          · rw [List.length_map]; (first | assumption | exact lin1 (by assumption) (by decide) | exact lin2 (by assumption) (by assumption) (by decide) | (unfold sizeLine; omega))
          (((refine SW.cons ?_); (refine' SX.assignT ?e_38 ?sc_38 ?dl_38 ?k_38); (case' e_38 => (repeat' wtm_at "m.s")); (case' sc_38 => trivial); (case' dl_38 => wtm_at "m.del")))
          refine SW.nil (SW.nil (SW.nil (LoopPost.nextI (Γ' := GW (lines ++ [line], word)) ?_ ?_)))
          · rw [hnext]
            unfold wrapStep; rw [if_neg (by simpa using hb), if_neg (by simpa using hc)]
          · dsimp only [GW]
            rw [List.map_append]
            (((repeat (first | exact sub_nil | refine' sub_cons (by (((try dsimp only [thaw, List.map, thaw1]); (repeat (first | with_reducible exact List.mem_cons_self | with_reducible refine' List.mem_cons_of_mem _ ?_)); done))) ?_)); done))
    case done =>
      rintro Γ' rfl
      rw [List.length_map, List.take_length]
      have hz := wrap_size w (Txt.words x) ([], nilS)
      have hz3 := words_sz x
      have hz5 := words_len x
      unfold wrapF
      rw [nilS_length, List.length_nil] at hz
      generalize (Txt.words x).foldl (wrapStep w) ([], nilS) = st at hz ⊢
      obtain ⟨lines, line⟩ := st
      dsimp only [GW] at hz ⊢
      refine SW.cons ?_
      refine' SX.ifs ?t ?b1 ?b2
      case t => (repeat' wtm_at "m.s")
      case b1 =>
        intro hb
        (((refine SW.cons ?_); (refine' SX.appendT ?hm_41 ?e_41 ?sc_41 ?dl_41 ?k_41 ?sz_41); (case' hm_41 => (((try dsimp only [thaw, List.map, thaw1]); (repeat (first | with_reducible exact List.mem_cons_self | with_reducible refine' List.mem_cons_of_mem _ ?_)); done))); (case' e_41 => (repeat' wtm_at "m.s")); (case' sc_41 => trivial); (case' dl_41 => wtm_at "m.del"); (case' sz_41 => skip)))
        · rw [List.length_map]; (first | assumption | exact lin1 (by assumption) (by decide) | exact lin2 (by assumption) (by assumption) (by decide) | (unfold sizeLine; omega))
        refine SW.nil ?_
        (((refine SW.cons ?_); (refine' SX.ret ?e_43 (show _ = _ from ?k_43)); (case' e_43 => (repeat' wtm_at "m.s"))))
        rw [if_neg (by simpa using hb)]
        exact sL_snoc
      case b2 =>
        intro hb
        refine SW.nil ?_
        (((refine SW.cons ?_); (refine' SX.ret ?e_44 (show _ = _ from ?k_44)); (case' e_44 => (repeat' wtm_at "m.s"))))
        rw [if_pos (by simpa using hb)]
end

/-! text WC -/

theorem mulOk_of {n : Int} (h : -1000000 ≤ n) (h' : n ≤ 1000000) : MulOk sepS n := by
  unfold MulOk
  rw [sepS_length]
  refine ⟨?_, ?_, ?_⟩
  · simp only [Bool.or_eq_false_iff, decide_eq_false_iff_not]; omega
  · intro h1 _
    have : (1 : Int) ≤ (2 ^ 63 - 1) / n := by
      rw [Int.le_ediv_iff_mul_le (by omega)]; omega
    omega
  · intro _ _
    unfold Builtin.Str.tooLong sizeLine
    simp only [decide_eq_false_iff_not]; omega
theorem toNat_succ (i : Nat) : ((i : Int) + 1).toNat = i + 1 := by omega
theorem mul_length (n : Int) : (Txt.mul sepS n).length = n.toNat := by rw [← cl_length, cl_mul, List.length_replicate]
theorem fdiv_bd {a g B : Int} (hg : 1 ≤ g) (h : -B ≤ a) (h' : a ≤ B) (hB : 0 ≤ B) : -B ≤ a.fdiv g ∧ a.fdiv g ≤ B := by
  rw [Int.fdiv_eq_ediv_of_nonneg a (by omega)]
  have e := Int.mul_ediv_add_emod a g
  have e1 := Int.emod_nonneg a (show g ≠ 0 by omega)
  have e2 := Int.emod_lt_of_pos a (show 0 < g by omega)
  constructor
  · rw [Int.le_ediv_iff_mul_le (by omega)]
    have : B * 1 ≤ B * g := Int.mul_le_mul_of_nonneg_left hg hB
    have e : -B * g = -(B * g) := Int.neg_mul B g
    omega
  · have : a / g < B + 1 := by
      rw [Int.ediv_lt_iff_lt_mul (by omega)]
      have : (B + 1) * 1 ≤ (B + 1) * g := Int.mul_le_mul_of_nonneg_left hg (by omega)
      omega
    omega
theorem rangeD_get {a b : Int} {i : Nat} {d : PyData} (h : (rangeD a b)[i]? = some d) : d = .int (a + i) ∧ i < (b - a).toNat := by
  unfold rangeD at h
  rw [List.getElem?_map] at h
  obtain ⟨k, hk, rfl⟩ := Option.map_eq_some_iff.mp h
  obtain ⟨h1, h2⟩ := List.getElem?_eq_some_iff.mp hk
  rw [List.getElem_range] at h2
  rw [List.length_range] at h1
  exact ⟨by rw [h2], h1⟩
theorem rangeD0_get {b : Int} {i : Nat} {d : PyData} (h : (rangeD 0 b)[i]? = some d) : d = .int i ∧ i < b.toNat := by
  have := rangeD_get h
  rw [Int.zero_add, Int.sub_zero] at this
  exact this
theorem rangeD_len (a b : Int) : (rangeD a b).length = (b - a).toNat := by unfold rangeD; simp
theorem fold_len {f : Str → Nat → Str} {c : Nat} (h : ∀ s i, (f s i).length ≤ s.length + c) (s : Str) : ∀ n, ((List.range n).foldl f s).length ≤ s.length + n * c
  | 0 => by simp
  | n + 1 => by
    rw [List.range_succ, List.foldl_append]
    have := fold_len h s n
    have h2 := h ((List.range n).foldl f s) n
    show (f _ n).length ≤ _
    rw [Nat.add_mul, Nat.one_mul]; omega
theorem joinN_length (ws : List Str) : (Txt.join nilS ws).length ≤ szL 1 ws := by
  rw [← cl_length]
  induction ws with
  | nil => exact Nat.le_refl _
  | cons x r ih =>
    cases r with
    | nil => rw [cl_join_one, cl_length]; unfold szL; simp
    | cons y r =>
      rw [cl_join_cons, cl_nil, List.nil_append, List.length_append, cl_length]
      unfold szL at ih ⊢
      rw [List.map_cons, List.sum_cons]
      omega
theorem getD_length {ws : List Str} (i : Nat) : (ws.getD i nilS).length ≤ szL 1 ws := by
  by_cases h : i < ws.length
  · have : ws.getD i nilS ∈ ws := by rw [getD_get h]; exact List.getElem_mem h
    have := szL_mem (n := 1) this; omega
  · rw [getD_out (by omega), nilS_length]; omega

noncomputable def Joins (Γj : AEnv) : AFlow → Prop
  | .next Γ => ∀ p ∈ Γj, p ∈ Γ
  | .ret _ => False
section
variable {C : Ctx} {Γ Γ' : AEnv} {Post : AFlow → Prop}
theorem SX.ifsJ {test : Expr} {body orelse rest : List Stmt} {pos : Pos} {b : Bool} (Γj : AEnv) (ht : PB C.G C.A C.env (thaw Γ) test b) (h1 : b = true → SW C Γ body (Joins Γj)) (h2 : b = false → SW C Γ orelse (Joins Γj))
    (h : SW C Γj rest Post) : SX C Γ (.If test body orelse pos) (Seq C rest Post) := by
  have k : ∀ f, Joins Γj f → Seq C rest Post f := by
    intro f hf
    cases f with
    | next Γ => exact SW.sub h hf
    | ret d => cases hf
  exact SX.ifs ht (fun hb => (h1 hb).mono k) (fun hb => (h2 hb).mono k)
end
theorem joinsI {Γj Γ : AEnv} (h : ∀ p ∈ Γj, p ∈ Γ) : Joins Γj (.next Γ) := h

section
variable {G : Glo} {A : Around} {env : Env} {Γ : AEnv}
theorem PE.itemS {value slice : Expr} {pos : Pos} {ws : List Str} {k : Int} (hv : PE G A env Γ value (.list (ws.map .str))) (hi : PE G A env Γ slice (.int k)) (h0 : 0 ≤ k) (hlt : k < ws.length) (hfit : ws.length ≤ sizeLine)
    (ht : ∀ o r, letTemporaryGo value o r = pure () := by intro _ _; rfl) (hs : ∀ o i, subscripted slice false o i = operate [o, i] (getItem o i) := by intro _ _; rfl) : PE G A env Γ (.Subscript value slice pos) (.str (ws.getD k.toNat nilS)) := by
  refine PE.item hv hi h0 (by unfold sizeLine at hfit; omega) ?_ ht hs
  rw [List.getElem?_map, List.getElem?_eq_getElem (by omega), getD_get (by omega)]
  rfl
theorem PE.itemLL {value slice : Expr} {pos : Pos} {ws : List (List Str)} {k : Int} (hv : PE G A env Γ value (.list (ws.map sL))) (hi : PE G A env Γ slice (.int k)) (h0 : 0 ≤ k) (hlt : k < ws.length) (hfit : ws.length ≤ sizeLine)
    (ht : ∀ o r, letTemporaryGo value o r = pure () := by intro _ _; rfl) (hs : ∀ o i, subscripted slice false o i = operate [o, i] (getItem o i) := by intro _ _; rfl) : PE G A env Γ (.Subscript value slice pos) (sL (ws.getD k.toNat [])) := by
  refine PE.item hv hi h0 (by unfold sizeLine at hfit; omega) ?_ ht hs
  rw [List.getElem?_map, List.getElem?_eq_getElem (by omega), getD_get (by omega)]
  rfl
end

local macro_rules | `(tactic| wtm_at "m.item") => `(tactic| ((with_reducible show PE _ _ _ _ (Expr.Subscript (Expr.Name _ _) _ _) _); first
  | (refine' PE.itemS ?hv ?hi ?h0 ?hlt ?hf; (case hv => ((repeat' wtm_at "m.s"); done)))
  | (refine' PE.itemLL ?hv ?hi ?h0 ?hlt ?hf; (case hv => ((repeat' wtm_at "m.s"); done)))))
local macro_rules | `(tactic| wtm_at "m.s") => `(tactic| wtm_at "m.item")

noncomputable def P_justified (ds : List PyData) (r : PyData) : Prop := ∃ (x : Str) (w : Int), ds = [.str x, .int w] ∧ r = .str (justF x w) ∧ x.length ≤ 200 ∧ 0 ≤ w ∧ w ≤ 200 ∧ Txt.words x ≠ []
noncomputable def P_spread (ds : List PyData) (r : PyData) : Prop := ∃ (ws : List Str) (w : Int), ds = [sL ws, .int w] ∧ r = .str (spreadF ws w) ∧ szL 1 ws ≤ 200 ∧ 0 ≤ w ∧ w ≤ 200 ∧ ws ≠ []
local macro_rules | `(tactic| wtm_at "m.p") => `(tactic| first
  | (with_reducible show P_wrapped _ _; unfold P_wrapped; refine' ⟨_, _, rfl, rfl, ?_⟩)
  | (with_reducible show P_justified _ _; unfold P_justified; refine' ⟨_, _, rfl, rfl, ?_⟩)
  | (with_reducible show P_spread _ _; unfold P_spread; refine' ⟨_, _, rfl, rfl, ?_⟩))

section
variable {G : Glo}

theorem gapAt_bd {blanks gaps B : Int} (hg : 1 ≤ gaps) (h : -B ≤ blanks) (h' : blanks ≤ B) (hB : 0 ≤ B) (i : Int) : -B ≤ gapAt blanks gaps i ∧ gapAt blanks gaps i ≤ B + 1 := by
  have := fdiv_bd hg h h' hB
  unfold gapAt; split <;> omega
theorem justStep_len {ws : List Str} {blanks gaps : Int} (hg : 1 ≤ gaps) (h : -1000 ≤ blanks) (h' : blanks ≤ 200) (hw : szL 1 ws ≤ 201) (s : Str) (i : Nat) : (justStep ws blanks gaps s i).length ≤ s.length + 1300 := by
  unfold justStep
  have h1 := gapAt_bd hg (B := 1000) (by omega) (by omega) (by omega) (i : Int)
  have h2 := getD_length (ws := ws) (i + 1)
  rw [Str.length_append, Str.length_append, mul_length]; omega

theorem len_szL (ws : List Str) : ws.length ≤ szL 1 ws := by
  induction ws with
  | nil => exact Nat.le_refl _
  | cons x r ih => unfold szL at ih ⊢; simp only [List.map_cons, List.sum_cons, List.length_cons]; omega

theorem szL0 (ws : List Str) : szL 0 ws ≤ szL 1 ws := szL_mono (by omega) ws

theorem fn_justified (hD : DefK G 4) (h1 : Fn G 1 "words_of" P_words_of) (hl : Bi G "len" (.builtin "len")) (hr : Bi G "range" (.type "range")) : Fn G 2 "justified" P_justified := by
  refine Fn.of (n := 1) (names := ["line", "width"]) hD (by ((intro pm code doc vs hv; (obtain _ | ⟨v1, _ | ⟨v2, _ | _⟩⟩ := vs <;> simp at hv); rfl))) ?_ ?_ (by decide) (by ((intro L a code x hx; (repeat (rcases List.mem_cons.mp hx with h1 | hx; (subst h1; first | exact .inl rfl | exact .inr ⟨rfl, _, rfl⟩))); cases hx)))
  · rintro ds r ⟨x, w, rfl, rfl, _⟩; rfl
  · rintro ds r ⟨x, w, rfl, rfl, hx, hw0, hw, hne⟩ A s₀ X₀ L a code hA
    show SW _ [("line", .sh (.str x)), ("width", .sh (.int w))] _ _
    (((conv => arg 3; whnf); (conv => arg 1; arg 5; arg 1; whnf)))
    have hz := words_sz x
    have hz2 := len_szL (Txt.words x)
    have hnil : (Str.ofString "").length = 0 := nilS_length
    (((refine SW.cons ?_); (refine' SX.assign ?e_50 ?dl_50 ?k_50); (case' e_50 => (repeat' wtm_at "m.s")); (case' dl_50 => wtm_at "m.del")))
    · omega
    unfold justF
    have hpos : 1 ≤ (Txt.words x).length := List.length_pos_iff.mpr hne
    have hjn : (Txt.join (Str.ofString "") (Txt.words x)).length ≤ szL 1 (Txt.words x) := joinN_length _
    have hz0 := szL0 (Txt.words x)
    generalize Txt.words x = ws at hne hz hz2 hpos hjn hz0 ⊢
    refine SW.cons ?_
    refine' SX.ifs ?t ?b1 ?b2
    case t =>
      (repeat' wtm_at "m.s")
      rw [List.length_map]; (first | assumption | exact lin1 (by assumption) (by decide) | exact lin2 (by assumption) (by assumption) (by decide) | (unfold sizeLine; omega))
    case b1 =>
      intro hb
      simp only [List.length_map, decide_eq_true_eq] at hb
      rw [if_pos (by omega)]
      (((refine SW.cons ?_); (refine' SX.ret ?e_53 (show _ = _ from ?k_53)); (case' e_53 => (repeat' wtm_at "m.s"))))
      · exact padOk_of ⟨by omega, by omega⟩
      · rfl
    case b2 =>
      intro hb
      simp only [List.length_map, decide_eq_false_iff_not] at hb
      rw [if_neg (by omega)]
      refine SW.nil ?_
      (((refine SW.cons ?_); (refine' SX.assign ?e_54 ?dl_54 ?k_54); (case' e_54 => (repeat' wtm_at "m.s")); (case' dl_54 => wtm_at "m.del")))
      · rw [List.length_map]; (first | assumption | exact lin1 (by assumption) (by decide) | exact lin2 (by assumption) (by assumption) (by decide) | (unfold sizeLine; omega))
      rw [List.length_map]
      (((refine SW.cons ?_); (refine' SX.assign ?e_56 ?dl_56 ?k_56); (case' e_56 => (repeat' wtm_at "m.s")); (case' dl_56 => wtm_at "m.del")))
      · refine joinOk_of ?_
        rw [hnil]; (first | assumption | exact lin1 (by assumption) (by decide) | exact lin2 (by assumption) (by assumption) (by decide) | (unfold sizeLine; omega))
      · (first | assumption | exact lin1 (by assumption) (by decide) | exact lin2 (by assumption) (by assumption) (by decide) | (unfold sizeLine; omega))
      (((refine SW.cons ?_); (refine' SX.assign ?e_59 ?dl_59 ?k_59); (case' e_59 => (repeat' wtm_at "m.s")); (case' dl_59 => wtm_at "m.del")))
      · omega
      · omega
      · (first | assumption | exact lin1 (by assumption) (by decide) | exact lin2 (by assumption) (by assumption) (by decide) | (unfold sizeLine; omega))
      refine SW.cons ?_
      let f := justStep ws (w - (Txt.join nilS ws).length) (ws.length - 1)
      let GW : Str → AEnv := fun st => [("full", .sh (.str st)), ("blanks", .sh (.int (w - (Txt.join nilS ws).length))), ("gaps", .sh (.int (ws.length - 1))), ("words", .sh (sL ws)), ("line", .sh (.str x)), ("width", .sh (.int w))]
      refine' SX.for_ ?hit (fun i Γ => Γ = GW ((List.range i).foldl f (ws.getD 0 nilS))) ?h0 ?turn ?done
      case hit =>
        refine' ItE.range1 hA hr ?e ?_ ?_
        case e => (repeat' wtm_at "m.s")
        · omega
        · omega
      case h0 => exact ⟨GW (ws.getD (0 : Int).toNat nilS), by (((repeat (first | exact sub_nil | refine' sub_cons (by (((try dsimp only [thaw, List.map, thaw1]); (repeat (first | with_reducible exact List.mem_cons_self | with_reducible refine' List.mem_cons_of_mem _ ?_)); done))) ?_)); done)), rfl⟩
      case turn =>
        rintro i d Γ' hd rfl
        obtain ⟨rfl, hi⟩ := rangeD0_get hd
        refine ⟨_, Tgt.name (by wtm_at "m.del"), ?_⟩
        have hlen := fold_len (justStep_len (ws := ws) (blanks := w - (Txt.join nilS ws).length) (gaps := ws.length - 1) (by omega) (by have : (Txt.join nilS ws).length ≤ szL 1 ws := hjn; omega) (by omega) (by omega)) (ws.getD 0 nilS) i
        have hg0 := getD_length (ws := ws) 0
        have hg1 := getD_length (ws := ws) (i + 1)
        rw [List.range_succ, List.foldl_append]
        dsimp only [f] at hlen ⊢
        generalize (List.range i).foldl (justStep ws (w - (Txt.join nilS ws).length) (ws.length - 1)) (ws.getD 0 nilS) = full at hlen ⊢
        have hgp := gapAt_bd (blanks := w - (Txt.join nilS ws).length) (gaps := ws.length - 1) (B := 1000) (by omega) (by have : (Txt.join nilS ws).length ≤ szL 1 ws := hjn; omega) (by omega) (by omega) i
        have hil : i * 1300 ≤ 201 * 1300 := Nat.mul_le_mul_right _ (by omega)
        (((refine SW.cons ?_); (refine' SX.assign ?e_63 ?dl_63 ?k_63); (case' e_63 => (repeat' wtm_at "m.s")); (case' dl_63 => wtm_at "m.del")))
        · omega
        · omega
        refine SW.cons ?_
        refine' SX.ifsJ [("gap", .sh (.int (gapAt (w - (Txt.join nilS ws).length) (ws.length - 1) i))), ("i", .sh (.int i)), ("full", .sh (.str full)), ("blanks", .sh (.int (w - (Txt.join nilS ws).length))), ("gaps", .sh (.int (ws.length - 1))), ("words", .sh (sL ws)), ("line", .sh (.str x)), ("width", .sh (.int w))] ?t ?c1 ?c2 ?rest
        case t =>
          (repeat' wtm_at "m.s")
          omega
        case c1 =>
          intro hc
          (((refine SW.cons ?_); (refine' SX.assign ?e_65 ?dl_65 ?k_65); (case' e_65 => (repeat' wtm_at "m.s")); (case' dl_65 => wtm_at "m.del")))
          refine SW.nil (joinsI ?_)
          unfold gapAt
          rw [if_pos (of_decide_eq_true hc)]
          (((repeat (first | exact sub_nil | refine' sub_cons (by (((try dsimp only [thaw, List.map, thaw1]); (repeat (first | with_reducible exact List.mem_cons_self | with_reducible refine' List.mem_cons_of_mem _ ?_)); done))) ?_)); done))
        case c2 =>
          intro hc
          refine SW.nil (joinsI ?_)
          unfold gapAt
          rw [if_neg (of_decide_eq_false hc)]
          (((repeat (first | exact sub_nil | refine' sub_cons (by (((try dsimp only [thaw, List.map, thaw1]); (repeat (first | with_reducible exact List.mem_cons_self | with_reducible refine' List.mem_cons_of_mem _ ?_)); done))) ?_)); done))
        have hst : justStep ws (w - (Txt.join nilS ws).length) (ws.length - 1) full i = full ++ Txt.mul sepS (gapAt (w - (Txt.join nilS ws).length) (ws.length - 1) i) ++ ws.getD (i + 1) nilS := rfl
        generalize gapAt (w - (Txt.join nilS ws).length) (ws.length - 1) i = g at hgp hst ⊢
        have hi1 := toNat_succ i
        have hml := mul_length g
        have hgn : g.toNat ≤ 1001 := by omega
        have hfl : full.length ≤ 300000 := by omega
        have hlt : i + 1 < ws.length := by omega
        (((refine SW.cons ?_); (refine' SX.assign ?e_68 ?dl_68 ?k_68); (case' e_68 => (repeat' wtm_at "m.s")); (case' dl_68 => wtm_at "m.del")))
        · exact mulOk_of (by omega) (by omega)
        · rw [show (Txt.mul (Str.ofString " ") g).length = g.toNat from hml]; (first | assumption | exact lin1 (by assumption) (by decide) | exact lin2 (by assumption) (by assumption) (by decide) | (unfold sizeLine; omega))
        · exact Int.natCast_nonneg (i + 1)
        · exact Int.ofNat_lt.mpr hlt
        · (first | assumption | exact lin1 (by assumption) (by decide) | exact lin2 (by assumption) (by assumption) (by decide) | (unfold sizeLine; omega))
        · rw [Str.length_append, show (Txt.mul (Str.ofString " ") g).length = g.toNat from hml, hi1]; (first | assumption | exact lin1 (by assumption) (by decide) | exact lin2 (by assumption) (by assumption) (by decide) | (unfold sizeLine; omega))
        refine SW.nil (LoopPost.nextI (Γ' := GW _) rfl ?_)
        dsimp only [GW]
        rw [hi1]
        show ∀ p ∈ [_, _, _, _, _, _], p ∈ _
        rw [show [i].foldl (justStep ws (w - (Txt.join nilS ws).length) (ws.length - 1)) full = full ++ Txt.mul sepS g ++ ws.getD (i + 1) nilS from hst]
        (((repeat (first | exact sub_nil | refine' sub_cons (by (((try dsimp only [thaw, List.map, thaw1]); (repeat (first | with_reducible exact List.mem_cons_self | with_reducible refine' List.mem_cons_of_mem _ ?_)); done))) ?_)); done))
      case done =>
        rintro Γ' rfl
        dsimp only [GW]
        (((refine SW.cons ?_); (refine' SX.ret ?e_73 (show _ = _ from ?k_73)); (case' e_73 => (repeat' wtm_at "m.s"))))
        rw [rangeD_len]
        congr 3
        omega
end

/-! text WD -/
section
variable {G : Glo}

theorem spread_bd {blanks gaps : Int} (hg : 1 ≤ gaps) (hg' : gaps ≤ 1000) (h : -1000 ≤ blanks) (h' : blanks ≤ 1000) (i : Nat) (hi : (i : Int) ≤ 1000) : -3000 ≤ (blanks + gaps - 1 - i).fdiv gaps ∧ (blanks + gaps - 1 - i).fdiv gaps ≤ 3000 :=
  fdiv_bd hg (by omega) (by omega) (by omega)
theorem fold_len' {f : Str → Nat → Str} {c : Nat} (s : Str) : ∀ n, (∀ s i, i < n → (f s i).length ≤ s.length + c) → ((List.range n).foldl f s).length ≤ s.length + n * c
  | 0, _ => by simp
  | n + 1, h => by
    rw [List.range_succ, List.foldl_append]
    have := fold_len' s n fun s i hi => h s i (by omega)
    have h2 := h ((List.range n).foldl f s) n (by omega)
    show (f _ n).length ≤ _
    rw [Nat.add_mul, Nat.one_mul]; omega
theorem spreadStep_len {ws : List Str} {blanks gaps : Int} (hg : 1 ≤ gaps) (hg' : gaps ≤ 1000) (h : -1000 ≤ blanks) (h' : blanks ≤ 1000) (hw : szL 1 ws ≤ 1000) (s : Str) (i : Nat) (hi : (i : Int) ≤ 1000) : (spreadStep ws blanks gaps s i).length ≤ s.length + 4000 := by
  unfold spreadStep
  have h1 := spread_bd hg hg' h h' i hi
  have h2 := getD_length (ws := ws) (i + 1)
  rw [Str.length_append, Str.length_append, mul_length]; omega

theorem fn_spread (hD : DefK G 15) (hl : Bi G "len" (.builtin "len")) (hr : Bi G "range" (.type "range")) : Fn G 1 "_law_spread" P_spread := by
  refine Fn.of (n := 0) (names := ["heap", "width"]) hD (by ((intro pm code doc vs hv; (obtain _ | ⟨v1, _ | ⟨v2, _ | _⟩⟩ := vs <;> simp at hv); rfl))) ?_ ?_ (by decide) (by ((intro L a code x hx; (repeat (rcases List.mem_cons.mp hx with h1 | hx; (subst h1; first | exact .inl rfl | exact .inr ⟨rfl, _, rfl⟩))); cases hx)))
  · rintro ds r ⟨x, w, rfl, rfl, _⟩; rfl
  · rintro ds r ⟨ws, w, rfl, rfl, hz, hw0, hw, hne⟩ A s₀ X₀ L a code hA
    show SW _ [("heap", .sh (sL ws)), ("width", .sh (.int w))] _ _
    (((conv => arg 3; whnf); (conv => arg 1; arg 5; arg 1; whnf)))
    have hz2 := len_szL ws
    have hnil : (Str.ofString "").length = 0 := nilS_length
    have hpos : 1 ≤ ws.length := List.length_pos_iff.mpr hne
    have hjn : (Txt.join (Str.ofString "") ws).length ≤ szL 1 ws := joinN_length _
    have hz0 := szL0 ws
    have hjn' : (Txt.join nilS ws).length ≤ szL 1 ws := hjn
    (((refine SW.cons ?_); (refine' SX.assign ?e_77 ?dl_77 ?k_77); (case' e_77 => (repeat' wtm_at "m.s")); (case' dl_77 => wtm_at "m.del")))
    · rw [List.length_map]; (first | assumption | exact lin1 (by assumption) (by decide) | exact lin2 (by assumption) (by assumption) (by decide) | (unfold sizeLine; omega))
    rw [List.length_map]
    (((refine SW.cons ?_); (refine' SX.assign ?e_79 ?dl_79 ?k_79); (case' e_79 => (repeat' wtm_at "m.s")); (case' dl_79 => wtm_at "m.del")))
    · refine joinOk_of ?_
      rw [hnil]; (first | assumption | exact lin1 (by assumption) (by decide) | exact lin2 (by assumption) (by assumption) (by decide) | (unfold sizeLine; omega))
    · (first | assumption | exact lin1 (by assumption) (by decide) | exact lin2 (by assumption) (by assumption) (by decide) | (unfold sizeLine; omega))
    (((refine SW.cons ?_); (refine' SX.assign ?e_82 ?dl_82 ?k_82); (case' e_82 => (repeat' wtm_at "m.s")); (case' dl_82 => wtm_at "m.del")))
    · omega
    · omega
    · (first | assumption | exact lin1 (by assumption) (by decide) | exact lin2 (by assumption) (by assumption) (by decide) | (unfold sizeLine; omega))
    refine SW.cons ?_
    let f := spreadStep ws (w - (Txt.join nilS ws).length) (ws.length - 1)
    let GW : Str → AEnv := fun st => [("line", .sh (.str st)), ("blanks", .sh (.int (w - (Txt.join nilS ws).length))), ("gaps", .sh (.int (ws.length - 1))), ("heap", .sh (sL ws)), ("width", .sh (.int w))]
    refine' SX.for_ ?hit (fun i Γ => Γ = GW ((List.range i).foldl f (ws.getD 0 nilS))) ?h0 ?turn ?done
    case hit =>
      refine' ItE.range1 hA hr ?e ?_ ?_
      case e => (repeat' wtm_at "m.s")
      · omega
      · omega
    case h0 => exact ⟨GW (ws.getD (0 : Int).toNat nilS), by (((repeat (first | exact sub_nil | refine' sub_cons (by (((try dsimp only [thaw, List.map, thaw1]); (repeat (first | with_reducible exact List.mem_cons_self | with_reducible refine' List.mem_cons_of_mem _ ?_)); done))) ?_)); done)), rfl⟩
    case turn =>
      rintro i d Γ' hd rfl
      obtain ⟨rfl, hi⟩ := rangeD0_get hd
      refine ⟨_, Tgt.name (by wtm_at "m.del"), ?_⟩
      have hlen := fold_len' (ws.getD 0 nilS) i fun s j hj => spreadStep_len (ws := ws) (blanks := w - (Txt.join nilS ws).length) (gaps := ws.length - 1) (by omega) (by omega) (by omega) (by omega) (by omega) s j (by omega)
      have hg0 := getD_length (ws := ws) 0
      have hg1 := getD_length (ws := ws) (i + 1)
      rw [List.range_succ, List.foldl_append]
      dsimp only [f] at hlen ⊢
      generalize (List.range i).foldl (spreadStep ws (w - (Txt.join nilS ws).length) (ws.length - 1)) (ws.getD 0 nilS) = full at hlen ⊢
      have hgp := spread_bd (blanks := w - (Txt.join nilS ws).length) (gaps := ws.length - 1) (by omega) (by omega) (by omega) (by omega) i (by omega)
      have hil : i * 4000 ≤ 201 * 4000 := Nat.mul_le_mul_right _ (by omega)
      (((refine SW.cons ?_); (refine' SX.assign ?e_86 ?dl_86 ?k_86); (case' e_86 => (repeat' wtm_at "m.s")); (case' dl_86 => wtm_at "m.del")))
      · omega
      · omega
      · exact mulOk_of (by rw [show (Txt.join (Str.ofString "") ws).length = (Txt.join nilS ws).length from rfl]; omega) (by rw [show (Txt.join (Str.ofString "") ws).length = (Txt.join nilS ws).length from rfl]; omega)
      · rw [show (Txt.mul (Str.ofString " ") _).length = _ from mul_length _]; (first | assumption | exact lin1 (by assumption) (by decide) | exact lin2 (by assumption) (by assumption) (by decide) | (unfold sizeLine; omega))
      · omega
      · omega
      · (first | assumption | exact lin1 (by assumption) (by decide) | exact lin2 (by assumption) (by assumption) (by decide) | (unfold sizeLine; omega))
      · rw [Str.length_append, show (Txt.mul (Str.ofString " ") _).length = _ from mul_length _, show ((i : Int) + 1).toNat = i + 1 by omega]; (first | assumption | exact lin1 (by assumption) (by decide) | exact lin2 (by assumption) (by assumption) (by decide) | (unfold sizeLine; omega))
      refine SW.nil (LoopPost.nextI (Γ' := GW _) rfl ?_)
      dsimp only [GW]
      rw [show ((i : Int) + 1).toNat = i + 1 by omega]
      show ∀ p ∈ [_, _, _, _, _], p ∈ _
      dsimp only [List.foldl, spreadStep]
      (((repeat (first | exact sub_nil | refine' sub_cons (by (((try dsimp only [thaw, List.map, thaw1]); (repeat (first | with_reducible exact List.mem_cons_self | with_reducible refine' List.mem_cons_of_mem _ ?_)); done))) ?_)); done))
    case done =>
      rintro Γ' rfl
      dsimp only [GW]
      (((refine SW.cons ?_); (refine' SX.ret ?e_91 (show _ = _ from ?k_91)); (case' e_91 => (repeat' wtm_at "m.s"))))
      · exact padOk_of ⟨by omega, by omega⟩
      rw [rangeD_len]
      unfold spreadF
      congr 4
      omega
end

/-! text WE -/

section
variable {G : Glo} {A : Around} {env : Env} {Γ : AEnv}

open Classical in
/-- a comprehension over coded things -/
theorem compM_aux {α : Type} (enc : α → PyData) (g : α → PyData) (hinj : ∀ a b, enc a = enc b → a = b) (hsc : ∀ a, Scal (g a)) (t : α → Bool) : ∃ (T : PyData → Bool) (f : PyData → PyData), (∀ a, f (enc a) = g a) ∧ (∀ a, T (enc a) = t a) ∧ ∀ d, Scal (f d) := by
  refine ⟨fun d => if h : ∃ a, enc a = d then t (choose h) else false, fun d => if h : ∃ a, enc a = d then g (choose h) else .none, fun a => ?_, fun a => ?_, fun d => ?_⟩
  · have h : ∃ b, enc b = enc a := ⟨a, rfl⟩
    dsimp only
    rw [dif_pos h, hinj _ _ (choose_spec h)]
  · have h : ∃ b, enc b = enc a := ⟨a, rfl⟩
    dsimp only
    rw [dif_pos h, hinj _ _ (choose_spec h)]
  · dsimp only
    split
    · exact hsc _
    · trivial
theorem compM_eq {α : Type} {enc g : α → PyData} {t : α → Bool} {T : PyData → Bool} {f : PyData → PyData} (h1 : ∀ a, f (enc a) = g a) (h2 : ∀ a, T (enc a) = t a) : ∀ xs : List α, ((xs.map enc).filter T).map f = (xs.filter t).map g
  | [] => rfl
  | x :: xs => by
    have ih := compM_eq h1 h2 xs
    rw [List.map_cons, List.filter_cons, List.filter_cons, h2]
    split
    · rw [List.map_cons, List.map_cons, ih, h1]
    · exact ih

theorem PE.compM {α : Type} {elt iter : Expr} {x : Str} {px : Pos} {ifs : List Expr} {scope : Scope} {cl : List (Str × Addr)} {pos : Pos} {xs : List α} (enc g : α → PyData) (t : α → Bool) (Γc : AEnv) (hinj : ∀ a b, enc a = enc b → a = b) (hsc : ∀ a, Scal (g a))
    (hit : ItE G A env Γ iter (xs.map enc)) (hsz : xs.length ≤ sizeLine) (hcap : Cap env scope cl Γ Γc)
    (htests : ∀ D a, a ∈ xs → PTs G A (compEnvC scope cl D env) ((x, .sh (enc a)) :: Γc) ifs (t a))
    (helt : ∀ D a, a ∈ xs → t a = true → PE G A (compEnvC scope cl D env) ((x, .sh (enc a)) :: Γc) elt (g a)) (hclos : closureFor scope env = pure cl := by rfl)
    (hcell : ∀ y ∈ scope.names, y.2 ≠ .cell := by decide) (hkind : scope.kind = .function := by rfl)
    (hnames : ∀ y ∈ scope.names, y.2 = .local → scope.names.lookup y.1 = some .local := by decide) (hx : scope.names.lookup x = some .local := by rfl)
    (hs : ∀ x, foldedSetIterable iter env x = pure x := by intro _; rfl) :
    PE G A env Γ (.ListComp elt [⟨.Name x px, iter, ifs, 0⟩] scope pos) (.list ((xs.filter t).map g)) := by
  obtain ⟨T, f, h1, h2, h3⟩ := compM_aux enc g hinj hsc t
  refine (PE.comp Γc T f hit hclos hcap ?_ ?_ h3 (by rw [List.length_map]; exact hsz) hcell hkind hnames hx hs).cast (by rw [compM_eq h1 h2])
  · intro D d hd
    obtain ⟨a, ha, rfl⟩ := List.mem_map.mp hd
    rw [h2]; exact htests D a ha
  · intro D d hd ht
    obtain ⟨a, ha, rfl⟩ := List.mem_map.mp hd
    rw [h1]; exact helt D a ha (by rw [← h2]; exact ht)
end

section
variable {C : Ctx} {Γ Γ' : AEnv} {Post : AFlow → Prop}
theorem SX.assignCompM {α : Type} {elt iter : Expr} {x y : Str} {px py : Pos} {ifs : List Expr} {scope : Scope} {cl : List (Str × Addr)} {pos spos : Pos} {xs : List α} (enc g : α → PyData) (t : α → Bool) (Γc : AEnv) (hinj : ∀ a b, enc a = enc b → a = b) (hsc : ∀ a, Scal (g a))
    (hit : ItE C.G C.A C.env Γ iter (xs.map enc)) (hsz : xs.length ≤ sizeLine) (hcap : Cap C.env scope cl Γ Γc)
    (htests : ∀ D a, a ∈ xs → PTs C.G C.A (compEnvC scope cl D C.env) ((x, .sh (enc a)) :: Γc) ifs (t a))
    (helt : ∀ D a, a ∈ xs → t a = true → PE C.G C.A (compEnvC scope cl D C.env) ((x, .sh (enc a)) :: Γc) elt (g a))
    (hd : Del y Γ Γ') (h : Post (.next ((y, .sh (.list ((xs.filter t).map g))) :: Γ'))) (hclos : closureFor scope C.env = pure cl := by rfl)
    (hsw : swapsWith (.ListComp elt [⟨.Name x px, iter, ifs, 0⟩] scope pos) (some (.Name y py)) spos.line C.env = pure true := by rfl)
    (hk : Kind C.env y := by first | exact .inl rfl | exact .inr ⟨rfl, _, rfl⟩)
    (hcell : ∀ y ∈ scope.names, y.2 ≠ .cell := by decide) (hkind : scope.kind = .function := by rfl)
    (hnames : ∀ y ∈ scope.names, y.2 = .local → scope.names.lookup y.1 = some .local := by decide) (hx : scope.names.lookup x = some .local := by rfl)
    (hs : ∀ x, foldedSetIterable iter C.env x = pure x := by intro _; rfl) :
    SX C Γ (.Assign [.Name y py] (.ListComp elt [⟨.Name x px, iter, ifs, 0⟩] scope pos) spos) Post := by
  obtain ⟨T, f, h1, h2, h3⟩ := compM_aux enc g hinj hsc t
  refine SX.assignComp Γc T f hit hclos hcap ?_ ?_ h3 (by rw [List.length_map]; exact hsz) hd (by rw [compM_eq h1 h2]; exact h) hsw hk hcell hkind hnames hx hs
  · intro D d hd
    obtain ⟨a, ha, rfl⟩ := List.mem_map.mp hd
    rw [h2]; exact htests D a ha
  · intro D d hd ht
    obtain ⟨a, ha, rfl⟩ := List.mem_map.mp hd
    rw [h1]; exact helt D a ha (by rw [← h2]; exact ht)
end

noncomputable def cutL {α : Type} (ls : List α) (lo hi : Option Int) : List α := (ls.drop (lo.elim 0 (clipAt ls.length))).take (hi.elim ls.length (clipAt ls.length) - lo.elim 0 (clipAt ls.length))
theorem cutD_map {α : Type} (f : α → PyData) (ls : List α) (lo hi : Option Int) : cutD (ls.map f) lo hi = (cutL ls lo hi).map f := by
  unfold cutD cutL
  rw [List.length_map, List.map_take, List.map_drop]
section
variable {G : Glo} {A : Around} {env : Env} {Γ : AEnv}
theorem PE.cutM {α : Type} {f : α → PyData} {value : Expr} {lower upper : Option Expr} {p pos : Pos} {ls : List α} {lo hi : Option Int} (hv : PE G A env Γ value (.list (ls.map f))) (hl : PO G A env Γ lower lo) (hu : PO G A env Γ upper hi) (hsz : ls.length ≤ sizeLine)
    (ht : ∀ o r, letTemporaryGo value o r = pure () := by intro _ _; rfl) : PE G A env Γ (.Subscript value (.Slice lower upper none p) pos) (.list ((cutL ls lo hi).map f)) :=
  (PE.cut hv hl hu (by rw [List.length_map]; exact hsz) ht).cast (by rw [cutD_map])
end
theorem clip_nn {n : Nat} {k : Int} (h : 0 ≤ k) : clipAt n k = min k.toNat n := by
  unfold clipAt
  rw [if_neg (by omega)]
  omega
theorem clip_m1 (n : Nat) : clipAt n (-1) = n - 1 := by
  unfold clipAt
  rw [if_pos (by decide)]
  omega
theorem cutL_m1 {α : Type} (ls : List α) : cutL ls none (some (-1)) = ls.take (ls.length - 1) := by
  unfold cutL
  rw [Option.elim, Option.elim, clip_m1]
  rfl
theorem cutL_1m {α : Type} (ls : List α) : cutL ls (some (-1)) none = ls.drop (ls.length - 1) := by
  unfold cutL
  rw [Option.elim, Option.elim, clip_m1, ← List.length_drop, List.take_length]
theorem take_min {α : Type} (ls : List α) (k : Nat) : ls.take (min k ls.length) = ls.take k := by
  by_cases h : k ≤ ls.length
  · rw [Nat.min_eq_left h]
  · rw [Nat.min_eq_right (Nat.le_of_not_le h), List.take_length, List.take_of_length_le (Nat.le_of_not_le h)]
theorem cutL_to {α : Type} (ls : List α) {k : Int} (h : 0 ≤ k) : cutL ls none (some k) = ls.take k.toNat := by
  unfold cutL
  rw [Option.elim, Option.elim, clip_nn h, ← take_min ls k.toNat]
  rfl
theorem cutL_from {α : Type} (ls : List α) {k : Int} (h : 0 ≤ k) : cutL ls (some k) none = ls.drop k.toNat := by
  unfold cutL
  rw [Option.elim, Option.elim, clip_nn h, ← List.length_drop, List.take_length]
  by_cases h' : k.toNat ≤ ls.length
  · rw [Nat.min_eq_left h']
  · rw [Nat.min_eq_right (Nat.le_of_not_le h'), List.drop_length, List.drop_eq_nil_of_le (Nat.le_of_not_le h')]
theorem cutL_mid {α : Type} (ls : List α) {i j : Int} (h : 0 ≤ i) (hj : i ≤ j) (h' : j ≤ ls.length) : cutL ls (some i) (some j) = (ls.drop i.toNat).take (j.toNat - i.toNat) := by
  unfold cutL
  rw [Option.elim, Option.elim, clip_nn h, clip_nn (Int.le_trans h hj), Nat.min_eq_left (by omega), Nat.min_eq_left (by omega)]
local macro_rules | `(tactic| wtm_at "m.cut") => `(tactic| ((with_reducible show PE _ _ _ _ (Expr.Subscript _ (Expr.Slice _ _ _ _) _) _); (refine' PE.cutM ?hv ?_ ?_ ?_); (case hv => ((repeat' wtm_at "m.s"); done))))
local macro_rules | `(tactic| wtm_at "m.s") => `(tactic| wtm_at "m.cut")

theorem str_inj (a b : Str) (h : PyData.str a = .str b) : a = b := by cases h; rfl
theorem int_inj (a b : Int) (h : PyData.int a = .int b) : a = b := by cases h; rfl
theorem map_inj {α β : Type} {f : α → β} (hf : ∀ a b, f a = f b → a = b) : ∀ (l m : List α), l.map f = m.map f → l = m
  | [], [], _ => rfl
  | [], _ :: _, h => by cases h
  | _ :: _, [], h => by cases h
  | x :: l, y :: m, h => by
    rw [List.map_cons, List.map_cons] at h
    injection h with h1 h2
    rw [hf _ _ h1, map_inj hf l m h2]
theorem sL_inj (a b : List Str) (h : sL a = sL b) : a = b := map_inj str_inj a b (by injection h)

noncomputable def P_paragraphs (ds : List PyData) (r : PyData) : Prop := ∃ (ts : List Str), ds = [sL ts] ∧ r = sL (paraF ts) ∧ szL 1 ts ≤ 100000
noncomputable def P_jlines (ds : List PyData) (r : PyData) : Prop := ∃ (ls : List Str) (w : Int), ds = [sL ls, .int w] ∧ r = sL (jlF ls w) ∧ szL 1 ls ≤ 200000 ∧ 0 ≤ w ∧ w ≤ 200 ∧ ∀ l ∈ ls, Txt.words l ≠ []
local macro_rules | `(tactic| wtm_at "m.p") => `(tactic| first
  | (with_reducible show P_paragraphs _ _; unfold P_paragraphs; refine' ⟨_, rfl, rfl, ?_⟩)
  | (with_reducible show P_jlines _ _; unfold P_jlines; refine' ⟨_, _, rfl, rfl, ?_⟩))

theorem szL_app (n : Nat) (a b : List Str) : szL n (a ++ b) = szL n a + szL n b := by unfold szL; simp
theorem szL_one (n : Nat) (a : Str) : szL n [a] = a.length + n := by unfold szL; simp
theorem szL_nil (n : Nat) : szL n [] = 0 := rfl
theorem jn_length (ws : List Str) (h : ws ≠ []) : (jn ws).length + 1 ≤ szL 1 ws := by
  rw [← cl_length]
  induction ws with
  | nil => exact absurd rfl h
  | cons x r ih =>
    cases r with
    | nil => rw [jn_one, cl_length, szL_one]; omega
    | cons y r =>
      rw [cl_jn_cons, List.length_append, List.length_cons, cl_length]
      have := ih (by simp)
      unfold szL at this ⊢
      rw [List.map_cons, List.sum_cons]
      omega
theorem jn_length' (ws : List Str) : (jn ws).length ≤ szL 1 ws := by
  by_cases h : ws = []
  · subst h; exact Nat.le_of_eq rfl
  · have := jn_length ws h; omega

theorem para_size : ∀ (ts : List Str) (st : List Str × List Str), szL 1 (ts.foldl paraStep st).1 + szL 1 (ts.foldl paraStep st).2 ≤ szL 1 st.1 + szL 1 st.2 + szL 1 ts
  | [], st => Nat.le_refl _
  | x :: ts, st => by
    rw [List.foldl_cons]
    have ih := para_size ts (paraStep st x)
    have h2 : szL 1 (x :: ts) = (x.length + 1) + szL 1 ts := by unfold szL; simp
    have h1 : szL 1 (paraStep st x).1 + szL 1 (paraStep st x).2 ≤ szL 1 st.1 + szL 1 st.2 + (x.length + 1) := by
      unfold paraStep
      split
      · show szL 1 st.1 + szL 1 (st.2 ++ [x]) ≤ _
        rw [szL_app, szL_one]; omega
      · split
        · omega
        · show szL 1 (st.1 ++ [jn st.2]) + szL 1 [] ≤ _
          rw [szL_app, szL_one, szL_nil]
          have := jn_length st.2 (by assumption)
          omega
    omega

section
variable {G : Glo}
theorem fn_paragraphs (hD : DefK G 7) : Fn G 1 "paragraphs" P_paragraphs := by
  refine Fn.of (n := 0) (names := ["texts"]) hD (by ((intro pm code doc vs hv; (obtain _ | ⟨v, _ | _⟩ := vs <;> simp at hv); rfl))) ?_ ?_ (by decide) (by ((intro L a code x hx; (repeat (rcases List.mem_cons.mp hx with h1 | hx; (subst h1; first | exact .inl rfl | exact .inr ⟨rfl, _, rfl⟩))); cases hx)))
  · rintro ds r ⟨ts, rfl, rfl, _⟩; rfl
  · rintro ds r ⟨ts, rfl, rfl, hz⟩ A s₀ X₀ L a code hA
    show SW _ [("texts", .sh (sL ts))] _ _
    (((conv => arg 3; whnf); (conv => arg 1; arg 5; arg 1; whnf)))
    have hz2 := len_szL ts
    have hsep : (Str.ofString " ").length = 1 := sepS_length
    (((refine SW.cons ?_); (refine' SX.new ?dl_96 ?k_96); (case dl_96 => wtm_at "m.del")))
    (((refine SW.cons ?_); (refine' SX.new ?dl_97 ?k_97); (case dl_97 => wtm_at "m.del")))
    refine SW.cons ?_
    let GW : List Str × List Str → AEnv := fun st => [("current", .ow (st.2.map .str)), ("found", .ow (st.1.map .str)), ("texts", .sh (sL ts))]
    refine' SX.for_ (ds := (ts ++ [nilS]).map .str) ?hit (fun i Γ => Γ = GW (((ts ++ [nilS]).take i).foldl paraStep ([], []))) ?h0 ?turn ?done
    case hit =>
      refine' ItE.list hA.1 (PE.cast (d := .list (ts.map .str ++ [.str nilS])) ?_ (by rw [List.map_append]; rfl))
      refine' PE.bin ?_ (PE.list (PEs.cons PE.cstr PEs.nil)) (BinOk.addL ?_)
      · (repeat' wtm_at "m.s")
      · rw [List.length_map]; show _ + 1 ≤ _; (first | assumption | exact lin1 (by assumption) (by decide) | exact lin2 (by assumption) (by assumption) (by decide) | (unfold sizeLine; omega))
    case h0 => exact ⟨GW ([], []), by (((repeat (first | exact sub_nil | refine' sub_cons (by (((try dsimp only [thaw, List.map, thaw1]); (repeat (first | with_reducible exact List.mem_cons_self | with_reducible refine' List.mem_cons_of_mem _ ?_)); done))) ?_)); done)), rfl⟩
    case turn =>
      rintro i d Γ' hd rfl
      rw [List.getElem?_map] at hd
      obtain ⟨t, hw, rfl⟩ := Option.map_eq_some_iff.mp hd
      refine ⟨_, Tgt.name (by wtm_at "m.del"), ?_⟩
      have hmem : t ∈ ts ++ [nilS] := List.mem_of_getElem? hw
      have hnext : ((ts ++ [nilS]).take (i + 1)).foldl paraStep ([], []) = paraStep (((ts ++ [nilS]).take i).foldl paraStep ([], [])) t := by
        rw [List.take_add_one, hw, List.foldl_append]; rfl
      have hz1 := para_size ((ts ++ [nilS]).take i) ([], [])
      have hz3 := szL_take 1 (ts ++ [nilS]) i
      have hz4 := szL_mem (n := 1) hmem
      rw [szL_app, szL_one, nilS_length] at hz3 hz4
      simp only [szL_nil] at hz1
      generalize ((ts ++ [nilS]).take i).foldl paraStep ([], []) = st at hnext hz1 ⊢
      obtain ⟨found, cur⟩ := st
      have hl1 := len_szL found
      have hl2 := len_szL cur
      dsimp only at hz1
      refine SW.cons ?_
      refine' SX.ifs (PB.ofVal ?t1 (TrueOk.str ?t2)) ?b1 ?b2
      case t1 =>
        (repeat' wtm_at "m.s")
        (first | assumption | exact lin1 (by assumption) (by decide) | exact lin2 (by assumption) (by assumption) (by decide) | (unfold sizeLine; omega))
      case t2 => exact Nat.le_trans (strip_length _) (by (first | assumption | exact lin1 (by assumption) (by decide) | exact lin2 (by assumption) (by assumption) (by decide) | (unfold sizeLine; omega)))
      case b1 =>
        intro hb
        (((refine SW.cons ?_); (refine' SX.appendT ?hm_104 ?e_104 ?sc_104 ?dl_104 ?k_104 ?sz_104); (case' hm_104 => (((try dsimp only [thaw, List.map, thaw1]); (repeat (first | with_reducible exact List.mem_cons_self | with_reducible refine' List.mem_cons_of_mem _ ?_)); done))); (case' e_104 => (repeat' wtm_at "m.s")); (case' sc_104 => trivial); (case' dl_104 => wtm_at "m.del"); (case' sz_104 => skip)))
        · rw [List.length_map]; (first | assumption | exact lin1 (by assumption) (by decide) | exact lin2 (by assumption) (by assumption) (by decide) | (unfold sizeLine; omega))
        refine SW.nil (SW.nil (LoopPost.nextI (Γ' := GW (found, cur ++ [t])) ?_ ?_))
        · rw [hnext]; unfold paraStep; rw [if_pos (of_decide_eq_true hb)]
        · dsimp only [GW]
          rw [List.map_append]
          (((repeat (first | exact sub_nil | refine' sub_cons (by (((try dsimp only [thaw, List.map, thaw1]); (repeat (first | with_reducible exact List.mem_cons_self | with_reducible refine' List.mem_cons_of_mem _ ?_)); done))) ?_)); done))
      case b2 =>
        intro hb
        refine SW.cons ?_
        refine' SX.ifs (PB.ofVal ?t3 (TrueOk.list ?t4)) ?c1 ?c2
        case t3 => (repeat' wtm_at "m.s")
        case t4 => rw [List.length_map]; (first | assumption | exact lin1 (by assumption) (by decide) | exact lin2 (by assumption) (by assumption) (by decide) | (unfold sizeLine; omega))
        case c1 =>
          intro hc
          have hc' : cur ≠ [] := by rintro rfl; simp at hc
          (((refine SW.cons ?_); (refine' SX.appendT ?hm_109 ?e_109 ?sc_109 ?dl_109 ?k_109 ?sz_109); (case' hm_109 => (((try dsimp only [thaw, List.map, thaw1]); (repeat (first | with_reducible exact List.mem_cons_self | with_reducible refine' List.mem_cons_of_mem _ ?_)); done))); (case' e_109 => (repeat' wtm_at "m.s")); (case' sc_109 => trivial); (case' dl_109 => wtm_at "m.del"); (case' sz_109 => skip)))
          · rw [List.length_map]; (first | assumption | exact lin1 (by assumption) (by decide) | exact lin2 (by assumption) (by assumption) (by decide) | (unfold sizeLine; omega))
          · refine joinOk_of ?_
            rw [hsep]; (first | assumption | exact lin1 (by assumption) (by decide) | exact lin2 (by assumption) (by assumption) (by decide) | (unfold sizeLine; omega))
          (((refine SW.cons ?_); (refine' SX.new ?dl_112 ?k_112); (case dl_112 => wtm_at "m.del")))
          refine SW.nil (SW.nil (SW.nil (LoopPost.nextI (Γ' := GW (found ++ [jn cur], [])) ?_ ?_)))
          · rw [hnext]; unfold paraStep; rw [if_neg (of_decide_eq_false hb), if_neg hc']
          · dsimp only [GW, jn]
            rw [List.map_append]
            (((repeat (first | exact sub_nil | refine' sub_cons (by (((try dsimp only [thaw, List.map, thaw1]); (repeat (first | with_reducible exact List.mem_cons_self | with_reducible refine' List.mem_cons_of_mem _ ?_)); done))) ?_)); done))
        case c2 =>
          intro hc
          have hc' : cur = [] := by simpa using hc
          refine SW.nil (SW.nil (SW.nil (LoopPost.nextI (Γ' := GW (found, cur)) ?_ ?_)))
          · rw [hnext]; unfold paraStep; rw [if_neg (of_decide_eq_false hb), if_pos hc']
          · (((repeat (first | exact sub_nil | refine' sub_cons (by (((try dsimp only [thaw, List.map, thaw1]); (repeat (first | with_reducible exact List.mem_cons_self | with_reducible refine' List.mem_cons_of_mem _ ?_)); done))) ?_)); done))
    case done =>
      rintro Γ' rfl
      rw [List.length_map, List.take_length]
      dsimp only [GW]
      (((refine SW.cons ?_); (refine' SX.ret ?e_115 (show _ = _ from ?k_115)); (case' e_115 => (repeat' wtm_at "m.s"))))
      rfl

theorem ljust_length {x : Str} {w : Int} (h0 : 0 ≤ w) : (Txt.ljust x w).length ≤ x.length + w.toNat := by
  unfold Txt.ljust
  split
  · omega
  · unfold Builtin.Str.padded Str.length
    simp only [Array.size_append, Array.size_replicate]
    omega
theorem justF_len {x : Str} {w : Int} (hx : x.length ≤ 200) (hw0 : 0 ≤ w) (hw : w ≤ 200) : (justF x w).length ≤ 300000 := by
  have hz := words_sz x
  have hz2 := len_szL (Txt.words x)
  have hjn := joinN_length (Txt.words x)
  unfold justF
  generalize Txt.words x = ws at hz hz2 hjn ⊢
  split
  · have := ljust_length (x := x) hw0; omega
  · by_cases h0 : ws.length = 0
    · rw [h0]
      have := getD_length (ws := ws) 0
      show (ws.getD 0 nilS).length ≤ _
      omega
    · have h1 := fold_len (justStep_len (ws := ws) (blanks := w - (Txt.join nilS ws).length) (gaps := ws.length - 1) (by omega) (by omega) (by omega) (by omega)) (ws.getD 0 nilS) (ws.length - 1)
      have h2 := getD_length (ws := ws) 0
      have hil : (ws.length - 1) * 1300 ≤ 201 * 1300 := Nat.mul_le_mul_right _ (by omega)
      omega
theorem filter_true {α : Type} (l : List α) : l.filter (fun _ => true) = l := List.filter_eq_self.mpr fun _ _ => rfl

theorem fn_jlines (hD : DefK G 8) (h1 : Fn G 2 "justified" P_justified) (hl : Bi G "len" (.builtin "len")) : Fn G 3 "justified_lines" P_jlines := by
  refine Fn.of (n := 2) (names := ["lines", "width"]) hD (by ((intro pm code doc vs hv; (obtain _ | ⟨v1, _ | ⟨v2, _ | _⟩⟩ := vs <;> simp at hv); rfl))) ?_ ?_ (by decide) (by ((intro L a code x hx; (repeat (rcases List.mem_cons.mp hx with h1 | hx; (subst h1; first | exact .inl rfl | exact .inr ⟨rfl, _, rfl⟩))); cases hx)))
  · rintro ds r ⟨ts, w, rfl, rfl, _⟩; rfl
  · rintro ds r ⟨ls, w, rfl, rfl, hz, hw0, hw, hne⟩ A s₀ X₀ L a code hA
    show SW _ [("lines", .sh (sL ls)), ("width", .sh (.int w))] _ _
    (((conv => arg 3; whnf); (conv => arg 1; arg 5; arg 1; whnf)))
    have hz2 := len_szL ls
    refine SW.cons ?_
    refine' SX.assignCompM (xs := ls.take (ls.length - 1)) PyData.str (fun l => .str (if (l.length : Int) ≤ w then Txt.rstrip (justF l w) else l)) (fun _ => true) [("width", .sh (.int w))] str_inj (fun _ => trivial) ?it ?sz ?cap ?te ?el ?dl ?k
    case it =>
      refine' ItE.list hA.1 (PE.cast ?p ?q)
      case p =>
        (repeat' wtm_at "m.s")
        (first | assumption | exact lin1 (by assumption) (by decide) | exact lin2 (by assumption) (by assumption) (by decide) | (unfold sizeLine; omega))
      case q => rw [cutL_m1]
    case sz => rw [List.length_take]; (first | assumption | exact lin1 (by assumption) (by decide) | exact lin2 (by assumption) (by assumption) (by decide) | (unfold sizeLine; omega))
    case cap => exact Cap.cons (by (((try dsimp only [thaw, List.map, thaw1]); (repeat (first | with_reducible exact List.mem_cons_self | with_reducible refine' List.mem_cons_of_mem _ ?_)); done))) rfl (fun D => rfl) rfl Cap.nil
    case te => exact fun D l hl => PTs.nil
    case el =>
      intro D l hl _
      have hl := List.mem_of_mem_take hl
      have hz3 := szL_mem (n := 1) hl
      refine' PE.ifexp ?t ?a ?b
      case t =>
        (repeat' wtm_at "m.s")
        (first | assumption | exact lin1 (by assumption) (by decide) | exact lin2 (by assumption) (by assumption) (by decide) | (unfold sizeLine; omega))
      case a =>
        intro hc
        have hc := of_decide_eq_true hc
        rw [if_pos hc]
        (repeat' wtm_at "m.s")
        · exact ⟨by omega, hw0, hw, hne l hl⟩
        · exact Nat.le_trans (justF_len (by omega) hw0 hw) (by (first | assumption | exact lin1 (by assumption) (by decide) | exact lin2 (by assumption) (by assumption) (by decide) | (unfold sizeLine; omega)))
      case b =>
        intro hc
        have hc := of_decide_eq_false hc
        rw [if_neg hc]
        (repeat' wtm_at "m.s")
    case dl => wtm_at "m.del"
    rw [filter_true]
    refine SW.cons ?_
    refine' SX.ret (PE.cast ?p2 ?q2) ?k2
    case p2 =>
      (repeat' wtm_at "m.s")
      · (first | assumption | exact lin1 (by assumption) (by decide) | exact lin2 (by assumption) (by assumption) (by decide) | (unfold sizeLine; omega))
      · rw [cutL_1m]; simp only [List.length_map, List.length_take, List.length_drop]; (first | assumption | exact lin1 (by assumption) (by decide) | exact lin2 (by assumption) (by assumption) (by decide) | (unfold sizeLine; omega))
    case k2 => exact rfl
    case q2 =>
      unfold jlF
      rw [cutL_1m, sL, List.map_append, List.map_map]
      rfl
end

/-! text WF -/

noncomputable def P_heap (ds : List PyData) (r : PyData) : Prop := ∃ (s f g : Int), ds = [.int s, .int f, .int g] ∧ r = sL (heapF s f g)
noncomputable def P_text (ds : List PyData) (r : PyData) : Prop := ∃ (ws : List Str) (s : Int), ds = [sL ws, .int s] ∧ r = .str (textF ws s) ∧ szL 1 ws ≤ 1000 ∧ 0 ≤ s ∧ s ≤ 11
local macro_rules | `(tactic| wtm_at "m.p") => `(tactic| first
  | (with_reducible show P_heap _ _; unfold P_heap; exact ⟨_, _, _, rfl, rfl⟩)
  | (with_reducible show P_text _ _; unfold P_text; refine' ⟨_, _, rfl, rfl, ?_⟩))

noncomputable abbrev PoolD (G : Glo) : Prop := TopD G "_law_POOL" (.tuple (Mine.pool.map .str))
section
variable {G : Glo} {A : Around} {env : Env} {Γ : AEnv}
theorem PE.pool {slice : Expr} {p pos : Pos} {k : Int} (h : PoolD G) (hi : PE G A env Γ slice (.int (k.fmod 8))) (hk : env.kindOf "_law_POOL" = some .globalImplicit := by rfl) 
    (hs : ∀ o i, subscripted slice false o i = operate [o, i] (getItem o i) := by intro _ _; rfl) : PE G A env Γ (.Subscript (.Name "_law_POOL" p) slice pos) (.str (pick k)) := by
  have h0 : 0 ≤ k.fmod 8 := Int.fmod_nonneg_of_pos _ (by decide)
  have h1 : k.fmod 8 < 8 := Int.fmod_lt_of_pos _ (by decide)
  refine PE.itemT (PE.top h hk) hi h0 (by omega) ?_ (by intro _ _; rfl) hs
  have hl : Mine.pool.length = 8 := rfl
  rw [List.getElem?_map, List.getElem?_eq_getElem (by omega)]
  unfold pick
  rw [getD_get (by omega)]
  rfl
end
local macro_rules | `(tactic| wtm_at "m.pool") => `(tactic| ((with_reducible show PE _ _ _ _ (Expr.Subscript (Expr.Name (Str.ofString "_law_POOL") _) _ _) _); (refine' PE.pool (by with_reducible assumption) ?_)))
local macro_rules | `(tactic| wtm_at "m.s") => `(tactic| wtm_at "m.pool")

theorem szL_mul (n : Nat) (ws : List Str) : szL n ws ≤ (n + 1) * szL 1 ws := by
  induction ws with
  | nil => exact Nat.zero_le _
  | cons x r ih =>
    unfold szL at ih ⊢
    simp only [List.map_cons, List.sum_cons]
    rw [Nat.mul_add]
    have : x.length + n ≤ (n + 1) * (x.length + 1) := by
      rw [Nat.mul_add, Nat.add_mul]; have := Nat.zero_le (n * x.length); omega
    omega
theorem join_length (sep : Str) (ws : List Str) : (Txt.join sep ws).length ≤ szL sep.length ws := by
  rw [← cl_length]
  induction ws with
  | nil => exact Nat.le_refl _
  | cons x r ih =>
    cases r with
    | nil => rw [cl_join_one, cl_length]; unfold szL; simp
    | cons y r =>
      rw [cl_join_cons, List.length_append, List.length_append, cl_length, cl_length]
      unfold szL at ih ⊢
      rw [List.map_cons, List.sum_cons]
      omega

section
variable {G : Glo}
theorem fn_heap (hD : DefK G 11) (hp : PoolD G) : Fn G 1 "_law_heap" P_heap := by
  refine Fn.of (n := 0) (names := ["shape", "first", "second"]) hD (by ((intro pm code doc vs hv; (obtain _ | ⟨v1, _ | ⟨v2, _ | ⟨v3, _ | _⟩⟩⟩ := vs <;> simp at hv); rfl))) ?_ ?_ (by decide) (by ((intro L a code x hx; (repeat (rcases List.mem_cons.mp hx with h1 | hx; (subst h1; first | exact .inl rfl | exact .inr ⟨rfl, _, rfl⟩))); cases hx)))
  · rintro ds r ⟨s, f, g, rfl, rfl⟩; rfl
  · rintro ds r ⟨s, f, g, rfl, rfl⟩ A s₀ X₀ L a code hA
    show SW _ [("shape", .sh (.int s)), ("first", .sh (.int f)), ("second", .sh (.int g))] _ _
    (((conv => arg 3; whnf); (conv => arg 1; arg 5; arg 1; whnf)))
    refine SW.cons ?_
    refine' SX.assign (PE.cast (d' := sL [pick f, pick g]) ?e rfl) ?dl ?k
    case e => 
      (repeat' wtm_at "m.s")
      all_goals decide
    case dl => wtm_at "m.del"
    unfold heapF
    refine SW.cons ?_
    refine' SX.ifs ?t1 ?a1 ?b1
    case t1 =>
      (repeat' wtm_at "m.s")
      all_goals decide
    case a1 =>
      intro hb
      rw [if_pos (of_decide_eq_true hb)]
      (((refine SW.cons ?_); (refine' SX.ret ?e_136 (show _ = _ from ?k_136)); (case' e_136 => (repeat' wtm_at "m.s"))))
      rfl
    intro hb
    rw [if_neg (of_decide_eq_false hb)]
    refine SW.nil ?_
    refine SW.cons ?_
    refine' SX.ifs ?t2 ?a2 ?b2
    case t2 =>
      (repeat' wtm_at "m.s")
      all_goals decide
    case a2 =>
      intro hb
      rw [if_pos (of_decide_eq_true hb)]
      (((refine SW.cons ?_); (refine' SX.ret ?e_138 (show _ = _ from ?k_138)); (case' e_138 => (repeat' wtm_at "m.s"))))
      · show (2 : Nat) ≤ _; (first | assumption | exact lin1 (by assumption) (by decide) | exact lin2 (by assumption) (by assumption) (by decide) | (unfold sizeLine; omega))
      · rw [cutL_to _ (by decide)]; rfl
    intro hb
    rw [if_neg (of_decide_eq_false hb)]
    refine SW.nil ?_
    refine SW.cons ?_
    refine' SX.ifs ?t3 ?a3 ?b3
    case t3 =>
      (repeat' wtm_at "m.s")
      all_goals decide
    case a3 =>
      intro hb
      rw [if_pos (of_decide_eq_true hb)]
      (((refine SW.cons ?_); (refine' SX.ret ?e_141 (show _ = _ from ?k_141)); (case' e_141 => (repeat' wtm_at "m.s"))))
      rfl
    intro hb
    rw [if_neg (of_decide_eq_false hb)]
    refine SW.nil ?_
    (((refine SW.cons ?_); (refine' SX.ret ?e_142 (show _ = _ from ?k_142)); (case' e_142 => (repeat' wtm_at "m.s"))))
    · decide
    · show (3 : Nat) ≤ _; (first | assumption | exact lin1 (by assumption) (by decide) | exact lin2 (by assumption) (by assumption) (by decide) | (unfold sizeLine; omega))
    · rfl

theorem fn_text (hD : DefK G 12) : Fn G 1 "_law_text" P_text := by
  refine Fn.of (n := 0) (names := ["heap", "shape"]) hD (by ((intro pm code doc vs hv; (obtain _ | ⟨v1, _ | ⟨v2, _ | _⟩⟩ := vs <;> simp at hv); rfl))) ?_ ?_ (by decide) (by ((intro L a code x hx; (repeat (rcases List.mem_cons.mp hx with h1 | hx; (subst h1; first | exact .inl rfl | exact .inr ⟨rfl, _, rfl⟩))); cases hx)))
  · rintro ds r ⟨s, f, rfl, rfl, _⟩; rfl
  · rintro ds r ⟨ws, s, rfl, rfl, hz, h0, h1⟩ A s₀ X₀ L a code hA
    show SW _ [("heap", .sh (sL ws)), ("shape", .sh (.int s))] _ _
    (((conv => arg 3; whnf); (conv => arg 1; arg 5; arg 1; whnf)))
    have m2 : 0 ≤ s.fmod 2 ∧ s.fmod 2 < 2 := ⟨Int.fmod_nonneg_of_pos _ (by decide), Int.fmod_lt_of_pos _ (by decide)⟩
    have m3 : 0 ≤ s.fmod 3 ∧ s.fmod 3 < 3 := ⟨Int.fmod_nonneg_of_pos _ (by decide), Int.fmod_lt_of_pos _ (by decide)⟩
    have m6 := fdiv_bd (a := s) (g := 6) (B := 11) (by decide) (by omega) (by omega) (by omega)
    have hm := fun n => show (Txt.mul (Str.ofString " ") n).length = n.toNat from mul_length n
    have hj := join_length (Txt.mul (Str.ofString " ") (1 + s.fmod 3)) ws
    have hs := szL_mul (Txt.mul (Str.ofString " ") (1 + s.fmod 3)).length ws
    have hq : ((Txt.mul (Str.ofString " ") (1 + s.fmod 3)).length + 1) * szL 1 ws ≤ 4 * szL 1 ws := Nat.mul_le_mul_right _ (by rw [hm]; omega)
    (((refine SW.cons ?_); (refine' SX.assign ?e_147 ?dl_147 ?k_147); (case' e_147 => (repeat' wtm_at "m.s")); (case' dl_147 => wtm_at "m.del")))
    · decide
    · exact mulOk_of (by omega) (by omega)
    unfold textF
    (((refine SW.cons ?_); (refine' SX.ret ?e_148 (show _ = _ from ?k_148)); (case' e_148 => (repeat' wtm_at "m.s"))))
    · decide
    · exact mulOk_of (by omega) (by omega)
    · exact joinOk_of (by (first | assumption | exact lin1 (by assumption) (by decide) | exact lin2 (by assumption) (by assumption) (by decide) | (unfold sizeLine; omega)))
    · rw [hm]; (first | assumption | exact lin1 (by assumption) (by decide) | exact lin2 (by assumption) (by assumption) (by decide) | (unfold sizeLine; omega))
    · decide
    · decide
    · exact mulOk_of (by omega) (by omega)
    · rw [Str.length_append, hm, hm]; (first | assumption | exact lin1 (by assumption) (by decide) | exact lin2 (by assumption) (by assumption) (by decide) | (unfold sizeLine; omega))
    · rfl
end

/-! text WG -/

noncomputable abbrev pairD (p : Str × List Str) : PyData := .tuple [.str p.1, sL p.2]
noncomputable def lenLL (own : List (List Str)) : Nat := (own.map (fun o => szL 1 o + 1)).sum
theorem lenLL_len (own : List (List Str)) : own.length ≤ lenLL own := by
  induction own with
  | nil => exact Nat.le_refl _
  | cons x r ih => unfold lenLL at ih ⊢; simp only [List.map_cons, List.sum_cons, List.length_cons]; omega
theorem lenLL_flat (own : List (List Str)) : szL 1 own.flatten ≤ lenLL own := by
  induction own with
  | nil => exact Nat.le_refl _
  | cons x r ih => unfold lenLL at ih ⊢; rw [List.flatten_cons, szL_app, List.map_cons, List.sum_cons]; omega
theorem lenLL_take (own : List (List Str)) : ∀ k, lenLL (own.take k) ≤ lenLL own := by
  induction own with
  | nil => intro k; simp
  | cons x r ih =>
    intro k
    cases k with
    | zero => exact Nat.zero_le _
    | succ k => have := ih k; unfold lenLL at this ⊢; simp only [List.take_succ_cons, List.map_cons, List.sum_cons]; omega
theorem lenLL_drop (own : List (List Str)) : ∀ k, lenLL (own.drop k) ≤ lenLL own := by
  induction own with
  | nil => intro k; simp
  | cons x r ih =>
    intro k
    cases k with
    | zero => exact Nat.le_refl _
    | succ k => have := ih k; unfold lenLL at this ⊢; simp only [List.drop_succ_cons, List.map_cons, List.sum_cons]; omega
theorem szL_drop (n : Nat) (ws : List Str) : ∀ i, szL n (ws.drop i) ≤ szL n ws := by
  induction ws with
  | nil => intro i; simp
  | cons x r ih =>
    intro i
    cases i with
    | zero => exact Nat.le_refl _
    | succ k => have := ih k; unfold szL at this ⊢; simp only [List.drop_succ_cons, List.map_cons, List.sum_cons]; omega

noncomputable def P_found (ds : List PyData) (r : PyData) : Prop := ∃ (ts : List Str) (own : List (List Str)), ds = [sL ts, sLL own] ∧ r = .list ((foundF ts own).map pairD) ∧ szL 1 ts ≤ 100000 ∧ lenLL own ≤ 100000 ∧ ts.length = own.length
noncomputable def P_fill (ds : List PyData) (r : PyData) : Prop := ∃ (ws : List Str) (w : Int), ds = [sL ws, .int w] ∧ r = sLL (fillF w ws) ∧ szL 1 ws ≤ 100000
local macro_rules | `(tactic| wtm_at "m.p") => `(tactic| first
  | (with_reducible show P_found _ _; unfold P_found; refine' ⟨_, _, rfl, rfl, ?_⟩)
  | (with_reducible show P_fill _ _; unfold P_fill; refine' ⟨_, _, rfl, rfl, ?_⟩))

theorem stopAt_le (own : List (List Str)) (i : Nat) (h : i ≤ own.length) : stopAt own i ≤ own.length := by
  unfold stopAt
  have := (List.takeWhile_sublist (l := own.drop i) (fun o : List Str => !o.isEmpty)).length_le
  rw [List.length_drop] at this; omega
theorem tw_stop {α : Type} (p : α → Bool) : ∀ (l : List α), (∀ k, k < (l.takeWhile p).length → ∃ x, l[k]? = some x ∧ p x = true) ∧ ((l.takeWhile p).length < l.length → ∃ x, l[(l.takeWhile p).length]? = some x ∧ p x = false)
  | [] => ⟨fun k hk => by simp at hk, fun h => by simp at h⟩
  | x :: l => by
    have ih := tw_stop p l
    by_cases hx : p x = true
    · rw [List.takeWhile_cons, if_pos hx]
      refine ⟨fun k hk => ?_, fun h => ?_⟩
      · cases k with
        | zero => exact ⟨x, rfl, hx⟩
        | succ k => exact ih.1 k (by simpa using hk)
      · exact ih.2 (by simpa using h)
    · rw [List.takeWhile_cons, if_neg hx]
      exact ⟨fun k hk => by simp at hk, fun _ => ⟨x, rfl, by simpa using hx⟩⟩

noncomputable def stopNs (own : List (List Str)) (i : Nat) : List Int := ((List.range (own.length - i)).filter fun k => (own.getD (i + k) []).isEmpty).map (fun (k : Nat) => (i : Int) + k) ++ [(own.length : Int)]
theorem stop_min (own : List (List Str)) (i : Nat) (h : i ≤ own.length) : ((stopAt own i : Nat) : Int) ∈ stopNs own i ∧ ∀ a ∈ stopNs own i, ((stopAt own i : Nat) : Int) ≤ a := by
  have ht := tw_stop (fun o : List Str => !o.isEmpty) (own.drop i)
  have hle := stopAt_le own i h
  unfold stopAt at hle ⊢
  generalize ((own.drop i).takeWhile fun o => !o.isEmpty).length = L at ht hle ⊢
  unfold stopNs
  constructor
  · rw [List.mem_append]
    by_cases hL : i + L < own.length
    · refine .inl (List.mem_map.mpr ⟨L, List.mem_filter.mpr ⟨List.mem_range.mpr (by omega), ?_⟩, by omega⟩)
      obtain ⟨x, hx, hp⟩ := ht.2 (by rw [List.length_drop]; omega)
      rw [List.getElem?_drop] at hx
      rw [List.getD_eq_getElem?_getD, hx]
      simpa using hp
    · exact .inr (List.mem_singleton.mpr (by omega))
  · intro a ha
    rcases List.mem_append.mp ha with ha | ha
    · obtain ⟨k, hk, rfl⟩ := List.mem_map.mp ha
      obtain ⟨hk1, hk2⟩ := List.mem_filter.mp hk
      have : L ≤ k := by
        apply Decidable.byContradiction
        intro hlt
        obtain ⟨x, hx, hp⟩ := ht.1 k (by omega)
        rw [List.getElem?_drop] at hx
        rw [List.getD_eq_getElem?_getD, hx] at hk2
        simp only [Option.getD_some] at hk2
        rw [hk2] at hp; cases hp
      omega
    · cases List.mem_singleton.mp ha; omega

section
variable {G : Glo}
theorem fn_found (hD : DefK G 13) (hl : Bi G "len" (.builtin "len")) (hr : Bi G "range" (.type "range")) (hmin : Bi G "min" (.builtin "min")) : Fn G 1 "_law_found" P_found := by
  refine Fn.of (n := 0) (names := ["texts", "own"]) hD (by ((intro pm code doc vs hv; (obtain _ | ⟨v1, _ | ⟨v2, _ | _⟩⟩ := vs <;> simp at hv); rfl))) ?_ ?_ (by decide) (by ((intro L a code x hx; (repeat (rcases List.mem_cons.mp hx with h1 | hx; (subst h1; first | exact .inl rfl | exact .inr ⟨rfl, _, rfl⟩))); cases hx)))
  · rintro ds r ⟨s, f, rfl, rfl, _⟩; rfl
  · rintro ds r ⟨ts, own, rfl, rfl, hz, hz2, hlen⟩ A s₀ X₀ L a code hA
    show SW _ [("texts", .sh (sL ts)), ("own", .sh (sLL own))] _ _
    (((conv => arg 3; whnf); (conv => arg 1; arg 5; arg 1; whnf)))
    have hl2 := lenLL_len own
    have hsep : (Str.ofString " ").length = 1 := sepS_length
    (((refine SW.cons ?_); (refine' SX.new ?dl_155 ?k_155); (case dl_155 => wtm_at "m.del")))
    refine SW.cons ?_
    let GW : List (Str × List Str) → AEnv := fun st => [("found", .ow (st.map pairD)), ("texts", .sh (sL ts)), ("own", .sh (sLL own))]
    refine' SX.for_ ?hit (fun i Γ => Γ = GW ((List.range i).filterMap (foundAt ts own))) ?h0 ?turn ?done
    case hit =>
      refine' ItE.range1 hA hr ?e ?_ ?_
      case e =>
        (repeat' wtm_at "m.s")
        rw [List.length_map]; (first | assumption | exact lin1 (by assumption) (by decide) | exact lin2 (by assumption) (by assumption) (by decide) | (unfold sizeLine; omega))
      · omega
      · rw [List.length_map]; omega
    case h0 => exact ⟨GW [], by (((repeat (first | exact sub_nil | refine' sub_cons (by (((try dsimp only [thaw, List.map, thaw1]); (repeat (first | with_reducible exact List.mem_cons_self | with_reducible refine' List.mem_cons_of_mem _ ?_)); done))) ?_)); done)), rfl⟩
    case turn =>
      rintro i d Γ' hd rfl
      obtain ⟨rfl, hi⟩ := rangeD0_get hd
      rw [List.length_map] at hi
      have hi : i < own.length := by omega
      refine ⟨_, Tgt.name (by wtm_at "m.del"), ?_⟩
      rw [List.range_succ, List.filterMap_append]
      have hfl : ((List.range i).filterMap (foundAt ts own)).length ≤ i := Nat.le_trans (List.length_filterMap_le ..) (by rw [List.length_range]; omega)
      generalize (List.range i).filterMap (foundAt ts own) = found at hfl ⊢
      refine SW.cons ?_
      refine' SX.ifs (PB.bools (PBs.and ?t1 ?r1)) ?a1 ?b1
      case t1 =>
        (repeat' wtm_at "m.s")
        · omega
        · omega
        · (first | assumption | exact lin1 (by assumption) (by decide) | exact lin2 (by assumption) (by assumption) (by decide) | (unfold sizeLine; omega))
      case r1 =>
        intro _
        refine' PBs.and (PB.bools (PBs.or ?t2 ?r2)) (fun _ => PBs.andNil)
        case t2 => (repeat' wtm_at "m.s")
        case r2 =>
          intro h
          have h := of_decide_eq_false h
          refine' PBs.or ?t3 (fun _ => PBs.orNil)
          (repeat' wtm_at "m.s")
          · omega
          · omega
          · (first | assumption | exact lin1 (by assumption) (by decide) | exact lin2 (by assumption) (by assumption) (by decide) | (unfold sizeLine; omega))
      case a1 =>
        intro hb
        simp only [List.isEmpty_map] at hb
        have hc : own.getD i [] ≠ [] ∧ (i = 0 ∨ own.getD (i - 1) [] = []) := by
          rw [show ((i : Int) - 1).toNat = i - 1 by omega, show ((i : Int)).toNat = i by omega] at hb
          simp only [Bool.and_true, Bool.or_false, Bool.and_eq_true, Bool.or_eq_true, decide_eq_true_eq, Bool.not_eq_true', List.isEmpty_eq_false_iff, List.isEmpty_iff] at hb
          exact ⟨hb.1, by rcases hb.2 with h | h; exact .inl (by omega); exact .inr h⟩
        have hst := stopAt_le own i (by omega)
        have hst0 : i ≤ stopAt own i := by unfold stopAt; omega
        have hmm := stop_min own i (by omega)
        refine SW.cons ?_
        refine' SX.assignT (d := .int (stopAt own i)) (PE.bcall (n := 0) hA hmin (PEs.cons (PE.cast (PE.bin (PE.compM (xs := List.range (own.length - i)) (fun (k : Nat) => .int (i + k)) (fun (k : Nat) => .int (i + k)) (fun k => (own.getD (i + k) []).isEmpty) [("own", .sh (sLL own))] ?inj (fun _ => trivial) ?it ?csz ?cap ?te ?el) ?lst (BinOk.addL ?az)) ?q) PEs.nil) (CallB.min hmm.1 hmm.2)) trivial ?dl ?k
        case inj => intro a b h; injection h with h; omega
        case it =>
          refine' ItE.cast (ItE.range2 hA hr ?e1 ?e2 ?_ ?_ ?_ ?_) ?qq
          case e1 => (repeat' wtm_at "m.s")
          case e2 =>
            (repeat' wtm_at "m.s")
            rw [List.length_map]; (first | assumption | exact lin1 (by assumption) (by decide) | exact lin2 (by assumption) (by assumption) (by decide) | (unfold sizeLine; omega))
          case qq =>
            rw [List.length_map]
            unfold rangeD
            rw [show ((own.length : Int) - i).toNat = own.length - i by omega]
          · omega
          · omega
          · omega
          · rw [List.length_map]; omega
        case csz => rw [List.length_range]; (first | assumption | exact lin1 (by assumption) (by decide) | exact lin2 (by assumption) (by assumption) (by decide) | (unfold sizeLine; omega))
        case cap => exact Cap.cons (by (((try dsimp only [thaw, List.map, thaw1]); (repeat (first | with_reducible exact List.mem_cons_self | with_reducible refine' List.mem_cons_of_mem _ ?_)); done))) rfl (fun D => rfl) rfl Cap.nil
        case te =>
          intro D k hk
          have hk := List.mem_range.mp hk
          refine' PTs.one (PB.cast ?pb ?qb)
          case pb =>
            (repeat' wtm_at "m.s")
            · omega
            · omega
            · (first | assumption | exact lin1 (by assumption) (by decide) | exact lin2 (by assumption) (by assumption) (by decide) | (unfold sizeLine; omega))
          case qb => rw [List.isEmpty_map, show ((i : Int) + k).toNat = i + k by omega]
        case el =>
          intro D k hk _
          (repeat' wtm_at "m.s")
        case lst =>
          (repeat' wtm_at "m.s")
          rw [List.length_map]; (first | assumption | exact lin1 (by assumption) (by decide) | exact lin2 (by assumption) (by assumption) (by decide) | (unfold sizeLine; omega))
        case az =>
          have h1 := List.length_filter_le (fun k => (own.getD (i + k) []).isEmpty) (List.range (own.length - i))
          rw [List.length_range] at h1
          rw [List.length_map]
          show _ + 1 ≤ _
          (first | assumption | exact lin1 (by assumption) (by decide) | exact lin2 (by assumption) (by assumption) (by decide) | (unfold sizeLine; omega))
        case q =>
          unfold stopNs
          rw [List.map_append, List.map_map, List.length_map]
          rfl
        case dl => wtm_at "m.del"
        have hz3 := szL_take 1 (ts.drop i) (stopAt own i - i)
        have hz4 := szL_drop 1 ts i
        have hz5 := lenLL_take (own.drop i) (stopAt own i - i)
        have hz6 := lenLL_drop own i
        have hz7 := lenLL_flat ((own.drop i).take (stopAt own i - i))
        have hz8 := len_szL ((own.drop i).take (stopAt own i - i)).flatten
        have e1 : cutL ts (some (i : Int)) (some (stopAt own i : Int)) = (ts.drop i).take (stopAt own i - i) := by rw [cutL_mid _ (by omega) (by omega) (by omega)]; rfl
        have e2 : cutL own (some (i : Int)) (some (stopAt own i : Int)) = (own.drop i).take (stopAt own i - i) := by rw [cutL_mid _ (by omega) (by omega) (by omega)]; rfl
        refine SW.cons ?_
        refine' SX.append (d := pairD (jn ((ts.drop i).take (stopAt own i - i)), ((own.drop i).take (stopAt own i - i)).flatten)) ?hm (PE.tuple (PEs.cons ?f1 (PEs.cons (PE.cast (PE.flat (L := ((own.drop i).take (stopAt own i - i)).map (·.map .str)) hA (ItE.list hA.1 ?f2) rfl ?f3 ?f4 ?f5) ?f6) PEs.nil)) (Nat.le_of_ble_eq_true rfl)) ?dl2 ?k2 ?sz
        case hm => (((try dsimp only [thaw, List.map, thaw1]); (repeat (first | with_reducible exact List.mem_cons_self | with_reducible refine' List.mem_cons_of_mem _ ?_)); done))
        case f1 =>
          rw [← e1]
          unfold jn
          (repeat' wtm_at "m.s")
          · (first | assumption | exact lin1 (by assumption) (by decide) | exact lin2 (by assumption) (by assumption) (by decide) | (unfold sizeLine; omega))
          · refine joinOk_of ?_
            rw [hsep, e1]; (first | assumption | exact lin1 (by assumption) (by decide) | exact lin2 (by assumption) (by assumption) (by decide) | (unfold sizeLine; omega))
        case f2 =>
          refine' PE.cast ?g1 ?g2
          case g1 =>
            (repeat' wtm_at "m.s")
            (first | assumption | exact lin1 (by assumption) (by decide) | exact lin2 (by assumption) (by assumption) (by decide) | (unfold sizeLine; omega))
          case g2 => rw [e2, List.map_map]; rfl
        case f3 =>
          intro es hes d hd
          obtain ⟨o, _, rfl⟩ := List.mem_map.mp hes
          obtain ⟨y, _, rfl⟩ := List.mem_map.mp hd
          trivial
        case f4 => rw [← List.map_flatten, List.length_map]; (first | assumption | exact lin1 (by assumption) (by decide) | exact lin2 (by assumption) (by assumption) (by decide) | (unfold sizeLine; omega))
        case f5 => exact ofS_ne (by decide)
        case f6 => rw [← List.map_flatten]
        case dl2 => wtm_at "m.del"
        case sz => rw [List.length_map]; (first | assumption | exact lin1 (by assumption) (by decide) | exact lin2 (by assumption) (by assumption) (by decide) | (unfold sizeLine; omega))
        refine SW.nil (SW.nil (LoopPost.nextI (Γ' := GW (found ++ [(jn ((ts.drop i).take (stopAt own i - i)), ((own.drop i).take (stopAt own i - i)).flatten)])) ?_ ?_))
        · rw [show [i].filterMap (foundAt ts own) = [(jn ((ts.drop i).take (stopAt own i - i)), ((own.drop i).take (stopAt own i - i)).flatten)] from ?_]
          rw [List.filterMap_cons, List.filterMap_nil]
          unfold foundAt
          rw [if_pos hc]
        · dsimp only [GW]
          rw [List.map_append]
          (((repeat (first | exact sub_nil | refine' sub_cons (by (((try dsimp only [thaw, List.map, thaw1]); (repeat (first | with_reducible exact List.mem_cons_self | with_reducible refine' List.mem_cons_of_mem _ ?_)); done))) ?_)); done))
      case b1 =>
        intro hb
        simp only [List.isEmpty_map] at hb
        have hc : ¬ (own.getD i [] ≠ [] ∧ (i = 0 ∨ own.getD (i - 1) [] = [])) := by
          rw [show ((i : Int) - 1).toNat = i - 1 by omega, show ((i : Int)).toNat = i by omega] at hb
          rintro ⟨h1, h2⟩
          have h3 : (decide ((i : Int) = 0) || (own.getD (i - 1) []).isEmpty) = true := by
            rcases h2 with h2 | h2
            · simp [h2]
            · rw [h2]; simp
          have h4 : (own.getD i []).isEmpty = false := by simpa using h1
          rw [h4, Bool.or_false, h3] at hb
          cases hb
        refine SW.nil (SW.nil (LoopPost.nextI (Γ' := GW found) ?_ (by (((repeat (first | exact sub_nil | refine' sub_cons (by (((try dsimp only [thaw, List.map, thaw1]); (repeat (first | with_reducible exact List.mem_cons_self | with_reducible refine' List.mem_cons_of_mem _ ?_)); done))) ?_)); done)))))
        rw [List.filterMap_cons, List.filterMap_nil]
        unfold foundAt
        rw [if_neg hc]
        simp
    case done =>
      rintro Γ' rfl
      dsimp only [GW]
      (((refine SW.cons ?_); (refine' SX.ret ?e_185 (show _ = _ from ?k_185)); (case' e_185 => (repeat' wtm_at "m.s"))))
      rw [rangeD_len, List.length_map]
      unfold foundF
      congr 3
end

/-! text WH -/

noncomputable def fitNs (w : Int) (rest : List Str) : List Int := 1 :: ((List.range rest.length).filter fun k => fitsB w rest (k + 1)).map (fun (k : Nat) => (1 : Int) + k)
theorem nfit_aux (p : Nat → Bool) : ∀ n : Nat, 1 ≤ (List.range n).foldl (fun m k => if p (k + 1) then k + 1 else m) 1 ∧ (∀ k, k < n → p (k + 1) = true → k + 1 ≤ (List.range n).foldl (fun m k => if p (k + 1) then k + 1 else m) 1) ∧
    ((List.range n).foldl (fun m k => if p (k + 1) then k + 1 else m) 1 = 1 ∨ ∃ k, k < n ∧ p (k + 1) = true ∧ (List.range n).foldl (fun m k => if p (k + 1) then k + 1 else m) 1 = k + 1)
  | 0 => ⟨Nat.le_refl _, fun k hk => absurd hk (Nat.not_lt_zero _), .inl rfl⟩
  | n + 1 => by
    have ih := nfit_aux p n
    rw [List.range_succ, List.foldl_append]
    generalize (List.range n).foldl (fun m k => if p (k + 1) then k + 1 else m) 1 = r at ih ⊢
    show 1 ≤ (if p (n + 1) then n + 1 else r) ∧ (∀ k, k < n + 1 → p (k + 1) = true → k + 1 ≤ (if p (n + 1) then n + 1 else r)) ∧ ((if p (n + 1) then n + 1 else r) = 1 ∨ ∃ k, k < n + 1 ∧ p (k + 1) = true ∧ (if p (n + 1) then n + 1 else r) = k + 1)
    by_cases hp : p (n + 1) = true
    · rw [if_pos hp]
      exact ⟨by omega, fun k hk _ => by omega, .inr ⟨n, by omega, hp, rfl⟩⟩
    · rw [if_neg hp]
      refine ⟨ih.1, fun k hk hq => ?_, ?_⟩
      · by_cases hkn : k = n
        · subst hkn; exact absurd hq hp
        · exact ih.2.1 k (by omega) hq
      · rcases ih.2.2 with h | ⟨k, h1, h2, h3⟩
        · exact .inl h
        · exact .inr ⟨k, by omega, h2, h3⟩
theorem nfit_max (w : Int) (rest : List Str) : ((nfit w rest : Nat) : Int) ∈ fitNs w rest ∧ ∀ a ∈ fitNs w rest, a ≤ ((nfit w rest : Nat) : Int) := by
  have h := nfit_aux (fitsB w rest) rest.length
  unfold nfit fitNs
  generalize (List.range rest.length).foldl (fun m k => if fitsB w rest (k + 1) then k + 1 else m) 1 = r at h ⊢
  constructor
  · rcases h.2.2 with h | ⟨k, h1, h2, h3⟩
    · rw [h]; exact List.mem_cons_self
    · exact List.mem_cons_of_mem _ (List.mem_map.mpr ⟨k, List.mem_filter.mpr ⟨List.mem_range.mpr h1, h2⟩, by omega⟩)
  · intro a ha
    rcases List.mem_cons.mp ha with rfl | ha
    · omega
    · obtain ⟨k, hk, rfl⟩ := List.mem_map.mp ha
      obtain ⟨h1, h2⟩ := List.mem_filter.mp hk
      have := h.2.1 k (List.mem_range.mp h1) h2
      omega
theorem fill_size (w : Int) (heap : List Str) : ∀ n, szL 1 ((List.range n).foldl (fun st _ => fillStep w st) ([], heap)).2 ≤ szL 1 heap ∧ ((List.range n).foldl (fun st _ => fillStep w st) (([] : List (List Str)), heap)).1.length ≤ n
  | 0 => ⟨Nat.le_refl _, Nat.le_refl _⟩
  | n + 1 => by
    have ih := fill_size w heap n
    rw [List.range_succ, List.foldl_append]
    generalize (List.range n).foldl (fun st _ => fillStep w st) (([] : List (List Str)), heap) = st at ih ⊢
    show szL 1 (fillStep w st).2 ≤ _ ∧ (fillStep w st).1.length ≤ _
    unfold fillStep
    split
    · exact ⟨ih.1, by omega⟩
    · refine ⟨Nat.le_trans (szL_drop 1 st.2 _) ih.1, ?_⟩
      show (st.1 ++ [_]).length ≤ _
      rw [List.length_append]; show _ + 1 ≤ _; omega

section
variable {G : Glo}
theorem fn_fill (hD : DefK G 14) (hl : Bi G "len" (.builtin "len")) (hr : Bi G "range" (.type "range")) (hmax : Bi G "max" (.builtin "max")) : Fn G 1 "_law_fill" P_fill := by
  refine Fn.of (n := 0) (names := ["heap", "width"]) hD (by ((intro pm code doc vs hv; (obtain _ | ⟨v1, _ | ⟨v2, _ | _⟩⟩ := vs <;> simp at hv); rfl))) ?_ ?_ (by decide) (by ((intro L a code x hx; (repeat (rcases List.mem_cons.mp hx with h1 | hx; (subst h1; first | exact .inl rfl | exact .inr ⟨rfl, _, rfl⟩))); cases hx)))
  · rintro ds r ⟨s, f, rfl, rfl, _⟩; rfl
  · rintro ds r ⟨heap, w, rfl, rfl, hz⟩ A s₀ X₀ L a code hA
    show SW _ [("heap", .sh (sL heap)), ("width", .sh (.int w))] _ _
    (((conv => arg 3; whnf); (conv => arg 1; arg 5; arg 1; whnf)))
    have hl2 := len_szL heap
    have hsep : (Str.ofString " ").length = 1 := sepS_length
    (((refine SW.cons ?_); (refine' SX.new ?dl_189 ?k_189); (case dl_189 => wtm_at "m.del")))
    (((refine SW.cons ?_); (refine' SX.assign ?e_190 ?dl_190 ?k_190); (case' e_190 => (repeat' wtm_at "m.s")); (case' dl_190 => wtm_at "m.del")))
    refine SW.cons ?_
    let GW : List (List Str) × List Str → AEnv := fun st => [("rest", .sh (sL st.2)), ("lines", .ow (st.1.map sL)), ("heap", .sh (sL heap)), ("width", .sh (.int w))]
    refine' SX.for_ ?hit (fun i Γ => Γ = GW ((List.range i).foldl (fun st _ => fillStep w st) ([], heap))) ?h0 ?turn ?done
    case hit =>
      refine' ItE.range1 hA hr ?e ?_ ?_
      case e =>
        (repeat' wtm_at "m.s")
        rw [List.length_map]; (first | assumption | exact lin1 (by assumption) (by decide) | exact lin2 (by assumption) (by assumption) (by decide) | (unfold sizeLine; omega))
      · omega
      · rw [List.length_map]; omega
    case h0 => exact ⟨GW ([], heap), by (((repeat (first | exact sub_nil | refine' sub_cons (by (((try dsimp only [thaw, List.map, thaw1]); (repeat (first | with_reducible exact List.mem_cons_self | with_reducible refine' List.mem_cons_of_mem _ ?_)); done))) ?_)); done)), rfl⟩
    case turn =>
      rintro i d Γ' hd rfl
      obtain ⟨rfl, hi⟩ := rangeD0_get hd
      rw [List.length_map] at hi
      have hi : i < heap.length := by omega
      refine ⟨_, Tgt.name (by wtm_at "m.del"), ?_⟩
      rw [List.range_succ, List.foldl_append]
      have hz1 := fill_size w heap i
      generalize (List.range i).foldl (fun st _ => fillStep w st) (([] : List (List Str)), heap) = st at hz1 ⊢
      obtain ⟨lines, rest⟩ := st
      dsimp only at hz1 ⊢
      have hl3 := len_szL rest
      show SW _ _ _ (LoopPost _ (fun Γ => Γ = GW (fillStep w (lines, rest))) _)
      refine SW.cons ?_
      refine' SX.ifs ?t1 ?a1 ?b1
      case t1 => (repeat' wtm_at "m.s")
      case a1 =>
        intro hb
        simp only [List.isEmpty_map, Bool.not_eq_true', List.isEmpty_eq_false_iff] at hb
        have hmm := nfit_max w rest
        have hsz9 : ((List.range rest.length).filter fun k => fitsB w rest (k + 1)).length ≤ rest.length := Nat.le_trans (List.length_filter_le _ _) (by rw [List.length_range]; omega)
        refine SW.cons ?_
        refine' SX.assignCompM (xs := List.range rest.length) (fun (k : Nat) => .int (1 + k)) (fun (k : Nat) => .int (1 + k)) (fun k => fitsB w rest (k + 1)) [("width", .sh (.int w)), ("rest", .sh (sL rest))] ?inj (fun _ => trivial) ?it ?csz ?cap ?te ?el ?dl ?k
        case inj => intro a b h; injection h with h; omega
        case it =>
          refine' ItE.cast (ItE.range2 hA hr ?e1 ?e2 ?_ ?_ ?_ ?_) ?qq
          case e1 => (repeat' wtm_at "m.s")
          case e2 =>
            (repeat' wtm_at "m.s")
            rw [List.length_map]; (first | assumption | exact lin1 (by assumption) (by decide) | exact lin2 (by assumption) (by assumption) (by decide) | (unfold sizeLine; omega))
          case qq =>
            rw [List.length_map]
            unfold rangeD
            rw [show ((rest.length : Int) + 1 - 1).toNat = rest.length by omega]
          · omega
          · omega
          · omega
          · rw [List.length_map]; omega
        case csz => rw [List.length_range]; (first | assumption | exact lin1 (by assumption) (by decide) | exact lin2 (by assumption) (by assumption) (by decide) | (unfold sizeLine; omega))
        case cap => exact Cap.cons (by (((try dsimp only [thaw, List.map, thaw1]); (repeat (first | with_reducible exact List.mem_cons_self | with_reducible refine' List.mem_cons_of_mem _ ?_)); done))) rfl (fun D => rfl) rfl (Cap.cons (by (((try dsimp only [thaw, List.map, thaw1]); (repeat (first | with_reducible exact List.mem_cons_self | with_reducible refine' List.mem_cons_of_mem _ ?_)); done))) rfl (fun D => rfl) rfl Cap.nil)
        case te =>
          intro D k hk
          have hk := List.mem_range.mp hk
          have hz3 := szL_take 1 rest (k + 1)
          have ec : cutL rest none (some (1 + k : Int)) = rest.take (k + 1) := by rw [cutL_to _ (by omega)]; congr 1; omega
          refine' PTs.one (PB.cast ?pb ?qb)
          case pb =>
            (repeat' wtm_at "m.s")
            · (first | assumption | exact lin1 (by assumption) (by decide) | exact lin2 (by assumption) (by assumption) (by decide) | (unfold sizeLine; omega))
            · refine joinOk_of ?_
              rw [hsep, ec]; (first | assumption | exact lin1 (by assumption) (by decide) | exact lin2 (by assumption) (by assumption) (by decide) | (unfold sizeLine; omega))
            · rw [ec]
              exact Nat.le_trans (jn_length' (rest.take (k + 1))) (by (first | assumption | exact lin1 (by assumption) (by decide) | exact lin2 (by assumption) (by assumption) (by decide) | (unfold sizeLine; omega)))
          case qb =>
            rw [ec]
            rfl
        case el =>
          intro D k hk _
          (repeat' wtm_at "m.s")
        case dl => wtm_at "m.del"
        refine SW.cons ?_
        refine' SX.assignT (d := .int (nfit w rest)) (PE.bcall (n := 0) hA hmax (PEs.cons (PE.cast (PE.bin ?l1 ?l2 (BinOk.addL ?az)) ?q) PEs.nil) (CallB.max hmm.1 hmm.2)) trivial ?dl2 ?k2
        case l1 => (repeat' wtm_at "m.s")
        case l2 => (repeat' wtm_at "m.s")
        case az =>
          rw [List.length_map]
          show 1 + _ ≤ _
          (first | assumption | exact lin1 (by assumption) (by decide) | exact lin2 (by assumption) (by assumption) (by decide) | (unfold sizeLine; omega))
        case q =>
          unfold fitNs
          rw [List.map_cons, List.map_map]
          rfl
        case dl2 => wtm_at "m.del"
        have e1 : cutL rest none (some (nfit w rest : Int)) = rest.take (nfit w rest) := by rw [cutL_to _ (by omega)]; rfl
        have e2 : cutL rest (some (nfit w rest : Int)) none = rest.drop (nfit w rest) := by rw [cutL_from _ (by omega)]; rfl
        (((refine SW.cons ?_); (refine' SX.append ?hm_209 ?e_209 ?dl_209 ?k_209 ?sz_209); (case' hm_209 => (((try dsimp only [thaw, List.map, thaw1]); (repeat (first | with_reducible exact List.mem_cons_self | with_reducible refine' List.mem_cons_of_mem _ ?_)); done))); (case' e_209 => (repeat' wtm_at "m.s")); (case' dl_209 => wtm_at "m.del")))
        · (first | assumption | exact lin1 (by assumption) (by decide) | exact lin2 (by assumption) (by assumption) (by decide) | (unfold sizeLine; omega))
        rotate_left 1
        · rw [List.length_map]; (first | assumption | exact lin1 (by assumption) (by decide) | exact lin2 (by assumption) (by assumption) (by decide) | (unfold sizeLine; omega))
        (((refine SW.cons ?_); (refine' SX.assign ?e_212 ?dl_212 ?k_212); (case' e_212 => (repeat' wtm_at "m.s")); (case' dl_212 => wtm_at "m.del")))
        · (first | assumption | exact lin1 (by assumption) (by decide) | exact lin2 (by assumption) (by assumption) (by decide) | (unfold sizeLine; omega))
        rw [e1, e2]
        refine SW.nil (SW.nil (LoopPost.nextI (Γ' := GW (lines ++ [rest.take (nfit w rest)], rest.drop (nfit w rest))) ?_ ?_))
        · unfold fillStep; rw [if_neg hb]
        · dsimp only [GW]
          rw [List.map_append]
          (((repeat (first | exact sub_nil | refine' sub_cons (by (((try dsimp only [thaw, List.map, thaw1]); (repeat (first | with_reducible exact List.mem_cons_self | with_reducible refine' List.mem_cons_of_mem _ ?_)); done))) ?_)); done))
      case b1 =>
        intro hb
        simp only [List.isEmpty_map, Bool.not_eq_false', List.isEmpty_iff] at hb
        refine SW.nil (SW.nil (LoopPost.nextI (Γ' := GW (lines, rest)) ?_ (by (((repeat (first | exact sub_nil | refine' sub_cons (by (((try dsimp only [thaw, List.map, thaw1]); (repeat (first | with_reducible exact List.mem_cons_self | with_reducible refine' List.mem_cons_of_mem _ ?_)); done))) ?_)); done)))))
        unfold fillStep; rw [if_pos hb]
    case done =>
      rintro Γ' rfl
      dsimp only [GW]
      (((refine SW.cons ?_); (refine' SX.ret ?e_216 (show _ = _ from ?k_216)); (case' e_216 => (repeat' wtm_at "m.s"))))
      rw [rangeD_len, List.length_map]
      unfold fillF
      congr 4
end

/-! text PC -/

/-! ## Filling lines -/
noncomputable def goL (w : Int) : List Str → List Str → List (List Str)
  | cur, [] => [cur]
  | cur, x :: r => if ((jn cur).length : Int) + 1 + x.length ≤ w then goL w (cur ++ [x]) r else cur :: goL w [x] r
noncomputable def lay (w : Int) : List Str → List (List Str)
  | [] => []
  | x :: r => goL w [x] r

theorem cl_jn_snoc : ∀ (cur : List Str) (x : Str), cur ≠ [] → cl (jn (cur ++ [x])) = cl (jn cur) ++ 32 :: cl x
  | [], _, h => absurd rfl h
  | [y], x, _ => by
    show cl (jn (y :: x :: [])) = _
    rw [cl_jn_cons, jn_one, jn_one]
  | y :: z :: r, x, _ => by
    show cl (jn (y :: z :: (r ++ [x]))) = _
    rw [cl_jn_cons, cl_jn_cons, show z :: (r ++ [x]) = (z :: r) ++ [x] from rfl, cl_jn_snoc (z :: r) x (by simp), List.append_assoc]
    rfl
theorem jn_snoc (cur : List Str) (x : Str) (h : cur ≠ []) : jn (cur ++ [x]) = jn cur ++ sepS ++ x := by
  refine cl_inj ?_
  rw [cl_jn_snoc cur x h, cl_append, cl_append, cl_sep, List.append_assoc]
  rfl
theorem jn_snoc_len (cur : List Str) (x : Str) (h : cur ≠ []) : (jn (cur ++ [x])).length = (jn cur).length + 1 + x.length := by
  rw [jn_snoc cur x h, Str.length_append, Str.length_append, sepS_length]

theorem goL_flat (w : Int) : ∀ (r cur : List Str), (goL w cur r).flatten = cur ++ r
  | [], cur => by simp [goL]
  | x :: r, cur => by
    unfold goL
    split
    · rw [goL_flat w r]; simp
    · rw [List.flatten_cons, goL_flat w r]; rfl
theorem lay_flat (w : Int) (ws : List Str) : (lay w ws).flatten = ws := by
  cases ws with
  | nil => rfl
  | cons x r => exact goL_flat w r [x]
noncomputable def LineOk (w : Int) (l : List Str) : Prop := l ≠ [] ∧ (((jn l).length : Int) ≤ w ∨ l.length = 1)
theorem goL_ok (w : Int) : ∀ (r cur : List Str), LineOk w cur → ∀ l ∈ goL w cur r, LineOk w l
  | [], cur, h, l, hl => by cases List.mem_singleton.mp hl; exact h
  | x :: r, cur, h, l, hl => by
    unfold goL at hl
    split at hl
    · refine goL_ok w r _ ⟨by simp, .inl ?_⟩ l hl
      rw [jn_snoc_len cur x h.1]; omega
    · rcases List.mem_cons.mp hl with rfl | hl
      · exact h
      · exact goL_ok w r _ ⟨by simp, .inr rfl⟩ l hl
theorem lay_ok (w : Int) (ws : List Str) : ∀ l ∈ lay w ws, LineOk w l := by
  cases ws with
  | nil => intro l hl; cases hl
  | cons x r => exact goL_ok w r [x] ⟨by simp, .inr rfl⟩
theorem lay_mem {w : Int} {ws : List Str} {l : List Str} (h : l ∈ lay w ws) : ∀ x ∈ l, x ∈ ws := by
  intro x hx
  rw [← lay_flat w ws]
  exact List.mem_flatten.mpr ⟨l, h, hx⟩
theorem lay_ne {w : Int} {ws : List Str} (h : ws ≠ []) : lay w ws ≠ [] := by
  intro e
  have := lay_flat w ws
  rw [e] at this
  exact h this.symm

/-! ### the program's own way -/
theorem jn_ne {cur : List Str} (h : cur ≠ []) (hw : ∀ x ∈ cur, x ≠ nilS) : jn cur ≠ nilS := by
  intro e
  cases cur with
  | nil => exact h rfl
  | cons x r =>
    cases r with
    | nil => rw [jn_one] at e; exact hw x List.mem_cons_self e
    | cons y r =>
      have := congrArg cl e
      rw [cl_jn_cons, cl_nil] at this
      simp at this
noncomputable def wfin (st : List Str × Str) : List Str := if st.2 = nilS then st.1 else st.1 ++ [st.2]
theorem wrap_goL (w : Int) : ∀ (r cur : List Str) (ls : List Str), cur ≠ [] → (∀ x ∈ cur, x ≠ nilS) → (∀ x ∈ r, x ≠ nilS) → wfin (r.foldl (wrapStep w) (ls, jn cur)) = ls ++ (goL w cur r).map jn
  | [], cur, ls, h, h1, h2 => by
    show wfin (ls, jn cur) = _
    unfold wfin
    rw [if_neg (jn_ne h h1)]
    rfl
  | x :: r, cur, ls, h, h1, h2 => by
    have e : wrapStep w (ls, jn cur) x = if ((jn cur).length : Int) + 1 + x.length ≤ w then (ls, jn cur ++ sepS ++ x) else (ls ++ [jn cur], x) := by unfold wrapStep; rw [if_neg (jn_ne h h1)]
    rw [List.foldl_cons, e]
    unfold goL
    split
    · rw [← jn_snoc cur x h]
      refine wrap_goL w r _ ls (by simp) ?_ fun y hy => h2 y (List.mem_cons_of_mem _ hy)
      intro y hy
      rcases List.mem_append.mp hy with hy | hy
      · exact h1 y hy
      · cases List.mem_singleton.mp hy; exact h2 _ List.mem_cons_self
    · have := wrap_goL w r [x] (ls ++ [jn cur]) (by simp) (by intro y hy; cases List.mem_singleton.mp hy; exact h2 _ List.mem_cons_self) fun y hy => h2 y (List.mem_cons_of_mem _ hy)
      rw [jn_one] at this
      rw [this, List.append_assoc]
      rfl
theorem wrapF_lay (w : Int) (ws : List Str) (h : ∀ x ∈ ws, x ≠ nilS) : wrapF w ws = (lay w ws).map jn := by
  cases ws with
  | nil => exact if_pos rfl
  | cons x r =>
    show wfin ((x :: r).foldl (wrapStep w) ([], nilS)) = _
    rw [List.foldl_cons]
    have e : wrapStep w ([], nilS) x = ([], jn [x]) := by unfold wrapStep; rw [if_pos rfl, jn_one]
    rw [e, wrap_goL w r [x] [] (by simp) (by intro y hy; cases List.mem_singleton.mp hy; exact h _ List.mem_cons_self) fun y hy => h y (List.mem_cons_of_mem _ hy)]
    rfl

/-! ### the law's own way -/
noncomputable def layR (w : Int) : Nat → List Str → List (List Str)
  | 0, _ => []
  | n + 1, ws => if ws = [] then [] else ws.take (nfit w ws) :: layR w n (ws.drop (nfit w ws))
theorem nfit_pos (w : Int) (ws : List Str) : 1 ≤ nfit w ws := (nfit_aux (fitsB w ws) ws.length).1
theorem fillF_layR_aux (w : Int) : ∀ (n : Nat) (ls : List (List Str)) (ws : List Str), ((List.range n).foldl (fun st _ => fillStep w st) (ls, ws)).1 = ls ++ layR w n ws := by
  intro n
  have e : ∀ (n : Nat) (st : List (List Str) × List Str), (List.range n).foldl (fun st _ => fillStep w st) st = Nat.repeat (fillStep w) n st := by
    intro n st
    induction n with
    | zero => rfl
    | succ n ih => rw [List.range_succ, List.foldl_append, ih]; rfl
  have e2 : ∀ (n : Nat) (st : List (List Str) × List Str), Nat.repeat (fillStep w) (n + 1) st = Nat.repeat (fillStep w) n (fillStep w st) := by
    intro n st
    induction n with
    | zero => rfl
    | succ n ih => rw [Nat.repeat, ih]; rfl
  induction n with
  | zero => intro ls ws; simp [layR]
  | succ n ih =>
    intro ls ws
    rw [e, e2, ← e]
    by_cases h : ws = []
    · rw [show fillStep w (ls, ws) = (ls, ws) from if_pos h, ih, h]
      cases n with
      | zero => simp [layR]
      | succ n => simp [layR]
    · rw [show fillStep w (ls, ws) = (ls ++ [ws.take (nfit w ws)], ws.drop (nfit w ws)) from if_neg h, ih, List.append_assoc, layR, if_neg h]
      rfl
theorem fillF_layR (w : Int) (ws : List Str) : fillF w ws = layR w ws.length ws := by
  unfold fillF
  rw [fillF_layR_aux]
  rfl
theorem jn_take_succ (ws : List Str) (k : Nat) (hk : 1 ≤ k) (h : k < ws.length) : (jn (ws.take (k + 1))).length = (jn (ws.take k)).length + 1 + (ws[k]).length := by
  rw [List.take_add_one, List.getElem?_eq_getElem h]
  exact jn_snoc_len _ _ (by rw [ne_eq, List.take_eq_nil_iff]; rintro (h0 | h0); omega; subst h0; simp at h)
theorem jn_take_mono (ws : List Str) {k m : Nat} (hk : 1 ≤ k) (hkm : k ≤ m) (hm : m ≤ ws.length) : (jn (ws.take k)).length ≤ (jn (ws.take m)).length := by
  induction m with
  | zero => omega
  | succ m ih =>
    by_cases h : k = m + 1
    · subst h; exact Nat.le_refl _
    · have := ih (by omega) (by omega)
      have h2 := jn_take_succ ws m (by omega) (by omega)
      omega
/-- the greatest count that fits -/
theorem nfit_eq (w : Int) (ws : List Str) (j : Nat) (hj : 1 ≤ j) (hjl : j ≤ ws.length) (h1 : j = 1 ∨ ((jn (ws.take j)).length : Int) ≤ w) (h2 : j = ws.length ∨ ¬ ((jn (ws.take (j + 1))).length : Int) ≤ w) : nfit w ws = j := by
  have h := nfit_aux (fitsB w ws) ws.length
  unfold nfit
  generalize (List.range ws.length).foldl (fun m k => if fitsB w ws (k + 1) then k + 1 else m) 1 = r at h ⊢
  obtain ⟨ha, hb, hc⟩ := h
  have hle : j ≤ r := by
    rcases h1 with h1 | h1
    · omega
    · have := hb (j - 1) (by omega) (by unfold fitsB; rw [show j - 1 + 1 = j by omega]; exact decide_eq_true h1)
      omega
  have hge : r ≤ j := by
    rcases hc with hc | ⟨k, hk, hf, hr⟩
    · omega
    · rcases h2 with h2 | h2
      · omega
      · apply Decidable.byContradiction
        intro hlt
        have hf := of_decide_eq_true hf
        have := jn_take_mono ws (k := j + 1) (m := k + 1) (by omega) (by omega) (by omega)
        omega
  omega
theorem goL_layR (w : Int) : ∀ (r : List Str) (ws cur : List Str) (j n : Nat), ws = cur ++ r → j = cur.length → 1 ≤ j → (j = 1 ∨ ((jn cur).length : Int) ≤ w) → ws.length ≤ n → goL w cur r = layR w n ws
  | [], ws, cur, j, n, e, hj, h1, h2, hn => by
    rw [List.append_nil] at e
    subst e
    have hnf : nfit w ws = ws.length := nfit_eq w ws ws.length (by omega) (Nat.le_refl _) (by rw [List.take_length]; rcases h2 with h2 | h2; exact .inl (by omega); exact .inr h2) (.inl rfl)
    cases n with
    | zero => omega
    | succ n =>
      unfold goL layR
      rw [if_neg (by rintro rfl; simp at hj; omega), hnf, List.take_length, List.drop_length]
      cases n with
      | zero => rfl
      | succ n => simp [layR]
  | x :: r, ws, cur, j, n, e, hj, h1, h2, hn => by
    have hcur : cur ≠ [] := by rintro rfl; simp at hj; omega
    unfold goL
    split
    · refine goL_layR w r ws (cur ++ [x]) (j + 1) n (by rw [e]; simp) (by rw [List.length_append, hj]; rfl) (by omega) (.inr ?_) hn
      rw [jn_snoc_len cur x hcur]; omega
    · rename_i hno
      have ht : ws.take j = cur := by rw [e, hj, List.take_left']; rfl
      have hd : ws.drop j = x :: r := by rw [e, hj, List.drop_left']; rfl
      have ht1 : ws.take (j + 1) = cur ++ [x] := by rw [List.take_add_one, ht, e, hj, List.getElem?_append_right (Nat.le_refl _), Nat.sub_self]; rfl
      have hlen : ws.length = j + (r.length + 1) := by rw [e, List.length_append, hj]; rfl
      have hnf : nfit w ws = j := nfit_eq w ws j h1 (by omega) (by rw [ht]; exact h2) (.inr (by rw [ht1, jn_snoc_len cur x hcur]; omega))
      cases n with
      | zero => omega
      | succ n =>
        rw [layR, if_neg (by rintro rfl; simp at hlen), hnf, ht, hd]
        rw [goL_layR w r (x :: r) [x] 1 n rfl rfl (Nat.le_refl _) (.inl rfl) (by rw [List.length_cons]; omega)]
theorem fillF_lay (w : Int) (ws : List Str) : fillF w ws = lay w ws := by
  rw [fillF_layR]
  cases ws with
  | nil => rfl
  | cons x r => exact (goL_layR w r (x :: r) [x] 1 _ rfl rfl (Nat.le_refl _) (.inl rfl) (Nat.le_refl _)).symm

/-! text WI -/

noncomputable def P_page (ds : List PyData) (r : PyData) : Prop := ∃ (found : List (Str × List Str)) (w full : Int), ds = [.list (found.map pairD), .int w, .int full] ∧ r = sL (pageF w full (found.map (·.2))) ∧ (∀ p ∈ found, szL 1 p.2 ≤ 200) ∧ found.length ≤ 1000 ∧ 0 ≤ w ∧ w ≤ 200
noncomputable def P_set (ds : List PyData) (r : PyData) : Prop := ∃ (ts : List Str) (w full : Int), ds = [sL ts, .int w, .int full] ∧ r = sL (setF ts w full) ∧ szL 1 ts ≤ 50000 ∧ 0 ≤ w ∧ w ≤ 200
local macro_rules | `(tactic| wtm_at "m.p") => `(tactic| first
  | (with_reducible show P_page _ _; unfold P_page; refine' ⟨_, _, _, rfl, rfl, ?_⟩)
  | (with_reducible show P_set _ _; unfold P_set; refine' ⟨_, _, _, rfl, rfl, ?_⟩))

theorem szL_flat_mem {L : List (List Str)} {l : List Str} (h : l ∈ L) (n : Nat) : szL n l ≤ szL n L.flatten := by
  induction L with
  | nil => cases h
  | cons x r ih =>
    rw [List.flatten_cons, szL_app]
    rcases List.mem_cons.mp h with rfl | h
    · omega
    · have := ih h; omega
theorem len_flat {L : List (List Str)} (h : ∀ l ∈ L, l ≠ []) : L.length ≤ L.flatten.length := by
  induction L with
  | nil => exact Nat.le_refl _
  | cons x r ih =>
    rw [List.flatten_cons, List.length_append, List.length_cons]
    have h1 := ih fun l hl => h l (List.mem_cons_of_mem _ hl)
    have h2 := List.length_pos_iff.mpr (h x List.mem_cons_self)
    omega
theorem lay_len (w : Int) (ws : List Str) : (lay w ws).length ≤ ws.length := by
  have := len_flat (L := lay w ws) fun l hl => (lay_ok w ws l hl).1
  rw [lay_flat] at this; exact this
theorem szL_jn (L : List (List Str)) (h : ∀ l ∈ L, l ≠ []) : szL 1 (L.map jn) ≤ szL 1 L.flatten := by
  induction L with
  | nil => exact Nat.le_refl _
  | cons x r ih =>
    rw [List.flatten_cons, szL_app]
    have h1 := ih fun l hl => h l (List.mem_cons_of_mem _ hl)
    have h2 := jn_length x (h x List.mem_cons_self)
    have : szL 1 ((x :: r).map jn) = (jn x).length + 1 + szL 1 (r.map jn) := by unfold szL; simp
    omega
theorem spreadF_len {ws : List Str} {w : Int} (hz : szL 1 ws ≤ 200) (hw0 : 0 ≤ w) (hw : w ≤ 200) : (spreadF ws w).length ≤ 900000 := by
  have hz2 := len_szL ws
  have hjn := joinN_length ws
  unfold spreadF
  refine Nat.le_trans (ljust_length hw0) ?_
  by_cases h0 : ws.length = 0
  · rw [h0]
    have := getD_length (ws := ws) 0
    show (ws.getD 0 nilS).length + _ ≤ _
    omega
  by_cases h1 : ws.length = 1
  · rw [h1]
    have := getD_length (ws := ws) 0
    show (ws.getD 0 nilS).length + _ ≤ _
    omega
  · have h1 : ((List.range (ws.length - 1)).foldl (spreadStep ws (w - (Txt.join nilS ws).length) (ws.length - 1)) (ws.getD 0 nilS)).length ≤ _ := fold_len' (ws.getD 0 nilS) (ws.length - 1) fun s j hj => spreadStep_len (ws := ws) (blanks := w - (Txt.join nilS ws).length) (gaps := ws.length - 1) (by omega) (by omega) (by omega) (by omega) (by omega) s j (by omega)
    have h2 := getD_length (ws := ws) 0
    have hil : (ws.length - 1) * 4000 ≤ 201 * 4000 := Nat.mul_le_mul_right _ (by omega)
    omega
theorem parted_len (p : List Str) : (parted p).length ≤ p.length + 1 := by
  unfold parted; split
  · omega
  · rw [List.length_append]; exact Nat.le_refl _
theorem page_len (w full : Int) : ∀ (hs : List (List Str)) (p : List Str), (∀ h ∈ hs, szL 1 h ≤ 200) → (hs.foldl (pageStep w full) p).length ≤ p.length + 201 * hs.length
  | [], p, _ => Nat.le_refl _
  | h :: hs, p, hh => by
    rw [List.foldl_cons]
    have ih := page_len w full hs (pageStep w full p h) fun x hx => hh x (List.mem_cons_of_mem _ hx)
    have h1 : (pageStep w full p h).length ≤ p.length + 201 := by
      unfold pageStep
      rw [List.length_append, List.length_map, List.length_range, fillF_lay]
      have := parted_len p
      have := lay_len w h
      have := len_szL h
      have := hh h List.mem_cons_self
      omega
    rw [List.length_cons]; omega

section
variable {G : Glo}
theorem fn_page (hD : DefK G 16) (hf : Fn G 1 "_law_fill" P_fill) (hsp : Fn G 1 "_law_spread" P_spread) (hl : Bi G "len" (.builtin "len")) (hr : Bi G "range" (.type "range")) : Fn G 2 "_law_page" P_page := by
  refine Fn.of (n := 1) (names := ["found", "width", "full"]) hD (by ((intro pm code doc vs hv; (obtain _ | ⟨v1, _ | ⟨v2, _ | ⟨v3, _ | _⟩⟩⟩ := vs <;> simp at hv); rfl))) ?_ ?_ (by decide) (by ((intro L a code x hx; (repeat (rcases List.mem_cons.mp hx with h1 | hx; (subst h1; first | exact .inl rfl | exact .inr ⟨rfl, _, rfl⟩))); cases hx)))
  · rintro ds r ⟨s, f, _, rfl, rfl, _⟩; rfl
  · rintro ds r ⟨found, w, full, rfl, rfl, hfd, hfl, hw0, hw⟩ A s₀ X₀ L a code hA
    show SW _ [("found", .sh (.list (found.map pairD))), ("width", .sh (.int w)), ("full", .sh (.int full))] _ _
    (((conv => arg 3; whnf); (conv => arg 1; arg 5; arg 1; whnf)))
    have hsep : (Str.ofString " ").length = 1 := sepS_length
    (((refine SW.cons ?_); (refine' SX.new ?dl_220 ?k_220); (case dl_220 => wtm_at "m.del")))
    refine SW.cons ?_
    let GW : List Str → AEnv := fun st => [("page", .ow (st.map .str)), ("found", .sh (.list (found.map pairD))), ("width", .sh (.int w)), ("full", .sh (.int full))]
    refine' SX.for_ ?hit (fun i Γ => Γ = GW (((found.map (·.2)).take i).foldl (pageStep w full) [])) ?h0 ?turn ?done
    case hit =>
      refine' ItE.list hA.1 ?_
      (repeat' wtm_at "m.s")
    case h0 => exact ⟨GW [], by (((repeat (first | exact sub_nil | refine' sub_cons (by (((try dsimp only [thaw, List.map, thaw1]); (repeat (first | with_reducible exact List.mem_cons_self | with_reducible refine' List.mem_cons_of_mem _ ?_)); done))) ?_)); done)), rfl⟩
    case turn =>
      rintro i d Γ' hd rfl
      rw [List.getElem?_map] at hd
      obtain ⟨⟨raw, heap⟩, hp, rfl⟩ := Option.map_eq_some_iff.mp hd
      have hmem := List.mem_of_getElem? hp
      have hil : i < found.length := (List.getElem?_eq_some_iff.mp hp).1
      have hnext : ((found.map (·.2)).take (i + 1)).foldl (pageStep w full) [] = pageStep w full (((found.map (·.2)).take i).foldl (pageStep w full) []) heap := by
        rw [List.take_add_one, List.getElem?_map, hp, List.foldl_append]; rfl
      have hpl := page_len w full ((found.map (·.2)).take i) [] (by
        intro h hh
        obtain ⟨q, hq, rfl⟩ := List.mem_map.mp (List.mem_of_mem_take hh)
        exact hfd q hq)
      rw [List.length_nil, List.length_take, List.length_map] at hpl
      have hhz := hfd _ hmem
      dsimp only at hhz
      refine ⟨_, Tgt.tup2 hA.1 (Tgt.name (by wtm_at "m.del")) (Tgt.name (by wtm_at "m.del")), ?_⟩
      rw [hnext]
      generalize ((found.map (·.2)).take i).foldl (pageStep w full) [] = page at hpl ⊢
      refine SW.cons ?_
      refine' SX.ifsJ [("page", .ow ((parted page).map .str)), ("heap", .sh (sL heap)), ("found", .sh (.list (found.map pairD))), ("width", .sh (.int w)), ("full", .sh (.int full))] ?t1 ?a1 ?b1 ?rest
      case t1 => (repeat' wtm_at "m.s")
      case a1 =>
        intro hb
        simp only [List.isEmpty_map, Bool.not_eq_true', List.isEmpty_eq_false_iff] at hb
        (((refine SW.cons ?_); (refine' SX.appendT ?hm_224 ?e_224 ?sc_224 ?dl_224 ?k_224 ?sz_224); (case' hm_224 => (((try dsimp only [thaw, List.map, thaw1]); (repeat (first | with_reducible exact List.mem_cons_self | with_reducible refine' List.mem_cons_of_mem _ ?_)); done))); (case' e_224 => (repeat' wtm_at "m.s")); (case' sc_224 => trivial); (case' dl_224 => wtm_at "m.del"); (case' sz_224 => skip)))
        · rw [List.length_map]; (first | assumption | exact lin1 (by assumption) (by decide) | exact lin2 (by assumption) (by assumption) (by decide) | (unfold sizeLine; omega))
        refine SW.nil (joinsI ?_)
        unfold parted
        rw [if_neg hb, List.map_append]
        (((repeat (first | exact sub_nil | refine' sub_cons (by (((try dsimp only [thaw, List.map, thaw1]); (repeat (first | with_reducible exact List.mem_cons_self | with_reducible refine' List.mem_cons_of_mem _ ?_)); done))) ?_)); done))
      case b1 =>
        intro hb
        simp only [List.isEmpty_map, Bool.not_eq_false', List.isEmpty_iff] at hb
        refine SW.nil (joinsI ?_)
        unfold parted
        rw [if_pos hb]
        (((repeat (first | exact sub_nil | refine' sub_cons (by (((try dsimp only [thaw, List.map, thaw1]); (repeat (first | with_reducible exact List.mem_cons_self | with_reducible refine' List.mem_cons_of_mem _ ?_)); done))) ?_)); done))
      have hpl2 := parted_len page
      (((refine SW.cons ?_); (refine' SX.assign ?e_228 ?dl_228 ?k_228); (case' e_228 => (repeat' wtm_at "m.s")); (case' dl_228 => wtm_at "m.del")))
      · omega
      unfold pageStep
      rw [fillF_lay]
      have hlo := lay_ok w heap
      have hll := lay_len w heap
      have hlf := lay_flat w heap
      have hhl := len_szL heap
      generalize parted page = page at hpl2 ⊢
      generalize lay w heap = filled at hlo hll hlf ⊢
      refine SW.cons ?_
      let GX : List Str → AEnv := fun st => [("page", .ow (st.map .str)), ("filled", .sh (sLL filled)), ("found", .sh (.list (found.map pairD))), ("width", .sh (.int w)), ("full", .sh (.int full))]
      refine' SX.for_ ?hit2 (fun i Γ => Γ = GX (page ++ (List.range i).map (pageLine w full filled))) ?h02 ?turn2 ?done2
      case hit2 =>
        refine' ItE.range1 hA hr ?e ?_ ?_
        case e =>
          (repeat' wtm_at "m.s")
          rw [List.length_map]; (first | assumption | exact lin1 (by assumption) (by decide) | exact lin2 (by assumption) (by assumption) (by decide) | (unfold sizeLine; omega))
        · omega
        · rw [List.length_map]; omega
      case h02 =>
        refine ⟨GX page, by (((repeat (first | exact sub_nil | refine' sub_cons (by (((try dsimp only [thaw, List.map, thaw1]); (repeat (first | with_reducible exact List.mem_cons_self | with_reducible refine' List.mem_cons_of_mem _ ?_)); done))) ?_)); done)), ?_⟩
        rw [List.range_zero, List.map_nil, List.append_nil]
      case turn2 =>
        rintro k d Γ' hd rfl
        obtain ⟨rfl, hk⟩ := rangeD0_get hd
        rw [List.length_map] at hk
        have hk : k < filled.length := by omega
        refine ⟨_, Tgt.name (by wtm_at "m.del"), ?_⟩
        have hnx : page ++ (List.range (k + 1)).map (pageLine w full filled) = page ++ (List.range k).map (pageLine w full filled) ++ [pageLine w full filled k] := by
          rw [List.range_succ, List.map_append, ← List.append_assoc]; rfl
        rw [hnx]
        have hln : (page ++ (List.range k).map (pageLine w full filled)).length = page.length + k := by rw [List.length_append, List.length_map, List.length_range]
        generalize page ++ (List.range k).map (pageLine w full filled) = pg at hln ⊢
        have hin : filled.getD k [] ∈ filled := by rw [getD_get hk]; exact List.getElem_mem hk
        have hlk := hlo _ hin
        have hsk := szL_flat_mem hin 1
        rw [hlf] at hsk
        refine SW.cons ?_
        refine' SX.ifs (PB.bools (PBs.and ?t2 fun _ => PBs.and ?t3 fun _ => PBs.andNil)) ?a2 ?b2
        case t2 => (repeat' wtm_at "m.s")
        case t3 =>
          (repeat' wtm_at "m.s")
          rw [List.length_map]; (first | assumption | exact lin1 (by assumption) (by decide) | exact lin2 (by assumption) (by assumption) (by decide) | (unfold sizeLine; omega))
        case a2 =>
          intro hb
          simp only [List.length_map, Bool.and_true, Bool.and_eq_true, decide_eq_true_eq] at hb
          (((refine SW.cons ?_); (refine' SX.appendT ?hm_235 ?e_235 ?sc_235 ?dl_235 ?k_235 ?sz_235); (case' hm_235 => (((try dsimp only [thaw, List.map, thaw1]); (repeat (first | with_reducible exact List.mem_cons_self | with_reducible refine' List.mem_cons_of_mem _ ?_)); done))); (case' e_235 => (repeat' wtm_at "m.s")); (case' sc_235 => trivial); (case' dl_235 => wtm_at "m.del"); (case' sz_235 => skip)))
          · rw [List.length_map]; (first | assumption | exact lin1 (by assumption) (by decide) | exact lin2 (by assumption) (by assumption) (by decide) | (unfold sizeLine; omega))
          · omega
          · omega
          · (first | assumption | exact lin1 (by assumption) (by decide) | exact lin2 (by assumption) (by assumption) (by decide) | (unfold sizeLine; omega))
          · exact ⟨by show szL 1 (filled.getD k []) ≤ 200; omega, hw0, hw, hlk.1⟩
          · exact Nat.le_trans (spreadF_len (by show szL 1 (filled.getD k []) ≤ 200; omega) hw0 hw) (by (first | assumption | exact lin1 (by assumption) (by decide) | exact lin2 (by assumption) (by assumption) (by decide) | (unfold sizeLine; omega)))
          refine SW.nil (SW.nil (LoopPost.nextI (Γ' := GX _) rfl ?_))
          unfold pageLine
          rw [if_pos hb]
          dsimp only [GX]
          rw [List.map_append, Int.toNat_natCast]
          (((repeat (first | exact sub_nil | refine' sub_cons (by (((try dsimp only [thaw, List.map, thaw1]); (repeat (first | with_reducible exact List.mem_cons_self | with_reducible refine' List.mem_cons_of_mem _ ?_)); done))) ?_)); done))
        case b2 =>
          intro hb
          simp only [List.length_map, Bool.and_true, Bool.and_eq_false_iff, decide_eq_false_iff_not] at hb
          (((refine SW.cons ?_); (refine' SX.appendT ?hm_240 ?e_240 ?sc_240 ?dl_240 ?k_240 ?sz_240); (case' hm_240 => (((try dsimp only [thaw, List.map, thaw1]); (repeat (first | with_reducible exact List.mem_cons_self | with_reducible refine' List.mem_cons_of_mem _ ?_)); done))); (case' e_240 => (repeat' wtm_at "m.s")); (case' sc_240 => trivial); (case' dl_240 => wtm_at "m.del"); (case' sz_240 => skip)))
          · rw [List.length_map]; (first | assumption | exact lin1 (by assumption) (by decide) | exact lin2 (by assumption) (by assumption) (by decide) | (unfold sizeLine; omega))
          · omega
          · omega
          · (first | assumption | exact lin1 (by assumption) (by decide) | exact lin2 (by assumption) (by assumption) (by decide) | (unfold sizeLine; omega))
          · refine joinOk_of ?_
            show szL _ (filled.getD k []) ≤ _
            rw [hsep]; (first | assumption | exact lin1 (by assumption) (by decide) | exact lin2 (by assumption) (by assumption) (by decide) | (unfold sizeLine; omega))
          refine SW.nil (SW.nil (LoopPost.nextI (Γ' := GX _) rfl ?_))
          unfold pageLine
          rw [if_neg (by rintro ⟨h1, h2⟩; rcases hb with h | h; exact h h1; exact h h2)]
          dsimp only [GX, jn]
          rw [List.map_append, Int.toNat_natCast]
          (((repeat (first | exact sub_nil | refine' sub_cons (by (((try dsimp only [thaw, List.map, thaw1]); (repeat (first | with_reducible exact List.mem_cons_self | with_reducible refine' List.mem_cons_of_mem _ ?_)); done))) ?_)); done))
      case done2 =>
        rintro Γ' rfl
        rw [rangeD_len, List.length_map, show ((filled.length : Int) - 0).toNat = filled.length by omega]
        refine SW.nil (LoopPost.nextI (Γ' := GW _) rfl ?_)
        (((repeat (first | exact sub_nil | refine' sub_cons (by (((try dsimp only [thaw, List.map, thaw1]); (repeat (first | with_reducible exact List.mem_cons_self | with_reducible refine' List.mem_cons_of_mem _ ?_)); done))) ?_)); done))
    case done =>
      rintro Γ' rfl
      dsimp only [GW]
      (((refine SW.cons ?_); (refine' SX.ret ?e_246 (show _ = _ from ?k_246)); (case' e_246 => (repeat' wtm_at "m.s"))))
      rw [List.length_map, List.take_of_length_le (by rw [List.length_map]; omega)]
      rfl
end

/-! text WJ -/

theorem words_word (x : Str) : ∀ y ∈ Txt.words x, IsWord y := by rw [words_eq]; exact W_isWord _
theorem word_ne {y : Str} (h : IsWord y) : y ≠ nilS := by rintro rfl; exact h.1 cl_nil
theorem wrapF_words (w : Int) (x : Str) : wrapF w (Txt.words x) = (lay w (Txt.words x)).map jn := wrapF_lay w _ fun y hy => word_ne (words_word x y hy)
theorem words_jn {ws : List Str} (h : ∀ y ∈ ws, IsWord y) : Txt.words (jn ws) = ws := by rw [words_eq]; exact W_jn_words ws h
theorem wrap_line_words (w : Int) (x : Str) : ∀ l ∈ wrapF w (Txt.words x), Txt.words l ≠ [] := by
  intro l hl
  rw [wrapF_words] at hl
  obtain ⟨p, hp, rfl⟩ := List.mem_map.mp hl
  rw [words_jn fun y hy => words_word x y (lay_mem hp y hy)]
  exact (lay_ok w _ p hp).1
theorem wrap_sz (w : Int) (x : Str) : szL 1 (wrapF w (Txt.words x)) ≤ x.length + 1 := by
  rw [wrapF_words]
  refine Nat.le_trans (szL_jn _ fun l hl => (lay_ok w _ l hl).1) ?_
  rw [lay_flat]
  exact words_sz x
theorem jlF_len (ls : List Str) (w : Int) : (jlF ls w).length = ls.length := by
  unfold jlF
  rw [List.length_append, List.length_map, List.length_take, List.length_drop]; omega
theorem setLines_len (w full : Int) (x : Str) : (setLines w full x).length ≤ x.length + 1 := by
  have h := Nat.le_trans (len_szL _) (wrap_sz w x)
  unfold setLines
  split
  · rw [jlF_len]; exact h
  · exact h
theorem set_len (w full : Int) : ∀ (ps page : List Str), (ps.foldl (setStep w full) page).length ≤ page.length + 2 * szL 1 ps
  | [], _ => Nat.le_refl _
  | x :: ps, page => by
    rw [List.foldl_cons]
    have ih := set_len w full ps (setStep w full page x)
    have h1 : (setStep w full page x).length ≤ page.length + 1 + (x.length + 1) := by
      unfold setStep
      rw [List.length_append]
      have := parted_len page
      have := setLines_len w full x
      omega
    have h2 : szL 1 (x :: ps) = x.length + 1 + szL 1 ps := by unfold szL; simp
    omega
theorem paraF_sz (ts : List Str) : szL 1 (paraF ts) ≤ szL 1 ts + 1 := by
  have h := para_size (ts ++ [nilS]) ([], [])
  rw [szL_app, szL_one, nilS_length] at h
  simp only [szL_nil] at h
  unfold paraF
  omega

section
variable {G : Glo}
theorem fn_set (hD : DefK G 17) (hp : Fn G 1 "paragraphs" P_paragraphs) (hw_ : Fn G 2 "wrapped" P_wrapped) (hj : Fn G 3 "justified_lines" P_jlines) : Fn G 4 "_law_set" P_set := by
  refine Fn.of (n := 3) (names := ["texts", "width", "full"]) hD (by ((intro pm code doc vs hv; (obtain _ | ⟨v1, _ | ⟨v2, _ | ⟨v3, _ | _⟩⟩⟩ := vs <;> simp at hv); rfl))) ?_ ?_ (by decide) (by ((intro L a code x hx; (repeat (rcases List.mem_cons.mp hx with h1 | hx; (subst h1; first | exact .inl rfl | exact .inr ⟨rfl, _, rfl⟩))); cases hx)))
  · rintro ds r ⟨s, f, _, rfl, rfl, _⟩; rfl
  · rintro ds r ⟨ts, w, full, rfl, rfl, hz, hw0, hw⟩ A s₀ X₀ L a code hA
    show SW _ [("texts", .sh (sL ts)), ("width", .sh (.int w)), ("full", .sh (.int full))] _ _
    (((conv => arg 3; whnf); (conv => arg 1; arg 5; arg 1; whnf)))
    have hps := paraF_sz ts
    have hA1 : AOk 1 A := hA.le (by decide)
    have hA2 : AOk 2 A := hA.le (by decide)
    refine SW.cons ?_
    refine' SX.assign (PE.cast (d' := sL []) (PE.list PEs.nil) rfl) ?dl ?k
    case dl => wtm_at "m.del"
    refine SW.cons ?_
    let GW : List Str → AEnv := fun st => [("page", .sh (sL st)), ("texts", .sh (sL ts)), ("width", .sh (.int w)), ("full", .sh (.int full))]
    refine' SX.for_ (ds := (paraF ts).map .str) ?hit (fun i Γ => Γ = GW (((paraF ts).take i).foldl (setStep w full) [])) ?h0 ?turn ?done
    case hit =>
      refine' ItE.list hA.1 ?_
      (repeat' wtm_at "m.s")
      omega
    case h0 => exact ⟨GW [], by (((repeat (first | exact sub_nil | refine' sub_cons (by (((try dsimp only [thaw, List.map, thaw1]); (repeat (first | with_reducible exact List.mem_cons_self | with_reducible refine' List.mem_cons_of_mem _ ?_)); done))) ?_)); done)), rfl⟩
    case turn =>
      rintro i d Γ' hd rfl
      rw [List.getElem?_map] at hd
      obtain ⟨x, hx, rfl⟩ := Option.map_eq_some_iff.mp hd
      have hmem := List.mem_of_getElem? hx
      have hxz := szL_mem (n := 1) hmem
      have hnext : ((paraF ts).take (i + 1)).foldl (setStep w full) [] = setStep w full (((paraF ts).take i).foldl (setStep w full) []) x := by
        rw [List.take_add_one, hx, List.foldl_append]; rfl
      have hpl := set_len w full ((paraF ts).take i) []
      have hpl3 := szL_take 1 (paraF ts) i
      rw [List.length_nil] at hpl
      refine ⟨_, Tgt.name (by wtm_at "m.del"), ?_⟩
      rw [hnext]
      generalize ((paraF ts).take i).foldl (setStep w full) [] = page at hpl ⊢
      refine SW.cons ?_
      refine' SX.ifsJ [("page", .sh (sL (parted page))), ("text", .sh (.str x)), ("texts", .sh (sL ts)), ("width", .sh (.int w)), ("full", .sh (.int full))] ?t1 ?a1 ?b1 ?rest
      case t1 => (repeat' wtm_at "m.s")
      case a1 =>
        intro hb
        simp only [List.isEmpty_map, Bool.not_eq_true', List.isEmpty_eq_false_iff] at hb
        (((refine SW.cons ?_); (refine' SX.assign ?e_253 ?dl_253 ?k_253); (case' e_253 => (repeat' wtm_at "m.s")); (case' dl_253 => wtm_at "m.del")))
        · rw [List.length_map]; show _ + 1 ≤ _; (first | assumption | exact lin1 (by assumption) (by decide) | exact lin2 (by assumption) (by assumption) (by decide) | (unfold sizeLine; omega))
        refine SW.nil (joinsI ?_)
        unfold parted
        rw [if_neg hb, sL, List.map_append]
        (((repeat (first | exact sub_nil | refine' sub_cons (by (((try dsimp only [thaw, List.map, thaw1]); (repeat (first | with_reducible exact List.mem_cons_self | with_reducible refine' List.mem_cons_of_mem _ ?_)); done))) ?_)); done))
      case b1 =>
        intro hb
        simp only [List.isEmpty_map, Bool.not_eq_false', List.isEmpty_iff] at hb
        refine SW.nil (joinsI ?_)
        unfold parted
        rw [if_pos hb]
        (((repeat (first | exact sub_nil | refine' sub_cons (by (((try dsimp only [thaw, List.map, thaw1]); (repeat (first | with_reducible exact List.mem_cons_self | with_reducible refine' List.mem_cons_of_mem _ ?_)); done))) ?_)); done))
      have hpl2 := parted_len page
      (((refine SW.cons ?_); (refine' SX.assign ?e_257 ?dl_257 ?k_257); (case' e_257 => (repeat' wtm_at "m.s")); (case' dl_257 => wtm_at "m.del")))
      · omega
      have hln := setLines_len w full x
      refine SW.cons ?_
      refine' SX.ifsJ [("lines", .sh (sL (setLines w full x))), ("page", .sh (sL (parted page))), ("texts", .sh (sL ts)), ("width", .sh (.int w)), ("full", .sh (.int full))] ?t2 ?a2 ?b2 ?rest2
      case t2 => (repeat' wtm_at "m.s")
      case a2 =>
        intro hb
        have hb := of_decide_eq_true hb
        (((refine SW.cons ?_); (refine' SX.assign ?e_259 ?dl_259 ?k_259); (case' e_259 => (repeat' wtm_at "m.s")); (case' dl_259 => wtm_at "m.del")))
        · exact ⟨Nat.le_trans (wrap_sz w x) (by omega), hw0, hw, wrap_line_words w x⟩
        refine SW.nil (joinsI ?_)
        unfold setLines
        rw [if_pos hb]
        (((repeat (first | exact sub_nil | refine' sub_cons (by (((try dsimp only [thaw, List.map, thaw1]); (repeat (first | with_reducible exact List.mem_cons_self | with_reducible refine' List.mem_cons_of_mem _ ?_)); done))) ?_)); done))
      case b2 =>
        intro hb
        have hb := of_decide_eq_false hb
        refine SW.nil (joinsI ?_)
        unfold setLines
        rw [if_neg hb]
        (((repeat (first | exact sub_nil | refine' sub_cons (by (((try dsimp only [thaw, List.map, thaw1]); (repeat (first | with_reducible exact List.mem_cons_self | with_reducible refine' List.mem_cons_of_mem _ ?_)); done))) ?_)); done))
      (((refine SW.cons ?_); (refine' SX.assign ?e_262 ?dl_262 ?k_262); (case' e_262 => (repeat' wtm_at "m.s")); (case' dl_262 => wtm_at "m.del")))
      · rw [List.length_map, List.length_map]; (first | assumption | exact lin1 (by assumption) (by decide) | exact lin2 (by assumption) (by assumption) (by decide) | (unfold sizeLine; omega))
      refine SW.nil (LoopPost.nextI (Γ' := GW _) rfl ?_)
      unfold setStep
      dsimp only [GW]
      rw [sL, List.map_append]
      (((repeat (first | exact sub_nil | refine' sub_cons (by (((try dsimp only [thaw, List.map, thaw1]); (repeat (first | with_reducible exact List.mem_cons_self | with_reducible refine' List.mem_cons_of_mem _ ?_)); done))) ?_)); done))
    case done =>
      rintro Γ' rfl
      dsimp only [GW]
      (((refine SW.cons ?_); (refine' SX.ret ?e_265 (show _ = _ from ?k_265)); (case' e_265 => (repeat' wtm_at "m.s"))))
      rw [List.length_map, List.take_length]
      rfl

theorem center_length {x : Str} {w : Int} (h0 : 0 ≤ w) : (Txt.center x w).length ≤ x.length + w.toNat + 1 := by
  unfold Txt.center centred
  split
  · omega
  · unfold Builtin.Str.padded Str.length
    simp only [Array.size_append, Array.size_replicate]
    split <;> omega
theorem foundF_len (ts : List Str) (own : List (List Str)) : (foundF ts own).length ≤ own.length := Nat.le_trans (List.length_filterMap_le ..) (by rw [List.length_range]; omega)
theorem foundF_sz (ts : List Str) (own : List (List Str)) : ∀ p ∈ foundF ts own, szL 1 p.2 ≤ lenLL own ∧ p.1.length ≤ szL 1 ts := by
  intro p hp
  unfold foundF at hp
  obtain ⟨i, _, hi⟩ := List.mem_filterMap.mp hp
  unfold foundAt at hi
  split at hi
  · cases hi
    refine ⟨Nat.le_trans (lenLL_flat _) (Nat.le_trans (lenLL_take _ _) (lenLL_drop _ _)), ?_⟩
    exact Nat.le_trans (jn_length' _) (Nat.le_trans (szL_take _ _ _) (szL_drop _ _ _))
  · cases hi

noncomputable def P_first (ds : List PyData) (r : PyData) : Prop := ∃ (ts : List Str) (op w : Int), ds = [sL ts, .int op, .int w] ∧ r = sL (firstF ts op w) ∧ szL 1 ts ≤ 50000 ∧ 0 ≤ w ∧ w ≤ 200
noncomputable def P_due (ds : List PyData) (r : PyData) : Prop := ∃ (ts : List Str) (own : List (List Str)) (op w : Int), ds = [sL ts, sLL own, .int op, .int w] ∧ r = sL (dueF ts own op w) ∧ szL 1 ts ≤ 50000 ∧ lenLL own ≤ 200 ∧ ts.length = own.length ∧ 0 ≤ w ∧ w ≤ 200

theorem fn_first (hD : DefK G 18) (hs : Fn G 4 "_law_set" P_set) (hc : Fn G 1 "centred" P_centred) (hq : Fn G 2 "squeezed" P_squeezed) : Fn G 5 "_law_first" P_first := by
  refine Fn.of (n := 4) (names := ["texts", "op", "width"]) hD (by ((intro pm code doc vs hv; (obtain _ | ⟨v1, _ | ⟨v2, _ | ⟨v3, _ | _⟩⟩⟩ := vs <;> simp at hv); rfl))) ?_ ?_ (by decide) (by ((intro L a code x hx; (repeat (rcases List.mem_cons.mp hx with h1 | hx; (subst h1; first | exact .inl rfl | exact .inr ⟨rfl, _, rfl⟩))); cases hx)))
  · rintro ds r ⟨s, f, _, rfl, rfl, _⟩; rfl
  · rintro ds r ⟨ts, op, w, rfl, rfl, hz, hw0, hw⟩ A s₀ X₀ L a code hA
    show SW _ [("texts", .sh (sL ts)), ("op", .sh (.int op)), ("width", .sh (.int w))] _ _
    (((conv => arg 3; whnf); (conv => arg 1; arg 5; arg 1; whnf)))
    have hl := len_szL ts
    have hA1 : AOk 1 A := hA.le (by decide)
    have hA2 : AOk 2 A := hA.le (by decide)
    unfold firstF
    refine SW.cons ?_
    refine' SX.ifs ?t1 ?a1 ?b1
    case t1 => (repeat' wtm_at "m.s")
    case a1 =>
      intro hb
      rw [if_pos (of_decide_eq_true hb)]
      (((refine SW.cons ?_); (refine' SX.ret ?e_270 (show _ = _ from ?k_270)); (case' e_270 => (repeat' wtm_at "m.s"))))
      · exact ⟨hz, hw0, hw⟩
      · rfl
    intro hb
    rw [if_neg (of_decide_eq_false hb)]
    refine SW.nil ?_
    refine SW.cons ?_
    refine' SX.ifs ?t2 ?a2 ?b2
    case t2 => (repeat' wtm_at "m.s")
    case a2 =>
      intro hb
      rw [if_pos (of_decide_eq_true hb)]
      refine SW.cons ?_
      refine' SX.ret (PE.compM (xs := ts) PyData.str (fun t => .str (Txt.rstrip (Txt.center (Txt.strip t) w))) (fun _ => true) [("width", .sh (.int w))] str_inj (fun _ => trivial) (ItE.list hA.1 ?it) ?sz ?cap (fun D l hl => PTs.nil) ?el) ?k
      case it => (repeat' wtm_at "m.s")
      case sz => (first | assumption | exact lin1 (by assumption) (by decide) | exact lin2 (by assumption) (by assumption) (by decide) | (unfold sizeLine; omega))
      case cap => exact Cap.cons (by (((try dsimp only [thaw, List.map, thaw1]); (repeat (first | with_reducible exact List.mem_cons_self | with_reducible refine' List.mem_cons_of_mem _ ?_)); done))) rfl (fun D => rfl) rfl Cap.nil
      case el =>
        intro D t ht _
        have := szL_mem (n := 1) ht
        have := strip_length t
        (repeat' wtm_at "m.s")
        · (first | assumption | exact lin1 (by assumption) (by decide) | exact lin2 (by assumption) (by assumption) (by decide) | (unfold sizeLine; omega))
        · exact ⟨hw0, by omega⟩
        · exact Nat.le_trans (center_length hw0) (by (first | assumption | exact lin1 (by assumption) (by decide) | exact lin2 (by assumption) (by assumption) (by decide) | (unfold sizeLine; omega)))
      show _ = _
      rw [filter_true, sL, List.map_map]; rfl
    intro hb
    rw [if_neg (of_decide_eq_false hb)]
    refine SW.nil ?_
    refine SW.cons ?_
    refine' SX.ret (PE.compM (xs := ts) PyData.str (fun t => .str (jn (Txt.words t))) (fun _ => true) [] str_inj (fun _ => trivial) (ItE.list hA.1 ?it3) ?sz3 Cap.nil (fun D l hl => PTs.nil) ?el3) ?k3
    case it3 => (repeat' wtm_at "m.s")
    case sz3 => (first | assumption | exact lin1 (by assumption) (by decide) | exact lin2 (by assumption) (by assumption) (by decide) | (unfold sizeLine; omega))
    case el3 =>
      intro D t ht _
      have := szL_mem (n := 1) ht
      (repeat' wtm_at "m.s")
      omega
    show _ = _
    rw [filter_true, sL, List.map_map]; rfl

theorem fn_due (hD : DefK G 19) (hf : Fn G 1 "_law_found" P_found) (hp : Fn G 2 "_law_page" P_page) (hl : Bi G "len" (.builtin "len")) : Fn G 3 "_law_first_due" P_due := by
  refine Fn.of (n := 2) (names := ["texts", "own", "op", "width"]) hD (by ((intro pm code doc vs hv; (obtain _ | ⟨v1, _ | ⟨v2, _ | ⟨v3, _ | ⟨v4, _ | _⟩⟩⟩⟩ := vs <;> simp at hv); rfl))) ?_ ?_ (by decide) (by ((intro L a code x hx; (repeat (rcases List.mem_cons.mp hx with h1 | hx; (subst h1; first | exact .inl rfl | exact .inr ⟨rfl, _, rfl⟩))); cases hx)))
  · rintro ds r ⟨s, f, _, _, rfl, rfl, _⟩; rfl
  · rintro ds r ⟨ts, own, op, w, rfl, rfl, hz, hz2, hlen, hw0, hw⟩ A s₀ X₀ L a code hA
    show SW _ [("texts", .sh (sL ts)), ("own", .sh (sLL own)), ("op", .sh (.int op)), ("width", .sh (.int w))] _ _
    (((conv => arg 3; whnf); (conv => arg 1; arg 5; arg 1; whnf)))
    have hl1 := len_szL ts
    have hl2 := lenLL_len own
    have hA1 : AOk 1 A := hA.le (by decide)
    have hsep : (Str.ofString " ").length = 1 := sepS_length
    unfold dueF
    refine SW.cons ?_
    refine' SX.ifs ?t1 ?a1 ?b1
    case t1 => (repeat' wtm_at "m.s")
    case a1 =>
      intro hb
      rw [if_pos (of_decide_eq_true hb)]
      (((refine SW.cons ?_); (refine' SX.ret ?e_285 (show _ = _ from ?k_285)); (case' e_285 => (repeat' wtm_at "m.s"))))
      · exact ⟨by omega, by omega, hlen⟩
      · exact ⟨fun p hp => Nat.le_trans (foundF_sz ts own p hp).1 hz2, by have := foundF_len ts own; omega, hw0, hw⟩
      · rfl
    intro hb
    rw [if_neg (of_decide_eq_false hb)]
    refine SW.nil ?_
    refine SW.cons ?_
    refine' SX.ifs ?t2 ?a2 ?b2
    case t2 => (repeat' wtm_at "m.s")
    case a2 =>
      intro hb
      rw [if_pos (of_decide_eq_true hb)]
      refine SW.cons ?_
      refine' SX.ret (PE.compM (xs := ts) PyData.str (fun t => .str (Txt.rstrip (Txt.mul sepS ((w - (Txt.strip t).length + w.fmod 2).fdiv 2) ++ Txt.strip t))) (fun _ => true) [("width", .sh (.int w))] str_inj (fun _ => trivial) (ItE.list hA.1 ?it) ?sz ?cap (fun D l hl => PTs.nil) ?el) ?k
      case it => (repeat' wtm_at "m.s")
      case sz => (first | assumption | exact lin1 (by assumption) (by decide) | exact lin2 (by assumption) (by assumption) (by decide) | (unfold sizeLine; omega))
      case cap => exact Cap.cons (by (((try dsimp only [thaw, List.map, thaw1]); (repeat (first | with_reducible exact List.mem_cons_self | with_reducible refine' List.mem_cons_of_mem _ ?_)); done))) rfl (fun D => rfl) rfl Cap.nil
      case el =>
        intro D t ht _
        have := szL_mem (n := 1) ht
        have := strip_length t
        have hm2 : 0 ≤ w.fmod 2 ∧ w.fmod 2 < 2 := ⟨Int.fmod_nonneg_of_pos _ (by decide), Int.fmod_lt_of_pos _ (by decide)⟩
        have hbd := fdiv_bd (a := w - (Txt.strip t).length + w.fmod 2) (g := 2) (B := 100000) (by decide) (by omega) (by omega) (by omega)
        have hm := fun n => show (Txt.mul (Str.ofString " ") n).length = n.toNat from mul_length n
        (repeat' wtm_at "m.s")
        · (first | assumption | exact lin1 (by assumption) (by decide) | exact lin2 (by assumption) (by assumption) (by decide) | (unfold sizeLine; omega))
        · (first | assumption | exact lin1 (by assumption) (by decide) | exact lin2 (by assumption) (by assumption) (by decide) | (unfold sizeLine; omega))
        · decide
        · decide
        · decide
        · exact mulOk_of (by omega) (by omega)
        · (first | assumption | exact lin1 (by assumption) (by decide) | exact lin2 (by assumption) (by assumption) (by decide) | (unfold sizeLine; omega))
        · rw [hm]; (first | assumption | exact lin1 (by assumption) (by decide) | exact lin2 (by assumption) (by assumption) (by decide) | (unfold sizeLine; omega))
        · rw [Str.length_append, hm]; (first | assumption | exact lin1 (by assumption) (by decide) | exact lin2 (by assumption) (by assumption) (by decide) | (unfold sizeLine; omega))
      show _ = _
      rw [filter_true, sL, List.map_map]; rfl
    intro hb
    rw [if_neg (of_decide_eq_false hb)]
    refine SW.nil ?_
    refine SW.cons ?_
    refine' SX.ret (PE.compM (xs := own) sL (fun o => .str (jn o)) (fun _ => true) [] sL_inj (fun _ => trivial) (ItE.list hA.1 ?it3) ?sz3 Cap.nil (fun D l hl => PTs.nil) ?el3) ?k3
    case it3 => (repeat' wtm_at "m.s")
    case sz3 => (first | assumption | exact lin1 (by assumption) (by decide) | exact lin2 (by assumption) (by assumption) (by decide) | (unfold sizeLine; omega))
    case el3 =>
      intro D o ho _
      have h1 := szL_flat_mem ho 1
      have h2 := lenLL_flat own
      unfold jn
      (repeat' wtm_at "m.s")
      refine joinOk_of ?_
      rw [hsep]; (first | assumption | exact lin1 (by assumption) (by decide) | exact lin2 (by assumption) (by assumption) (by decide) | (unfold sizeLine; omega))
    show _ = _
    rw [filter_true, sL, List.map_map]; rfl
end

/-! text PD -/

/-! ## One line spread to a width -/
theorem cl_pad (x : Str) (l r : Nat) : cl (Builtin.Str.padded x l r 32) = List.replicate l 32 ++ cl x ++ List.replicate r 32 := by
  unfold Builtin.Str.padded cl
  simp
theorem cl_ljust (x : Str) (w : Int) : cl (Txt.ljust x w) = cl x ++ List.replicate (w.toNat - x.length) 32 := by
  unfold Txt.ljust
  split
  · rw [show w.toNat - x.length = 0 by omega]; simp
  · rw [cl_pad]; simp
theorem sp_rep (n : Nat) : ∀ c ∈ List.replicate n 32, isSp c = true := by
  intro c hc
  rw [List.mem_replicate] at hc
  rw [hc.2]; exact sp32
theorem words_ljust (x : Str) (w : Int) : Txt.words (Txt.ljust x w) = Txt.words x := by
  rw [words_eq, words_eq, cl_ljust, W_right (sp_rep _)]
theorem ljust_self {x : Str} {w : Int} (h : w ≤ x.length) : Txt.ljust x w = x := by unfold Txt.ljust; rw [if_pos h]
theorem rstrip_word {x : Str} (h : IsWord x) : Txt.rstrip x = x := by
  refine cl_inj ?_
  rw [cl_rstrip]
  refine rsL_self fun c hc => ?_
  exact h.2 c (List.mem_of_getLast? hc)

theorem gap_eq {blanks g : Int} (hg : 1 ≤ g) {i : Nat} (hi : (i : Int) < g) : (blanks + g - 1 - i).fdiv g = gapAt blanks g i := by
  unfold gapAt
  rw [Int.fdiv_eq_ediv_of_nonneg _ (by omega), Int.fdiv_eq_ediv_of_nonneg _ (by omega), Int.fmod_eq_emod_of_nonneg _ (by omega)]
  have e := Int.mul_ediv_add_emod blanks g
  have h0 := Int.emod_nonneg blanks (show g ≠ 0 by omega)
  have h1 := Int.emod_lt_of_pos blanks (show 0 < g by omega)
  generalize blanks / g = q at e ⊢
  generalize blanks % g = r at e h0 h1 ⊢
  have e1 : (q + 1) * g = g * q + g := by rw [Int.add_mul, Int.one_mul, Int.mul_comm]
  have e2 : q * g = g * q := Int.mul_comm q g
  split
  · rw [Int.ediv_eq_iff_of_pos (by omega)]; omega
  · rw [Int.ediv_eq_iff_of_pos (by omega)]; omega

theorem joinN_len (ws : List Str) : (Txt.join nilS ws).length = szL 0 ws := by
  rw [← cl_length]
  induction ws with
  | nil => rfl
  | cons x r ih =>
    have h2 : szL 0 (x :: r) = x.length + szL 0 r := by unfold szL; simp
    cases r with
    | nil => rw [cl_join_one, cl_length, h2]; rfl
    | cons y r => rw [cl_join_cons, cl_nil, List.nil_append, List.length_append, cl_length, ih, h2]
theorem jn_len (ws : List Str) : (jn ws).length = szL 0 ws + (ws.length - 1) := by
  rw [← cl_length]
  induction ws with
  | nil => rfl
  | cons x r ih =>
    have h2 : szL 0 (x :: r) = x.length + szL 0 r := by unfold szL; simp
    cases r with
    | nil => rw [jn_one, cl_length, h2]; rfl
    | cons y r =>
      rw [cl_jn_cons, List.length_append, List.length_cons, cl_length, ih, h2]
      simp only [List.length_cons]; omega
theorem szL0_take_succ (ws : List Str) (m : Nat) : szL 0 (ws.take (m + 1)) = szL 0 (ws.take m) + (ws.getD m nilS).length := by
  rw [List.take_add_one, szL_app, List.getD_eq_getElem?_getD]
  cases ws[m]? with
  | none => show _ + 0 = _ + nilS.length; rw [nilS_length]
  | some x => show _ + szL 0 [x] = _ + x.length; rw [szL_one]; omega

theorem just_fold (ws : List Str) (blanks g : Int) (hg : 1 ≤ g) (x : Str) : ∀ m : Nat, (m : Int) ≤ g → (List.range m).foldl (justStep ws blanks g) x = (List.range m).foldl (spreadStep ws blanks g) x
  | 0, _ => rfl
  | m + 1, h => by
    rw [List.range_succ, List.foldl_append, List.foldl_append, just_fold ws blanks g hg x m (by omega)]
    show justStep _ _ _ _ _ = spreadStep _ _ _ _ _
    unfold justStep spreadStep
    rw [gap_eq hg (by omega)]
theorem just_len (ws : List Str) (blanks g : Int) (hg : 1 ≤ g) (hb : g ≤ blanks) : ∀ m : Nat, (m : Int) ≤ g →
    (((List.range m).foldl (justStep ws blanks g) (ws.getD 0 nilS)).length : Int) = szL 0 (ws.take (m + 1)) + m * (blanks / g) + min (m : Int) (blanks % g) := by
  have e := Int.mul_ediv_add_emod blanks g
  have h0 := Int.emod_nonneg blanks (show g ≠ 0 by omega)
  have hq : 1 ≤ blanks / g := by rw [Int.le_ediv_iff_mul_le (by omega)]; omega
  intro m
  induction m with
  | zero =>
    intro _
    rw [szL0_take_succ]
    show ((ws.getD 0 nilS).length : Int) = _
    rw [List.take_zero, szL_nil]
    show _ = _ + (0 : Int) * _ + min 0 _
    omega
  | succ m ih =>
    intro h
    have ih := ih (by omega)
    rw [List.range_succ, List.foldl_append, szL0_take_succ]
    generalize (List.range m).foldl (justStep ws blanks g) (ws.getD 0 nilS) = f at ih ⊢
    show ((justStep ws blanks g f m).length : Int) = _
    unfold justStep
    rw [Str.length_append, Str.length_append, mul_length]
    have hgp : gapAt blanks g m = if (m : Int) < blanks % g then blanks / g + 1 else blanks / g := by
      unfold gapAt
      rw [Int.fdiv_eq_ediv_of_nonneg _ (by omega), Int.fmod_eq_emod_of_nonneg _ (by omega)]
    rw [hgp]
    have e3 : ((m + 1 : Nat) : Int) * (blanks / g) = (m : Int) * (blanks / g) + blanks / g := by
      rw [show ((m + 1 : Nat) : Int) = (m : Int) + 1 by omega, Int.add_mul, Int.one_mul]
    rw [e3]
    generalize (m : Int) * (blanks / g) = z at ih ⊢
    split <;> omega

theorem W_more {s x : Str} {n : Int} (hn : 1 ≤ n) (hx : IsWord x) : W (cl (s ++ Txt.mul sepS n ++ x)) = W (cl s) ++ [x] := by
  rw [cl_append, cl_append, cl_mul]
  obtain ⟨k, hk⟩ : ∃ k, n.toNat = k + 1 := ⟨n.toNat - 1, by omega⟩
  rw [hk, List.replicate_succ, List.append_assoc, List.cons_append, W_mid sp32, W_left (sp_rep k), W_word hx]
theorem just_W (ws : List Str) (hw : ∀ x ∈ ws, IsWord x) (blanks g : Int) (hg : 1 ≤ g) (hb : g ≤ blanks) (hl : 1 ≤ ws.length) : ∀ m : Nat, m + 1 ≤ ws.length →
    W (cl ((List.range m).foldl (justStep ws blanks g) (ws.getD 0 nilS))) = ws.take (m + 1) := by
  have hq : 1 ≤ blanks / g := by rw [Int.le_ediv_iff_mul_le (by omega)]; omega
  have hin : ∀ k, k < ws.length → IsWord (ws.getD k nilS) := fun k hk => by rw [getD_get hk]; exact hw _ (List.getElem_mem hk)
  intro m
  induction m with
  | zero =>
    intro _
    show W (cl (ws.getD 0 nilS)) = _
    rw [W_word (hin 0 (by omega)), List.take_add_one, List.take_zero, List.getElem?_eq_getElem (by omega), getD_get (by omega)]
    rfl
  | succ m ih =>
    intro h
    rw [List.range_succ, List.foldl_append]
    have ih := ih (by omega)
    generalize (List.range m).foldl (justStep ws blanks g) (ws.getD 0 nilS) = f at ih ⊢
    show W (cl (justStep _ _ _ _ _)) = _
    unfold justStep
    have hgp : 1 ≤ gapAt blanks g m := by
      unfold gapAt
      rw [Int.fdiv_eq_ediv_of_nonneg _ (by omega)]
      split <;> omega
    rw [W_more hgp (hin _ (by omega)), ih, List.take_add_one (i := m + 1), List.getElem?_eq_getElem (by omega), getD_get (by omega)]
    rfl

section
variable {w : Int} {l : List Str}
theorem line_cases (h : LineOk w l) : (∃ x, l = [x]) ∨ (2 ≤ l.length ∧ (l.length : Int) - 1 ≤ w - (Txt.join nilS l).length) := by
  obtain ⟨hne, h⟩ := h
  have hpos := List.length_pos_iff.mpr hne
  by_cases h1 : l.length = 1
  · exact .inl (List.length_eq_one_iff.mp h1)
  · refine .inr ⟨by omega, ?_⟩
    rcases h with h | h
    · rw [jn_len] at h; rw [joinN_len]; omega
    · exact absurd h h1
/-- the two ways of spreading agree -/
theorem just_spread (hw : ∀ x ∈ l, IsWord x) (h : LineOk w l) : justF (jn l) w = spreadF l w := by
  unfold justF
  rw [words_jn hw]
  rcases line_cases h with ⟨x, rfl⟩ | ⟨h2, hb⟩
  · rw [if_pos (by rfl), jn_one]; rfl
  · rw [if_neg (by omega)]
    unfold spreadF
    rw [← just_fold l _ _ (by omega) _ _ (by omega)]
    refine (ljust_self ?_).symm
    have hl := just_len l (w - (Txt.join nilS l).length) (l.length - 1) (by omega) hb (l.length - 1) (by omega)
    have e := Int.mul_ediv_add_emod (w - (Txt.join nilS l).length : Int) (l.length - 1)
    have h1 := Int.emod_lt_of_pos (w - (Txt.join nilS l).length : Int) (show (0 : Int) < l.length - 1 by omega)
    rw [show l.length - 1 + 1 = l.length by omega, List.take_length, ← joinN_len, show ((l.length - 1 : Nat) : Int) = (l.length : Int) - 1 by omega, Int.min_eq_right (by omega)] at hl
    rw [hl]
    omega
theorem just_words (hw : ∀ x ∈ l, IsWord x) (h : LineOk w l) : Txt.words (justF (jn l) w) = l := by
  unfold justF
  rw [words_jn hw]
  rcases line_cases h with ⟨x, rfl⟩ | ⟨h2, hb⟩
  · rw [if_pos (by rfl), words_ljust, words_jn hw]
  · rw [if_neg (by omega), words_eq, just_W l hw _ _ (by omega) hb (by omega) _ (by omega), show l.length - 1 + 1 = l.length by omega, List.take_length]
theorem spread_words (hw : ∀ x ∈ l, IsWord x) (h : LineOk w l) : Txt.words (spreadF l w) = l := by rw [← just_spread hw h, just_words hw h]
theorem words_rstrip (x : Str) : Txt.words (Txt.rstrip x) = Txt.words x := by rw [words_eq, words_eq, W_rstrip]
theorem words_strip (x : Str) : Txt.words (Txt.strip x) = Txt.words x := by rw [words_eq, words_eq, W_strip]

/-- a line that does not fit is one word, and stays -/
theorem spread_long (hw : ∀ x ∈ l, IsWord x) (h : LineOk w l) (hn : ¬ ((jn l).length : Int) ≤ w) : Txt.rstrip (spreadF l w) = jn l := by
  rcases h.2 with h1 | h1
  · exact absurd h1 hn
  · obtain ⟨x, rfl⟩ := List.length_eq_one_iff.mp h1
    rw [jn_one] at hn ⊢
    show Txt.rstrip (Txt.ljust x w) = x
    rw [ljust_self (by omega), rstrip_word (hw x List.mem_cons_self)]
end

/-! text PF -/

/-! ## Paragraphs as groups of words -/
noncomputable abbrev wds (t : Str) : List Str := Txt.words t
noncomputable def gstep (st : List (List Str) × List Str) (o : List Str) : List (List Str) × List Str := if o ≠ [] then (st.1, st.2 ++ o) else if st.2 = [] then st else (st.1 ++ [st.2], [])
noncomputable def gr (own : List (List Str)) : List (List Str) := ((own ++ [[]]).foldl gstep ([], [])).1

theorem strip_wds (t : Str) : Txt.strip t ≠ Str.empty ↔ wds t ≠ [] := by rw [strip_ne_iff, wds, words_eq]
theorem wds_nil : wds nilS = [] := by rw [wds, words_eq, cl_nil]; rfl
theorem wds_sep : wds sepS = [] := by rw [wds, words_eq, cl_sep, W_sp sp32]; rfl
theorem wds_jn (ts : List Str) : wds (jn ts) = (ts.map wds).flatten := by
  rw [wds, words_eq, W_jn]
  congr 1
  refine List.map_congr_left fun t _ => (words_eq t).symm

noncomputable def Sim (st : List Str × List Str) (st' : List (List Str) × List Str) : Prop := st'.1 = st.1.map wds ∧ st'.2 = (st.2.map wds).flatten ∧ ∀ t ∈ st.2, wds t ≠ []
theorem flat_nil {cur : List Str} (h : ∀ t ∈ cur, wds t ≠ []) : (cur.map wds).flatten = [] ↔ cur = [] := by
  constructor
  · intro e
    cases cur with
    | nil => rfl
    | cons x r =>
      rw [List.map_cons, List.flatten_cons, List.append_eq_nil_iff] at e
      exact absurd e.1 (h x List.mem_cons_self)
  · rintro rfl; rfl
theorem sim_step {st : List Str × List Str} {st' : List (List Str) × List Str} (h : Sim st st') (t : Str) : Sim (paraStep st t) (gstep st' (wds t)) := by
  obtain ⟨a, b⟩ := st
  obtain ⟨a', b'⟩ := st'
  obtain ⟨h1, h2, h3⟩ := h
  dsimp only at h1 h2 h3
  unfold paraStep gstep
  by_cases ht : wds t ≠ []
  · rw [if_pos ht, if_pos ((strip_wds t).mpr ht)]
    refine ⟨h1, ?_, ?_⟩
    · show b' ++ wds t = ((b ++ [t]).map wds).flatten
      rw [h2]; simp
    · intro u hu
      rcases List.mem_append.mp hu with hu | hu
      · exact h3 u hu
      · cases List.mem_singleton.mp hu; exact ht
  · rw [if_neg ht, if_neg (fun e => ht ((strip_wds t).mp e))]
    by_cases hb : b = []
    · rw [if_pos hb, if_pos (show b' = [] by rw [h2, flat_nil h3]; exact hb)]
      exact ⟨h1, h2, h3⟩
    · rw [if_neg hb, if_neg (show ¬ b' = [] by rw [h2, flat_nil h3]; exact hb)]
      refine ⟨?_, rfl, fun t ht => by cases ht⟩
      show a' ++ [b'] = (a ++ [jn b]).map wds
      rw [h1, h2, List.map_append, List.map_singleton, wds_jn]
theorem sim_fold : ∀ (ts : List Str) {st : List Str × List Str} {st' : List (List Str) × List Str}, Sim st st' → Sim (ts.foldl paraStep st) ((ts.map wds).foldl gstep st')
  | [], _, _, h => h
  | t :: ts, _, _, h => sim_fold ts (sim_step h t)
theorem para_gr (ts : List Str) : (paraF ts).map wds = gr (ts.map wds) := by
  have h := sim_fold (ts ++ [nilS]) (st := ([], [])) (st' := ([], [])) ⟨rfl, rfl, fun t ht => by cases ht⟩
  have h1 := h.1
  rw [List.map_append, List.map_singleton, wds_nil] at h1
  exact h1.symm

/-! ## Found: the law's own way of the paragraphs -/
noncomputable def Pc : List Str → List Str → List Str
  | cur, [] => if cur = [] then [] else [jn cur]
  | cur, t :: ts => if wds t ≠ [] then Pc (cur ++ [t]) ts else if cur = [] then Pc [] ts else jn cur :: Pc [] ts
theorem fold_Pc : ∀ (ts : List Str) (ls cur : List Str), ((ts ++ [nilS]).foldl paraStep (ls, cur)).1 = ls ++ Pc cur ts
  | [], ls, cur => by
    show (paraStep (ls, cur) nilS).1 = _
    unfold paraStep Pc
    rw [if_neg (fun e => ((strip_wds nilS).mp e) wds_nil)]
    dsimp only
    split <;> simp
  | t :: ts, ls, cur => by
    rw [List.cons_append, List.foldl_cons]
    unfold Pc
    by_cases ht : wds t ≠ []
    · rw [if_pos ht, show paraStep (ls, cur) t = (ls, cur ++ [t]) from if_pos ((strip_wds t).mpr ht)]
      exact fold_Pc ts ls (cur ++ [t])
    · rw [if_neg ht]
      by_cases hc : cur = []
      · rw [if_pos hc, show paraStep (ls, cur) t = (ls, cur) from by unfold paraStep; rw [if_neg (fun e => ht ((strip_wds t).mp e)), if_pos hc], hc]
        exact fold_Pc ts ls []
      · rw [if_neg hc, show paraStep (ls, cur) t = (ls ++ [jn cur], []) from by unfold paraStep; rw [if_neg (fun e => ht ((strip_wds t).mp e)), if_neg hc], fold_Pc ts, List.append_assoc]
        rfl
theorem paraF_Pc (ts : List Str) : paraF ts = Pc [] ts := fold_Pc ts [] []

noncomputable def runL (own : List (List Str)) : Nat := (own.takeWhile fun o => !o.isEmpty).length
noncomputable def Fd : Bool → List Str → List (List Str) → List (Str × List Str)
  | prev, t :: ts, o :: os => if o ≠ [] ∧ prev = true then (jn (t :: ts.take (runL os)), (o :: os.take (runL os)).flatten) :: Fd false ts os else Fd o.isEmpty ts os
  | _, _, _ => []
noncomputable def foundAtP (prev : Bool) (texts : List Str) (own : List (List Str)) (i : Nat) : Option (Str × List Str) :=
  if own.getD i [] ≠ [] ∧ ((i = 0 ∧ prev = true) ∨ (i ≠ 0 ∧ own.getD (i - 1) [] = [])) then some (jn ((texts.drop i).take (stopAt own i - i)), ((own.drop i).take (stopAt own i - i)).flatten) else none
theorem foundAtP_succ (p : Bool) (t : Str) (ts : List Str) (o : List Str) (os : List (List Str)) (i : Nat) : foundAtP p (t :: ts) (o :: os) (i + 1) = foundAtP o.isEmpty ts os i := by
  unfold foundAtP stopAt
  have e : ((o :: os).getD (i + 1) [] ≠ [] ∧ ((i + 1 = 0 ∧ p = true) ∨ (i + 1 ≠ 0 ∧ (o :: os).getD (i + 1 - 1) [] = []))) ↔ (os.getD i [] ≠ [] ∧ ((i = 0 ∧ o.isEmpty = true) ∨ (i ≠ 0 ∧ os.getD (i - 1) [] = []))) := by
    rw [List.getD_cons_succ, Nat.add_sub_cancel]
    cases i with
    | zero => simp
    | succ i => simp
  rw [List.drop_succ_cons, List.drop_succ_cons, show ∀ L, i + 1 + L - (i + 1) = i + L - i by intro L; omega]
  by_cases hc : os.getD i [] ≠ [] ∧ ((i = 0 ∧ o.isEmpty = true) ∨ (i ≠ 0 ∧ os.getD (i - 1) [] = []))
  · rw [if_pos hc, if_pos (e.mpr hc)]
  · rw [if_neg hc, if_neg (fun h => hc (e.mp h))]
theorem Fd_eq : ∀ (ts : List Str) (own : List (List Str)) (p : Bool), ts.length = own.length → (List.range own.length).filterMap (foundAtP p ts own) = Fd p ts own
  | [], [], p, _ => rfl
  | [], _ :: _, p, h => by cases h
  | _ :: _, [], p, h => by cases h
  | t :: ts, o :: os, p, h => by
    rw [List.length_cons, List.range_succ_eq_map, List.filterMap_cons, List.filterMap_map]
    have e : (foundAtP p (t :: ts) (o :: os) ∘ Nat.succ) = foundAtP o.isEmpty ts os := funext fun i => foundAtP_succ p t ts o os i
    rw [e, Fd_eq ts os _ (by simpa using h)]
    rw [show Fd p (t :: ts) (o :: os) = if o ≠ [] ∧ p = true then (jn (t :: ts.take (runL os)), (o :: os.take (runL os)).flatten) :: Fd false ts os else Fd o.isEmpty ts os from rfl]
    by_cases hc : o ≠ [] ∧ p = true
    · have e0 : foundAtP p (t :: ts) (o :: os) 0 = some (jn (t :: ts.take (runL os)), (o :: os.take (runL os)).flatten) := by
        unfold foundAtP stopAt
        have ho : (!o.isEmpty) = true := by simpa using hc.1
        rw [List.getD_cons_zero, if_pos ⟨hc.1, .inl ⟨rfl, hc.2⟩⟩, List.drop_zero, List.drop_zero, List.takeWhile_cons, if_pos ho, Nat.zero_add, Nat.sub_zero, List.length_cons, List.take_succ_cons, List.take_succ_cons]
        rfl
      rw [e0, if_pos hc, show o.isEmpty = false by simpa using hc.1]
    · have e0 : foundAtP p (t :: ts) (o :: os) 0 = none := by
        unfold foundAtP
        rw [List.getD_cons_zero, if_neg (by rintro ⟨h1, ⟨_, h2⟩ | ⟨h2, _⟩⟩; exact hc ⟨h1, h2⟩; exact h2 rfl)]
      rw [e0, if_neg hc]
theorem foundF_Fd (ts : List Str) (own : List (List Str)) (h : ts.length = own.length) : foundF ts own = Fd true ts own := by
  rw [← Fd_eq ts own true h]
  unfold foundF
  congr 1
  funext i
  unfold foundAt foundAtP
  cases i with
  | zero => simp
  | succ i => simp
theorem Fd_Pc : ∀ (ts : List Str), Fd true ts (ts.map wds) = (Pc [] ts).map (fun r => (r, wds r)) ∧
    ∀ cur, cur ≠ [] → Pc cur ts = jn (cur ++ ts.take (runL (ts.map wds))) :: (Fd false ts (ts.map wds)).map (·.1) ∧ (Fd false ts (ts.map wds)).map (fun p => (p.1, wds p.1)) = Fd false ts (ts.map wds)
  | [] => ⟨rfl, fun cur hc => by
      unfold Pc
      rw [if_neg hc]
      exact ⟨by simp [Fd], rfl⟩⟩
  | t :: ts => by
    have ih := Fd_Pc ts
    rw [List.map_cons]
    by_cases ht : wds t = []
    · have e1 : runL (wds t :: ts.map wds) = 0 := by unfold runL; rw [List.takeWhile_cons, if_neg (by rw [ht]; simp)]; rfl
      have e2 : ∀ p, Fd p (t :: ts) (wds t :: ts.map wds) = Fd true ts (ts.map wds) := by
        intro p
        rw [Fd, if_neg (fun h => h.1 ht), ht]
        rfl
      refine ⟨?_, fun cur hc => ?_⟩
      · rw [e2, Pc, if_neg (by simpa using ht), if_pos rfl, ih.1]
      · rw [e1, e2, Pc, if_neg (by simpa using ht), if_neg hc, ih.1, List.map_map, List.map_map]
        refine ⟨?_, rfl⟩
        rw [List.take_zero, List.append_nil]
        congr 1
        exact (List.map_id _).symm
    · have e1 : runL (wds t :: ts.map wds) = runL (ts.map wds) + 1 := by unfold runL; rw [List.takeWhile_cons, if_pos (by simpa using ht)]; rfl
      have e2 : Fd false (t :: ts) (wds t :: ts.map wds) = Fd false ts (ts.map wds) := by
        rw [Fd, if_neg (fun h => by cases h.2), show (wds t).isEmpty = false by simpa using ht]
      refine ⟨?_, fun cur hc => ?_⟩
      · have h1 := ih.2 [t] (by simp)
        rw [Fd, if_pos ⟨ht, rfl⟩, Pc, if_pos ht, List.nil_append, h1.1, List.map_cons, List.map_map]
        congr 1
        · rw [wds_jn, List.singleton_append, List.map_cons, List.map_take]
        · exact h1.2.symm
      · have h1 := ih.2 (cur ++ [t]) (by simp)
        rw [e1, e2, Pc, if_pos ht, h1.1, List.take_succ_cons]
        exact ⟨by simp, h1.2⟩
/-- what is found is the paragraphs with their words -/
theorem found_para (ts : List Str) : foundF ts (ts.map wds) = (paraF ts).map (fun r => (r, wds r)) := by
  rw [foundF_Fd _ _ (by rw [List.length_map]), (Fd_Pc ts).1, paraF_Pc]

/-! ## Cutting the texts -/
theorem fold_gen : ∀ (ts ls : List Str) (cur : List Str), ts.foldl paraStep (ls, cur) = (ls ++ (ts.foldl paraStep ([], cur)).1, (ts.foldl paraStep ([], cur)).2)
  | [], ls, cur => by simp
  | t :: ts, ls, cur => by
    rw [List.foldl_cons, List.foldl_cons]
    by_cases ht : Txt.strip t ≠ Str.empty
    · rw [show ∀ l, paraStep (l, cur) t = (l, cur ++ [t]) from fun l => if_pos ht, show ∀ l, paraStep (l, cur) t = (l, cur ++ [t]) from fun l => if_pos ht]
      exact fold_gen ts ls _
    · by_cases hc : cur = []
      · have e : ∀ l, paraStep (l, cur) t = (l, cur) := fun l => by unfold paraStep; rw [if_neg ht, if_pos hc]
        rw [e, e]
        exact fold_gen ts ls _
      · have e : ∀ l, paraStep (l, cur) t = (l ++ [jn cur], []) := fun l => by unfold paraStep; rw [if_neg ht, if_neg hc]
        rw [e, e, fold_gen ts (ls ++ [jn cur]), fold_gen ts ([] ++ [jn cur])]
        simp
theorem paraStep_blank {t : Str} (ht : wds t = []) (st : List Str × List Str) : paraStep st t = paraStep st nilS := by
  unfold paraStep
  rw [if_neg (fun e => ((strip_wds t).mp e) ht), if_neg (fun e => ((strip_wds nilS).mp e) wds_nil)]
theorem step_nil_cur (st : List Str × List Str) : (paraStep st nilS).2 = [] := by
  unfold paraStep
  rw [if_neg (fun e => ((strip_wds nilS).mp e) wds_nil)]
  split
  · assumption
  · rfl
theorem para_cut (x y : List Str) : paraF (x ++ [sepS] ++ y) = paraF x ++ paraF y := by
  unfold paraF
  rw [List.append_assoc, List.append_assoc, List.foldl_append, List.foldl_append, List.foldl_append (l := x)]
  show ((y ++ [nilS]).foldl paraStep (paraStep (x.foldl paraStep ([], [])) sepS)).1 = (paraStep (x.foldl paraStep ([], [])) nilS).1 ++ _
  rw [paraStep_blank wds_sep]
  have h := step_nil_cur (x.foldl paraStep ([], []))
  generalize paraStep (x.foldl paraStep ([], [])) nilS = st at h ⊢
  obtain ⟨a, b⟩ := st
  dsimp only at h
  subst h
  rw [fold_gen]
theorem cur_snoc (x : List Str) (t : Str) (st : List Str × List Str) : ((x ++ [t]).foldl paraStep st).2 = [] ↔ wds t = [] := by
  rw [List.foldl_append]
  show (paraStep _ t).2 = [] ↔ _
  by_cases ht : wds t = []
  · rw [paraStep_blank ht]
    exact ⟨fun _ => ht, fun _ => step_nil_cur _⟩
  · unfold paraStep
    rw [if_pos ((strip_wds t).mpr ht)]
    exact ⟨fun h => by simp at h, fun h => absurd h ht⟩
theorem Pc_len : ∀ (y cur : List Str), cur ≠ [] → (Pc cur y).length = (Pc [] y).length + (if ∃ t, y.head? = some t ∧ wds t ≠ [] then 0 else 1)
  | [], cur, h => by simp [Pc, h]
  | t :: y, cur, h => by
    by_cases ht : wds t = []
    · rw [if_neg (by rintro ⟨u, hu, hn⟩; cases hu; exact hn ht), Pc, if_neg (by simpa using ht), if_neg h, Pc, if_neg (by simpa using ht), if_pos rfl]
      rfl
    · rw [if_pos ⟨t, rfl, ht⟩, Pc, if_pos ht, Pc, if_pos ht]
      rw [Pc_len y (cur ++ [t]) (by simp), Pc_len y ([] ++ [t]) (by simp)]
      rfl

/-! text PG -/

theorem para_count' (x : List Str) (t u : Str) (y : List Str) :
    (paraF (x ++ [t])).length + (paraF (u :: y)).length = (paraF (x ++ [t] ++ u :: y)).length + if wds t ≠ [] ∧ wds u ≠ [] then 1 else 0 := by
  have hcur := cur_snoc x t ([], [])
  have e1 : paraF (x ++ [t]) = ((x ++ [t]).foldl paraStep ([], [])).1 ++ Pc ((x ++ [t]).foldl paraStep ([], [])).2 [] := by
    unfold paraF
    rw [List.foldl_append]
    exact fold_Pc [] _ _
  have e2 : paraF (x ++ [t] ++ u :: y) = ((x ++ [t]).foldl paraStep ([], [])).1 ++ Pc ((x ++ [t]).foldl paraStep ([], [])).2 (u :: y) := by
    unfold paraF
    rw [List.append_assoc, List.foldl_append]
    exact fold_Pc (u :: y) _ _
  rw [e1, e2, paraF_Pc (u :: y)]
  generalize (x ++ [t]).foldl paraStep ([], []) = st at hcur ⊢
  obtain ⟨ls, cur⟩ := st
  dsimp only at hcur ⊢
  rw [List.length_append, List.length_append]
  by_cases ht : wds t = []
  · rw [hcur.mpr ht, if_neg (fun h => h.1 ht)]
    show ls.length + 0 + _ = _
    omega
  · have hc : cur ≠ [] := fun h => ht (hcur.mp h)
    rw [Pc_len (u :: y) cur hc, show Pc cur [] = [jn cur] from by unfold Pc; rw [if_neg hc]]
    by_cases hu : wds u = []
    · rw [if_neg (by rintro ⟨v, hv, hn⟩; cases hv; exact hn hu), if_neg (fun h => h.2 hu)]
      show _ + 1 + _ = _; omega
    · rw [if_pos ⟨u, rfl, hu⟩, if_pos ⟨ht, hu⟩]
      show _ + 1 + _ = _; omega
theorem para_count (ts : List Str) (cut : Nat) : (paraF (ts.take cut)).length + (paraF (ts.drop cut)).length =
    (paraF ts).length + if 0 < cut ∧ cut < ts.length ∧ (ts.map wds).getD (cut - 1) [] ≠ [] ∧ (ts.map wds).getD cut [] ≠ [] then 1 else 0 := by
  by_cases h0 : cut = 0
  · subst h0
    rw [if_neg (fun h => absurd h.1 (Nat.lt_irrefl _)), List.take_zero, List.drop_zero]
    show 0 + _ = _; omega
  · by_cases h1 : cut < ts.length
    · obtain ⟨c, rfl⟩ : ∃ c, cut = c + 1 := ⟨cut - 1, by omega⟩
      have et : ts.take (c + 1) = ts.take c ++ [ts[c]] := by rw [List.take_add_one, List.getElem?_eq_getElem (by omega)]; rfl
      have ed : ts.drop (c + 1) = ts[c + 1] :: ts.drop (c + 1 + 1) := List.drop_eq_getElem_cons h1
      have ea : ts = ts.take c ++ [ts[c]] ++ ts[c + 1] :: ts.drop (c + 1 + 1) := by rw [← et, ← ed, List.take_append_drop]
      have hc := para_count' (ts.take c) ts[c] ts[c + 1] (ts.drop (c + 1 + 1))
      rw [← ea, ← et, ← ed] at hc
      rw [hc, Nat.add_sub_cancel, getD_get (by rw [List.length_map]; omega), getD_get (by rw [List.length_map]; omega), List.getElem_map, List.getElem_map]
      congr 1
      by_cases hh : wds ts[c] ≠ [] ∧ wds ts[c + 1] ≠ []
      · rw [if_pos hh, if_pos ⟨by omega, h1, hh.1, hh.2⟩]
      · rw [if_neg hh, if_neg (fun h => hh ⟨h.2.2.1, h.2.2.2⟩)]
    · rw [if_neg (fun h => h1 h.2.1), List.take_of_length_le (by omega), List.drop_eq_nil_of_le (by omega)]
      rfl

/-! ## Pages -/
noncomputable def plines (w full : Int) (filled : List (List Str)) : List Str := (List.range filled.length).map (pageLine w full filled)
theorem range_getD {α : Type} (l : List α) (d : α) : (List.range l.length).map (fun i => l.getD i d) = l := by
  refine List.ext_getElem (by simp) fun i h1 h2 => ?_
  rw [List.getElem_map, List.getElem_range, getD_get h2]
noncomputable def Lines (w : Int) (L : List (List Str)) : Prop := ∀ l ∈ L, LineOk w l ∧ ∀ x ∈ l, IsWord x
theorem lay_lines (w : Int) {ws : List Str} (h : ∀ x ∈ ws, IsWord x) : Lines w (lay w ws) := fun l hl => ⟨lay_ok w ws l hl, fun x hx => h x (lay_mem hl x hx)⟩
theorem line_words {w : Int} {L : List (List Str)} (hL : Lines w L) (full : Int) {i : Nat} (hi : i < L.length) : wds (pageLine w full L i) = L.getD i [] := by
  have hin : L.getD i [] ∈ L := by rw [getD_get hi]; exact List.getElem_mem hi
  obtain ⟨h1, h2⟩ := hL _ hin
  unfold pageLine
  split
  · rw [wds, words_rstrip, spread_words h2 h1]
  · exact words_jn h2
theorem plines_words {w : Int} {L : List (List Str)} (hL : Lines w L) (full : Int) : (plines w full L).map wds = L := by
  unfold plines
  rw [List.map_map]
  conv => rhs; rw [← range_getD L []]
  exact List.map_congr_left fun i hi => line_words hL full (List.mem_range.mp hi)
theorem plines_plain {w : Int} {full : Int} (h : full ≠ 1) (L : List (List Str)) : plines w full L = L.map jn := by
  unfold plines
  conv => rhs; rw [← range_getD L [], List.map_map]
  refine List.map_congr_left fun i hi => ?_
  unfold pageLine
  rw [if_neg (fun e => h e.1)]
  rfl
theorem jlF_lines {w : Int} {L : List (List Str)} (hL : Lines w L) : jlF (L.map jn) w = plines w 1 L := by
  unfold jlF plines
  rw [List.length_map]
  refine List.ext_getElem (by simp) fun i h1 h2 => ?_
  have hi : i < L.length := by simpa using h2
  rw [List.getElem_map, List.getElem_range]
  have hin : L[i] ∈ L := List.getElem_mem hi
  obtain ⟨k1, k2⟩ := hL _ hin
  unfold pageLine
  rw [getD_get hi]
  by_cases hlast : i + 1 < L.length
  · rw [if_pos ⟨rfl, by omega⟩, List.getElem_append_left (by simp; omega), List.getElem_map, List.getElem_take, List.getElem_map]
    split
    · rw [just_spread k2 k1]
    · rename_i hn
      exact (spread_long k2 k1 hn).symm
  · rw [if_neg (fun e => hlast (by omega)), List.getElem_append_right (by simp; omega), List.getElem_drop, List.getElem_map]
    have : L.length - 1 + (i - (List.map (fun l => if (l.length : Int) ≤ w then Txt.rstrip (justF l w) else l) ((L.map jn).take (L.length - 1))).length) = i := by simp; omega
    simp only [this]
theorem setLines_eq (w full : Int) (t : Str) : setLines w full t = plines w full (lay w (wds t)) := by
  unfold setLines
  rw [wrapF_words]
  split
  · rename_i h
    rw [jlF_lines (lay_lines w (words_word t)), h]
  · rename_i h
    rw [plines_plain h]
theorem pageStep_eq (w full : Int) (page h : List Str) : pageStep w full page h = parted page ++ plines w full (lay w h) := by
  unfold pageStep plines
  rw [fillF_lay]
theorem setF_eq (ts : List Str) (w full : Int) : setF ts w full = pageF w full ((paraF ts).map wds) := by
  unfold setF pageF
  rw [List.foldl_map]
  congr 1
  funext page t
  rw [pageStep_eq, setStep, setLines_eq]
theorem found_heaps (ts : List Str) : (foundF ts (ts.map wds)).map (·.2) = (paraF ts).map wds := by rw [found_para, List.map_map]; rfl
theorem found_raws (ts : List Str) : (foundF ts (ts.map wds)).map (·.1) = paraF ts := by rw [found_para, List.map_map]; exact List.map_id _

noncomputable def Heaps (hs : List (List Str)) : Prop := ∀ h ∈ hs, h ≠ [] ∧ ∀ x ∈ h, IsWord x
theorem gfold_ne : ∀ (L : List (List Str)) (a : List (List Str)) (b : List Str), (∀ l ∈ L, l ≠ []) → L.foldl gstep (a, b) = (a, b ++ L.flatten)
  | [], a, b, _ => by simp
  | l :: L, a, b, h => by
    rw [List.foldl_cons, show gstep (a, b) l = (a, b ++ l) from if_pos (h l List.mem_cons_self), gfold_ne L _ _ fun x hx => h x (List.mem_cons_of_mem _ hx), List.flatten_cons, List.append_assoc]
theorem plines_ne {w full : Int} {h : List Str} (hh : h ≠ []) : plines w full (lay w h) ≠ [] := by
  unfold plines
  have := List.length_pos_iff.mpr (lay_ne (w := w) hh)
  intro e
  have := congrArg List.length e
  simp at this
  exact lay_ne (w := w) hh this
noncomputable def PInv (page : List Str) (done : List (List Str)) : Prop := (page.map wds ++ [[]]).foldl gstep ([], []) = (done, []) ∧ (page = [] ↔ done = [])
theorem pinv_step {w full : Int} {page : List Str} {done : List (List Str)} {h : List Str} (ih : PInv page done) (hne : h ≠ []) (hwd : ∀ x ∈ h, IsWord x) : PInv (pageStep w full page h) (done ++ [h]) := by
  have hLn : ∀ l ∈ lay w h, l ≠ [] := fun l hl => (lay_ok w h l hl).1
  rw [pageStep_eq]
  refine ⟨?_, ?_⟩
  · rw [List.map_append, plines_words (lay_lines w hwd)]
    unfold parted
    by_cases hp : page = []
    · rw [if_pos hp, hp, ih.2.mp hp, List.map_nil, List.nil_append, List.foldl_append, gfold_ne _ _ _ hLn, lay_flat]
      show gstep ([], [] ++ h) [] = _
      unfold gstep
      rw [if_neg (by simp), if_neg (by simpa using hne)]
      rfl
    · rw [if_neg hp, List.map_append, List.map_singleton, wds_nil, List.append_assoc, List.foldl_append, ih.1, List.foldl_append, gfold_ne _ _ _ hLn, lay_flat]
      show gstep (done, [] ++ h) [] = _
      unfold gstep
      rw [if_neg (by simp), if_neg (by simpa using hne)]
      rfl
  · constructor
    · intro h0
      rw [List.append_eq_nil_iff] at h0
      exact absurd h0.2 (plines_ne hne)
    · intro h0; simp at h0
theorem pinv_fold {w full : Int} : ∀ (hs : List (List Str)) {page : List Str} {done : List (List Str)}, PInv page done → Heaps hs → PInv (hs.foldl (pageStep w full) page) (done ++ hs)
  | [], _, _, h, _ => by rw [List.append_nil]; exact h
  | h :: hs, page, done, ih, hH => by
    have h1 := hH h List.mem_cons_self
    have := pinv_fold (w := w) (full := full) hs (pinv_step (w := w) (full := full) ih h1.1 h1.2) fun x hx => hH x (List.mem_cons_of_mem _ hx)
    rw [List.append_assoc] at this
    exact this
theorem para_page (w full : Int) {hs : List (List Str)} (h : Heaps hs) : (paraF (pageF w full hs)).map wds = hs := by
  rw [para_gr]
  unfold gr
  have := (pinv_fold (w := w) (full := full) hs (page := []) (done := []) ⟨rfl, by simp⟩ h).1
  unfold pageF
  rw [this]
  rfl
theorem gr_ne : ∀ (own : List (List Str)) (st : List (List Str) × List Str), (∀ h ∈ st.1, h ≠ []) → ∀ h ∈ (own.foldl gstep st).1, h ≠ []
  | [], _, hs => hs
  | o :: own, st, hs => by
    refine gr_ne own _ ?_
    unfold gstep
    split
    · exact hs
    · split
      · exact hs
      · intro h hh
        rcases List.mem_append.mp hh with hh | hh
        · exact hs h hh
        · cases List.mem_singleton.mp hh; assumption
theorem heaps_para (ts : List Str) : Heaps ((paraF ts).map wds) := by
  intro h hh
  refine ⟨?_, ?_⟩
  · rw [para_gr] at hh
    exact gr_ne _ ([], []) (fun h hh => by cases hh) h hh
  · obtain ⟨r, _, rfl⟩ := List.mem_map.mp hh
    exact words_word r
noncomputable abbrev sq (l : Str) : Str := jn (wds l)
theorem jn_nilS : jn [] = nilS := nilS_iff.mpr jn_nil
theorem sq_nil : sq nilS = nilS := by rw [sq, wds_nil, jn_nilS]
theorem sq_plines {w : Int} {L : List (List Str)} (hL : Lines w L) (full : Int) : (plines w full L).map sq = L.map jn := by
  rw [show (plines w full L).map sq = ((plines w full L).map wds).map jn by rw [List.map_map]; rfl, plines_words hL]
theorem sq_fold {w full : Int} : ∀ (hs : List (List Str)) (page : List Str), Heaps hs → (hs.foldl (pageStep w full) page).map sq = hs.foldl (pageStep w 0) (page.map sq)
  | [], _, _ => rfl
  | h :: hs, page, hH => by
    rw [List.foldl_cons, List.foldl_cons, sq_fold hs _ fun x hx => hH x (List.mem_cons_of_mem _ hx)]
    congr 1
    rw [pageStep_eq, pageStep_eq, List.map_append, sq_plines (lay_lines w (hH h List.mem_cons_self).2), plines_plain (by decide)]
    congr 1
    unfold parted
    by_cases hp : page = []
    · subst hp; rfl
    · rw [if_neg hp, if_neg (by simpa using hp), List.map_append, List.map_singleton, sq_nil]
theorem sq_page (w full : Int) {hs : List (List Str)} (h : Heaps hs) : (pageF w full hs).map sq = pageF w 0 hs := sq_fold hs [] h

/-! text PH -/

/-! ## The first page -/
theorem rsL_sp (l : List Nat) (n : Nat) : rsL (l ++ List.replicate n 32) = rsL l := by
  unfold rsL
  congr 1
  rw [List.reverse_append, List.reverse_replicate]
  induction n with
  | zero => rfl
  | succ n ih => rw [List.replicate_succ, List.cons_append, List.dropWhile_cons, if_pos sp32]; exact ih
theorem mid_pad (m W : Nat) : m / 2 + (if (m % 2 == 1 && W % 2 == 1) = true then 1 else 0) = (m + W % 2) / 2 := by
  have h := Nat.mod_two_eq_zero_or_one W
  by_cases hm : m % 2 = 1
  · rcases h with h | h
    · rw [h, if_neg (by simp)]; rfl
    · rw [h, hm, if_pos (by decide)]; omega
  · rw [if_neg (by simp [hm])]; omega
theorem pad_eq {W n : Nat} (h : n < W) : (W - n + W % 2) / 2 = (((W : Int) - n + W % 2) / 2).toNat := by omega
theorem pad_zero {W n : Nat} (h : W ≤ n) : (((W : Int) - n + W % 2) / 2).toNat = 0 := by omega
theorem center_due {w : Int} (hw : 0 ≤ w) (x : Str) : Txt.rstrip (Txt.center x w) = Txt.rstrip (Txt.mul sepS ((w - x.length + w.fmod 2).fdiv 2) ++ x) := by
  obtain ⟨W, rfl⟩ : ∃ W : Nat, w = W := ⟨w.toNat, (Int.toNat_of_nonneg hw).symm⟩
  refine cl_inj ?_
  rw [cl_rstrip, cl_rstrip, cl_append, cl_mul, Int.fdiv_eq_ediv_of_nonneg _ (by decide), Int.fmod_eq_emod_of_nonneg _ (by decide)]
  unfold Txt.center centred
  by_cases h : W ≤ x.length
  · rw [if_pos (Int.ofNat_le.mpr h), pad_zero h]
    rfl
  · rw [if_neg (fun e => h (Int.ofNat_le.mp e))]
    dsimp only
    rw [cl_pad, rsL_sp, Int.toNat_natCast, mid_pad, pad_eq (Nat.lt_of_not_le h)]
theorem wds_center {w : Int} (t : Str) : wds (Txt.rstrip (Txt.center (Txt.strip t) w)) = wds t := by
  rw [wds, words_rstrip]
  unfold Txt.center
  split
  · exact words_strip t
  · unfold centred
    dsimp only
    rw [words_eq, cl_pad, W_right (sp_rep _), W_left (sp_rep _), ← words_eq, words_strip]
theorem first_due (ts : List Str) (op : Int) {w : Int} (hw : 0 ≤ w) : firstF ts op w = dueF ts (ts.map wds) op w := by
  unfold firstF dueF
  split
  · rw [setF_eq, found_heaps]
  · split
    · exact List.map_congr_left fun t _ => center_due hw _
    · rw [List.map_map]; rfl
theorem para_map {φ : Str → Str} (h : ∀ t, wds (φ t) = wds t) (ts : List Str) : (paraF (ts.map φ)).map wds = (paraF ts).map wds := by
  rw [para_gr, para_gr, List.map_map]
  congr 1
  exact List.map_congr_left fun t _ => h t
theorem first_para (ts : List Str) (op w : Int) : (paraF (firstF ts op w)).map wds = (paraF ts).map wds := by
  unfold firstF
  split
  · rw [setF_eq, para_page w op (heaps_para ts)]
  · split
    · exact para_map (fun t => wds_center t) ts
    · exact para_map (fun t => words_jn (words_word t)) ts
theorem set_first (ts : List Str) (op w b full : Int) : setF (firstF ts op w) b full = pageF b full ((paraF ts).map wds) := by rw [setF_eq, first_para]
theorem set_page (ts : List Str) (b b' full full' : Int) : setF (pageF b full ((paraF ts).map wds)) b' full' = pageF b' full' ((paraF ts).map wds) := by rw [setF_eq, para_page b full (heaps_para ts)]

/-! ## The texts -/
theorem pool_ok : (pool.all fun x => !(cl x).isEmpty && (cl x).all (fun c => !isSp c) && decide (x.length ≤ 7)) = true := by decide +kernel
theorem pool_word {x : Str} (h : x ∈ pool) : IsWord x ∧ x.length ≤ 7 := by
  have := List.all_eq_true.mp pool_ok x h
  simp only [Bool.and_eq_true, Bool.not_eq_true', List.isEmpty_eq_false_iff, List.all_eq_true, decide_eq_true_eq] at this
  exact ⟨⟨this.1.1, this.1.2⟩, this.2⟩
theorem pick_word (i : Int) : IsWord (pick i) ∧ (pick i).length ≤ 7 := by
  have h0 : 0 ≤ i.fmod 8 := Int.fmod_nonneg_of_pos _ (by decide)
  have h1 : i.fmod 8 < 8 := Int.fmod_lt_of_pos _ (by decide)
  have hl : pool.length = 8 := rfl
  unfold pick
  rw [getD_get (by omega)]
  exact pool_word (List.getElem_mem _)
theorem heap_words (s f g : Int) : (∀ x ∈ heapF s f g, IsWord x) ∧ szL 1 (heapF s f g) ≤ 24 := by
  have hs : ∀ (x : Str) (l : List Str), szL 1 (x :: l) = x.length + 1 + szL 1 l := fun x l => by unfold szL; simp
  have h1 := pick_word f
  have h2 := pick_word g
  have h3 := pick_word (f + g)
  unfold heapF
  split
  · exact ⟨fun x hx => (nomatch hx), by decide⟩
  · split
    · refine ⟨fun x hx => ?_, by rw [hs, szL_nil]; omega⟩
      cases List.mem_singleton.mp hx; exact h1.1
    · split
      · refine ⟨fun x hx => ?_, by rw [hs, hs, szL_nil]; omega⟩
        simp only [List.mem_cons, List.not_mem_nil, or_false] at hx
        rcases hx with rfl | rfl
        · exact h1.1
        · exact h2.1
      · refine ⟨fun x hx => ?_, by rw [hs, hs, hs, szL_nil]; omega⟩
        simp only [List.mem_cons, List.not_mem_nil, or_false] at hx
        rcases hx with rfl | rfl | rfl
        · exact h1.1
        · exact h2.1
        · exact h3.1
theorem text_words {ws : List Str} (h : ∀ x ∈ ws, IsWord x) (s : Int) : wds (textF ws s) = ws := by
  have m3 : 0 ≤ s.fmod 3 := Int.fmod_nonneg_of_pos _ (by decide)
  rw [wds, words_eq]
  unfold textF
  rw [cl_append, cl_append, cl_mul, cl_mul, W_right (sp_rep _), W_left (sp_rep _)]
  refine W_join_gap (n := (s.fmod 3).toNat) ?_ ws h
  rw [cl_mul]
  congr 1
  omega
theorem text_len {ws : List Str} (h : szL 1 ws ≤ 24) {s : Int} (h0 : 0 ≤ s) (h1 : s ≤ 11) : (textF ws s).length ≤ 108 := by
  have m2 : 0 ≤ s.fmod 2 ∧ s.fmod 2 < 2 := ⟨Int.fmod_nonneg_of_pos _ (by decide), Int.fmod_lt_of_pos _ (by decide)⟩
  have m3 : 0 ≤ s.fmod 3 ∧ s.fmod 3 < 3 := ⟨Int.fmod_nonneg_of_pos _ (by decide), Int.fmod_lt_of_pos _ (by decide)⟩
  have m6 := fdiv_bd (a := s) (g := 6) (B := 11) (by decide) (by omega) (by omega) (by omega)
  have hj := join_length (Txt.mul sepS (1 + s.fmod 3)) ws
  have hs := szL_mul (Txt.mul sepS (1 + s.fmod 3)).length ws
  have hq : ((Txt.mul sepS (1 + s.fmod 3)).length + 1) * szL 1 ws ≤ 4 * szL 1 ws := Nat.mul_le_mul_right _ (by rw [mul_length]; omega)
  unfold textF
  rw [Str.length_append, Str.length_append, mul_length, mul_length]
  omega

/-! ## Sizes -/
theorem spread_le {w : Int} {l : List Str} (h : LineOk w l) (hw : 0 ≤ w) : (spreadF l w).length ≤ szL 0 l + w.toNat := by
  rcases line_cases h with ⟨x, rfl⟩ | ⟨h2, hb⟩
  · show (Txt.ljust x w).length ≤ _
    rw [szL_one]
    exact ljust_length hw
  · unfold spreadF
    rw [← just_fold l _ _ (by omega) _ _ (by omega)]
    have hl := just_len l (w - (Txt.join nilS l).length) (l.length - 1) (by omega) hb (l.length - 1) (by omega)
    have e := Int.mul_ediv_add_emod (w - (Txt.join nilS l).length : Int) (l.length - 1)
    have h1 := Int.emod_lt_of_pos (w - (Txt.join nilS l).length : Int) (show (0 : Int) < l.length - 1 by omega)
    rw [show l.length - 1 + 1 = l.length by omega, List.take_length, ← joinN_len, show ((l.length - 1 : Nat) : Int) = (l.length : Int) - 1 by omega, Int.min_eq_right (by omega)] at hl
    rw [ljust_self (by rw [hl]; omega)]
    omega
theorem pageLine_le {w : Int} {L : List (List Str)} (hL : ∀ l ∈ L, LineOk w l) (hw : 0 ≤ w) (full : Int) {i : Nat} (hi : i < L.length) : (pageLine w full L i).length ≤ szL 1 (L.getD i []) + w.toNat := by
  have hin : L.getD i [] ∈ L := by rw [getD_get hi]; exact List.getElem_mem hi
  unfold pageLine
  split
  · exact Nat.le_trans (rstrip_length _) (Nat.le_trans (spread_le (hL _ hin) hw) (Nat.add_le_add_right (szL0 _) _))
  · exact Nat.le_trans (jn_length' _) (Nat.le_add_right _ _)
theorem szL_map_range {n : Nat} {f : Nat → Str} {g : Nat → Nat} (h : ∀ i, i < n → (f i).length + 1 ≤ g i) : szL 1 ((List.range n).map f) ≤ ((List.range n).map g).sum := by
  induction n with
  | zero => exact Nat.le_refl _
  | succ n ih =>
    rw [List.range_succ, List.map_append, List.map_append, szL_app, List.sum_append]
    have := ih fun i hi => h i (by omega)
    have h2 := h n (by omega)
    rw [List.map_singleton, List.map_singleton, szL_one]
    simp only [List.sum_cons, List.sum_nil]
    omega
theorem sum_getD (L : List (List Str)) (c : Nat) : ((List.range L.length).map fun i => szL 1 (L.getD i []) + c).sum = szL 1 L.flatten + L.length * c := by
  have e : (List.range L.length).map (fun i => szL 1 (L.getD i []) + c) = L.map fun l => szL 1 l + c := by
    conv => rhs; rw [← range_getD L [], List.map_map]
    rfl
  rw [e]
  induction L with
  | nil => simp [szL]
  | cons x r ih =>
    rw [List.map_cons, List.sum_cons, List.flatten_cons, szL_app, List.length_cons, Nat.add_mul]
    have e2 : (List.range r.length).map (fun i => szL 1 (r.getD i []) + c) = r.map fun l => szL 1 l + c := by
      conv => rhs; rw [← range_getD r [], List.map_map]
      rfl
    rw [ih e2]
    omega
theorem plines_sz {w : Int} (hw : 0 ≤ w) (full : Int) (h : List Str) : szL 1 (plines w full (lay w h)) ≤ szL 1 h * (w.toNat + 2) := by
  have h1 := szL_map_range (n := (lay w h).length) (f := pageLine w full (lay w h)) (g := fun i => szL 1 ((lay w h).getD i []) + (w.toNat + 1)) (fun i hi => by have := pageLine_le (lay_ok w h) hw full hi; omega)
  rw [sum_getD, lay_flat] at h1
  have h2 := lay_len w h
  have h3 := len_szL h
  have h4 : (lay w h).length * (w.toNat + 1) ≤ szL 1 h * (w.toNat + 1) := Nat.mul_le_mul_right _ (by omega)
  unfold plines
  have h5 : szL 1 h * (w.toNat + 2) = szL 1 h * (w.toNat + 1) + szL 1 h := by rw [show w.toNat + 2 = (w.toNat + 1) + 1 by omega, Nat.mul_add, Nat.mul_one]
  omega
theorem page_sz {w : Int} (hw : 0 ≤ w) (full : Int) : ∀ (hs : List (List Str)) (page : List Str), szL 1 (hs.foldl (pageStep w full) page) ≤ szL 1 page + lenLL hs * (w.toNat + 2)
  | [], page => by simp
  | h :: hs, page => by
    rw [List.foldl_cons]
    have ih := page_sz hw full hs (pageStep w full page h)
    have h1 := plines_sz hw full h
    have h2 : szL 1 (pageStep w full page h) ≤ szL 1 page + 1 + szL 1 (plines w full (lay w h)) := by
      rw [pageStep_eq, szL_app]
      unfold parted
      split
      · omega
      · rw [szL_app, szL_one, nilS_length]; omega
    have h3 : lenLL (h :: hs) = szL 1 h + 1 + lenLL hs := by unfold lenLL; simp
    rw [h3, Nat.add_mul, Nat.add_mul]
    omega
theorem lenLL_para (ts : List Str) : lenLL ((paraF ts).map wds) ≤ 2 * (szL 1 ts + 1) := by
  refine Nat.le_trans ?_ (Nat.mul_le_mul_left 2 (paraF_sz ts))
  generalize paraF ts = ps
  induction ps with
  | nil => exact Nat.le_refl _
  | cons x r ih =>
    have h2 : szL 1 (x :: r) = x.length + 1 + szL 1 r := by unfold szL; simp
    have h3 : lenLL ((x :: r).map wds) = szL 1 (wds x) + 1 + lenLL (r.map wds) := by unfold lenLL; simp
    have h4 := words_sz x
    have h5 : szL 1 (wds x) ≤ x.length + 1 := h4
    rw [h3, h2]
    omega
theorem pageF_sz {w : Int} (hw : 0 ≤ w) (hw' : w ≤ 26) (full : Int) {ts : List Str} (h : szL 1 ts ≤ 545) : szL 1 (pageF w full ((paraF ts).map wds)) ≤ 40000 := by
  have h1 := page_sz hw full ((paraF ts).map wds) []
  have h2 := lenLL_para ts
  have h3 : lenLL ((paraF ts).map wds) * (w.toNat + 2) ≤ 1092 * 28 := Nat.mul_le_mul (by omega) (by omega)
  rw [szL_nil] at h1
  unfold pageF
  omega
theorem szL_map_le {φ : Str → Str} {c : Nat} (h : ∀ t, (φ t).length ≤ t.length + c) (ts : List Str) : szL 1 (ts.map φ) ≤ szL 1 ts + ts.length * c := by
  induction ts with
  | nil => simp [szL]
  | cons x r ih =>
    have h1 := h x
    unfold szL at ih ⊢
    simp only [List.map_cons, List.sum_cons, List.length_cons, Nat.add_mul, Nat.one_mul]
    omega
theorem sq_len (t : Str) : (sq t).length ≤ t.length + 1 := Nat.le_trans (jn_length' _) (words_sz t)
theorem firstF_sz {w : Int} (hw : 0 ≤ w) (hw' : w ≤ 26) (op : Int) {ts : List Str} (h : szL 1 ts ≤ 545) : szL 1 (firstF ts op w) ≤ 40000 := by
  have hl := len_szL ts
  unfold firstF
  split
  · rw [setF_eq]; exact pageF_sz hw hw' op h
  · split
    · refine Nat.le_trans (szL_map_le (c := 27) (fun t => ?_) ts) ?_
      · have h1 := rstrip_length (Txt.center (Txt.strip t) w)
        have h2 := center_length (x := Txt.strip t) hw
        have h3 := strip_length t
        omega
      · omega
    · refine Nat.le_trans (szL_map_le (c := 1) sq_len ts) ?_
      omega

/-! text WK -/

structure Fns (G : Glo) : Prop where
  squeezed : Fn G 2 "squeezed" P_squeezed
  wrapped : Fn G 2 "wrapped" P_wrapped
  justified : Fn G 2 "justified" P_justified
  paragraphs : Fn G 1 "paragraphs" P_paragraphs
  jlines : Fn G 3 "justified_lines" P_jlines
  heap : Fn G 1 "_law_heap" P_heap
  text : Fn G 1 "_law_text" P_text
  found : Fn G 1 "_law_found" P_found
  fill : Fn G 1 "_law_fill" P_fill
  spread : Fn G 1 "_law_spread" P_spread
  page : Fn G 2 "_law_page" P_page
  set : Fn G 4 "_law_set" P_set
  first : Fn G 5 "_law_first" P_first
  due : Fn G 3 "_law_first_due" P_due
  len : Bi G "len" (.builtin "len")
  range : Bi G "range" (.type "range")

local macro_rules | `(tactic| wtm_at "m.p") => `(tactic| first
  | (with_reducible show P_first _ _; unfold P_first; refine' ⟨_, _, _, rfl, rfl, ?_⟩)
  | (with_reducible show P_due _ _; unfold P_due; refine' ⟨_, _, _, _, rfl, rfl, ?_⟩))

noncomputable abbrev Cx (G : Glo) (A : Around) (s₀ : Shared) (X₀ : Addr → Prop) (L ad : Addr) (code : Value) : Ctx := ⟨G, A, s₀, X₀, fenv (scopeOf (stmtAt 20)) (nameOf (stmtAt 20)) L ad code⟩
section
variable {G : Glo} {A : Around} {env : Env} {Γ : AEnv}
theorem PE.cbool {b : Bool} {k : Nat} {pos : Pos} : PE G A env Γ (.Constant (.bool b) k pos) (.bool b) := ⟨fun _ s _ _ => wpAny_Constant_bool ⟨Kp.refl s, .bool b⟩⟩
end
local macro_rules | `(tactic| wtm_at "m.s") => `(tactic| ((with_reducible show PE _ _ _ _ (Expr.Constant (Const.bool _) _ _) _); exact PE.cbool))
section
variable {C : Ctx} {Γ Γ' : AEnv} {Post : AFlow → Prop}
theorem SX.skip {test : Expr} {body : List Stmt} {pos : Pos} {b : Bool} (ht : PB C.G C.A C.env (thaw Γ) test b) (hb : b = false) (h : Post (.next Γ)) : SX C Γ (.If test body [] pos) Post :=
  SX.ifs ht (fun e => by rw [hb] at e; cases e) (fun _ => SW.nil h)
end
theorem ne_false {α : Type} [DecidableEq α] {x y : α} (h : x = y) : (!decide (x = y)) = false := by simp [h]

/-- what stands when the texts are made -/
structure Facts (ts : List Str) (a b cut op : Int) : Prop where
  sz : szL 1 ts ≤ 545
  own : lenLL (ts.map wds) ≤ 125
  len : ts.length ≤ 5
  a0 : 1 ≤ a
  a1 : a ≤ 12
  b0 : 1 ≤ b
  b1 : b ≤ 14
  c0 : 0 ≤ cut
  c1 : cut ≤ 5

noncomputable abbrev linesOf (w : Int) (t : Str) : List Str := (lay w (wds t)).map jn
theorem linesOf_wds (w : Int) (t : Str) : ((linesOf w t).map wds).flatten = wds t := by
  rw [List.map_map]
  have : (lay w (wds t)).map (wds ∘ jn) = lay w (wds t) := by
    conv => rhs; rw [← List.map_id (lay w (wds t))]
    exact List.map_congr_left fun l hl => words_jn fun x hx => words_word t x (lay_mem hl x hx)
  rw [this, lay_flat]
theorem wds_pieces (w : Int) : ∀ (ts : List Str), wds (jn (ts.map (linesOf w)).flatten) = (ts.map wds).flatten := by
  intro ts
  rw [wds_jn]
  induction ts with
  | nil => rfl
  | cons t ts ih => rw [List.map_cons, List.flatten_cons, List.map_append, List.flatten_append, ih, linesOf_wds, List.map_cons, List.flatten_cons]
theorem linesOf_sz (w : Int) (t : Str) : szL 1 (linesOf w t) ≤ szL 1 (wds t) := by
  have := szL_jn (lay w (wds t)) fun l hl => (lay_ok w _ l hl).1
  rw [lay_flat] at this; exact this
theorem pieces_sz (w : Int) (ts : List Str) : szL 1 (ts.map (linesOf w)).flatten ≤ lenLL (ts.map wds) := by
  induction ts with
  | nil => exact Nat.le_refl _
  | cons t ts ih =>
    have h3 : lenLL ((t :: ts).map wds) = szL 1 (wds t) + 1 + lenLL (ts.map wds) := by unfold lenLL; simp
    rw [List.map_cons, List.flatten_cons, szL_app, h3]
    have := linesOf_sz w t
    omega

section
variable {G : Glo} {A : Around} {s₀ : Shared} {X₀ : Addr → Prop} {L ad : Addr} {code : Value} {ts : List Str} {a b cut op : Int}

theorem seg4 (FN : Fns G) (F : Facts ts a b cut op) (hA : AOk 5 A) :
    SW (Cx G A s₀ X₀ L ad code) [("own", .sh (sLL (ts.map wds))), ("texts", .sh (sL ts)), ("same", .sh (sL ts)), ("a", .sh (.int a)), ("b", .sh (.int b))] ((bodyOf (stmtAt 20)).drop 35) (Rets (.bool true)) := by
  obtain ⟨n1, n2, n3, n4, n5, n6, n7, n8, n9, n10, n11, n12, n13, n14, n15, n16⟩ := FN
  obtain ⟨f1, f2, f3, f4, f5, f6, f7, f8, f9⟩ := F
  have hsep : (Str.ofString " ").length = 1 := sepS_length
  have hl := len_szL ts
  unfold Cx
  (((conv => arg 3; whnf); (conv => arg 1; arg 5; arg 1; whnf)))
  refine SW.cons ?_
  refine' SX.assign (PE.cast (d' := sL []) (PE.list PEs.nil) rfl) ?dl ?k
  case dl => wtm_at "m.del"
  refine SW.cons ?_
  let GW : List Str → AEnv := fun st => [("pieces", .sh (sL st)), ("own", .sh (sLL (ts.map wds))), ("texts", .sh (sL ts)), ("same", .sh (sL ts)), ("a", .sh (.int a)), ("b", .sh (.int b))]
  refine' SX.for_ ?hit (fun i Γ => Γ = GW (((ts.take i).map (linesOf a)).flatten)) ?h0 ?turn ?done
  case hit =>
    refine' ItE.range1 hA n16 ?e ?_ ?_
    case e =>
      (repeat' wtm_at "m.s")
      rw [List.length_map]; (first | assumption | exact lin1 (by assumption) (by decide) | exact lin2 (by assumption) (by assumption) (by decide) | (unfold sizeLine; omega))
    · omega
    · rw [List.length_map]; omega
  case h0 => exact ⟨GW [], by (((repeat (first | exact sub_nil | refine' sub_cons (by (((try dsimp only [thaw, List.map, thaw1]); (repeat (first | with_reducible exact List.mem_cons_self | with_reducible refine' List.mem_cons_of_mem _ ?_)); done))) ?_)); done)), rfl⟩
  case turn =>
    rintro i d Γ' hd rfl
    obtain ⟨rfl, hi⟩ := rangeD0_get hd
    rw [List.length_map] at hi
    have hi : i < ts.length := by omega
    refine ⟨_, Tgt.name (by wtm_at "m.del"), ?_⟩
    have hnext : ((ts.take (i + 1)).map (linesOf a)).flatten = ((ts.take i).map (linesOf a)).flatten ++ linesOf a ts[i] := by
      rw [List.take_add_one, List.getElem?_eq_getElem hi, List.map_append, List.flatten_append]
      show _ ++ (linesOf a ts[i] ++ []) = _
      rw [List.append_nil]
    rw [hnext]
    have hps : szL 1 ((ts.take i).map (linesOf a)).flatten ≤ 125 := by
      refine Nat.le_trans (pieces_sz a _) (Nat.le_trans ?_ f2)
      rw [List.map_take]; exact lenLL_take _ _
    have hpl := len_szL ((ts.take i).map (linesOf a)).flatten
    generalize ((ts.take i).map (linesOf a)).flatten = pieces at hps hpl ⊢
    have hown : (ts.map wds).getD i [] = wds ts[i] := by rw [getD_get (by rw [List.length_map]; exact hi), List.getElem_map]
    have htx : ts.getD i nilS = ts[i] := getD_get hi
    have hmem : ts[i] ∈ ts := List.getElem_mem hi
    have hz1 := szL_mem (n := 1) hmem
    have hz2 : szL 1 (wds ts[i]) ≤ _ := words_sz ts[i]
    have hz3 := linesOf_sz a ts[i]
    have hz4 := len_szL (linesOf a ts[i])
    have hz5 := lay_len a (wds ts[i])
    have hz6 := len_szL (wds ts[i])
    generalize ts[i] = t at hnext hown htx hmem hz1 hz2 hz3 hz4 hz5 hz6 ⊢
    (((refine SW.cons ?_); (refine' SX.assign ?e_304 ?dl_304 ?k_304); (case' e_304 => (repeat' wtm_at "m.s")); (case' dl_304 => wtm_at "m.del")))
    · omega
    · rw [List.length_map]; omega
    · rw [List.length_map]; (first | assumption | exact lin1 (by assumption) (by decide) | exact lin2 (by assumption) (by assumption) (by decide) | (unfold sizeLine; omega))
    · rw [Int.toNat_natCast, hown]; omega
    rw [Int.toNat_natCast, hown, fillF_lay]
    (((refine SW.cons ?_); (refine' SX.assign ?e_306 ?dl_306 ?k_306); (case' e_306 => (repeat' wtm_at "m.s")); (case' dl_306 => wtm_at "m.del")))
    · omega
    · omega
    · (first | assumption | exact lin1 (by assumption) (by decide) | exact lin2 (by assumption) (by assumption) (by decide) | (unfold sizeLine; omega))
    · rw [Int.toNat_natCast, htx]; omega
    rw [Int.toNat_natCast, htx, wrapF_words]
    refine SW.cons ?_
    refine' SX.skip (PB.cmp1 (n := 5) hA ?e1 (PE.cast (PE.compM (xs := lay a (wds t)) sL (fun o => .str (jn o)) (fun _ => true) [] sL_inj (fun _ => trivial) (ItE.list hA.1 ?it3) ?sz3 Cap.nil (fun D l hl => PTs.nil) ?el3) ?qq) CmpOk.neL) (ne_false rfl) ?k3
    case e1 => (repeat' wtm_at "m.s")
    case it3 => (repeat' wtm_at "m.s")
    case sz3 => (first | assumption | exact lin1 (by assumption) (by decide) | exact lin2 (by assumption) (by assumption) (by decide) | (unfold sizeLine; omega))
    case el3 =>
      intro D o ho _
      have h1 := szL_flat_mem ho 1
      rw [lay_flat] at h1
      unfold jn
      (repeat' wtm_at "m.s")
      refine joinOk_of ?_
      rw [hsep]; (first | assumption | exact lin1 (by assumption) (by decide) | exact lin2 (by assumption) (by assumption) (by decide) | (unfold sizeLine; omega))
    case qq => rw [filter_true, List.map_map]; rfl
    (((refine SW.cons ?_); (refine' SX.assign ?e_313 ?dl_313 ?k_313); (case' e_313 => (repeat' wtm_at "m.s")); (case' dl_313 => wtm_at "m.del")))
    · rw [List.length_map, List.length_map]
      have : (List.map jn (lay a (Txt.words t))).length = (lay a (wds t)).length := List.length_map _
      (first | assumption | exact lin1 (by assumption) (by decide) | exact lin2 (by assumption) (by assumption) (by decide) | (unfold sizeLine; omega))
    refine SW.nil (LoopPost.nextI (Γ' := GW _) rfl ?_)
    dsimp only [GW]
    rw [sL, List.map_append]
    (((repeat (first | exact sub_nil | refine' sub_cons (by (((try dsimp only [thaw, List.map, thaw1]); (repeat (first | with_reducible exact List.mem_cons_self | with_reducible refine' List.mem_cons_of_mem _ ?_)); done))) ?_)); done))
  case done =>
    rintro Γ' rfl
    rw [rangeD_len, List.length_map, List.take_of_length_le (by omega)]
    have hps := pieces_sz a ts
    have hwp := wds_pieces a ts
    generalize (ts.map (linesOf a)).flatten = pieces at hps hwp ⊢
    dsimp only [GW]
    have hfl := lenLL_flat (ts.map wds)
    have hfll := len_szL (ts.map wds).flatten
    refine SW.cons ?_
    refine' SX.assign (PE.call (hA.le (by decide)) n9 (PEs.cons (PE.cast (d' := sL (ts.map wds).flatten) (PE.flat (L := (ts.map wds).map (·.map .str)) hA (ItE.list hA.1 ?g1) rfl ?g3 ?g4 ?g5) ?g6) (PEs.cons ?g7 PEs.nil)) ⟨_, _, rfl, rfl, ?g8⟩) ?dl9 ?k9
    case g1 =>
      refine' PE.cast ?g11 ?g12
      case g11 => (repeat' wtm_at "m.s")
      case g12 => rw [List.map_map]; rfl
    case g3 =>
      intro es hes d hd
      obtain ⟨o, _, rfl⟩ := List.mem_map.mp hes
      obtain ⟨y, _, rfl⟩ := List.mem_map.mp hd
      trivial
    case g4 => rw [← List.map_flatten, List.length_map]; (first | assumption | exact lin1 (by assumption) (by decide) | exact lin2 (by assumption) (by assumption) (by decide) | (unfold sizeLine; omega))
    case g5 => exact ofS_ne (by decide)
    case g6 => rw [← List.map_flatten]
    case g7 => (repeat' wtm_at "m.s")
    case g8 => omega
    case dl9 => wtm_at "m.del"
    rw [fillF_lay]
    have hlo := lay_len b (ts.map wds).flatten
    refine SW.cons ?_
    refine' SX.assignCompM (xs := lay b (ts.map wds).flatten) sL (fun o => .str (jn o)) (fun _ => true) [] sL_inj (fun _ => trivial) (ItE.list hA.1 ?it4) ?sz4 Cap.nil (fun D l hl => PTs.nil) ?el4 ?dl4 ?k4
    case it4 => (repeat' wtm_at "m.s")
    case sz4 => (first | assumption | exact lin1 (by assumption) (by decide) | exact lin2 (by assumption) (by assumption) (by decide) | (unfold sizeLine; omega))
    case el4 =>
      intro D o ho _
      have h1 := szL_flat_mem ho 1
      rw [lay_flat] at h1
      unfold jn
      (repeat' wtm_at "m.s")
      refine joinOk_of ?_
      rw [hsep]; (first | assumption | exact lin1 (by assumption) (by decide) | exact lin2 (by assumption) (by assumption) (by decide) | (unfold sizeLine; omega))
    case dl4 => wtm_at "m.del"
    rw [filter_true, show (lay b (ts.map wds).flatten).map (fun o => PyData.str (jn o)) = ((lay b (ts.map wds).flatten).map jn).map .str by rw [List.map_map]; rfl]
    have hjp := jn_length' pieces
    have hjt := jn_length' ts
    (((refine SW.cons ?_); (refine' SX.skip ?t_323 ?q_323 ?k_323); (case' t_323 => (repeat' wtm_at "m.s"))))
    · refine joinOk_of ?_
      rw [hsep]; (first | assumption | exact lin1 (by assumption) (by decide) | exact lin2 (by assumption) (by assumption) (by decide) | (unfold sizeLine; omega))
    · show (jn pieces).length ≤ _; omega
    · refine ne_false ?_
      show wrapF b (wds (jn pieces)) = _
      rw [wrapF_words, ← hwp]
    (((refine SW.cons ?_); (refine' SX.skip ?t_325 ?q_325 ?k_325); (case' t_325 => (repeat' wtm_at "m.s"))))
    · refine joinOk_of ?_
      rw [hsep]; (first | assumption | exact lin1 (by assumption) (by decide) | exact lin2 (by assumption) (by assumption) (by decide) | (unfold sizeLine; omega))
    · show (jn ts).length ≤ _; omega
    · refine ne_false ?_
      show wrapF b (wds (jn ts)) = _
      rw [wrapF_words, ← wds_jn]
    (((refine SW.cons ?_); (refine' SX.skip ?t_327 ?q_327 ?k_327); (case' t_327 => (repeat' wtm_at "m.s"))))
    · exact ne_false rfl
    (((refine SW.cons ?_); (refine' SX.ret ?e_328 (show _ = _ from ?k_328)); (case' e_328 => (repeat' wtm_at "m.s"))))
    rfl
end

/-! text WL -/
section
variable {G : Glo} {A : Around} {s₀ : Shared} {X₀ : Addr → Prop} {L ad : Addr} {code : Value} {ts : List Str} {a b cut op : Int}

theorem LineOk.wider {w w' : Int} {l : List Str} (h : LineOk w l) (hw : w ≤ w') : LineOk w' l := ⟨h.1, by rcases h.2 with h | h; exact .inl (by omega); exact .inr h⟩

theorem seg3 (FN : Fns G) (F : Facts ts a b cut op) (hA : AOk 5 A) :
    SW (Cx G A s₀ X₀ L ad code) [("found", .sh (.list ((foundF ts (ts.map wds)).map pairD))), ("own", .sh (sLL (ts.map wds))), ("texts", .sh (sL ts)), ("same", .sh (sL ts)), ("a", .sh (.int a)), ("b", .sh (.int b))] ((bodyOf (stmtAt 20)).drop 34) (Rets (.bool true)) := by
  have S4 := seg4 (s₀ := s₀) (X₀ := X₀) (L := L) (ad := ad) (code := code) FN F hA
  obtain ⟨n1, n2, n3, n4, n5, n6, n7, n8, n9, n10, n11, n12, n13, n14, n15, n16⟩ := FN
  obtain ⟨f1, f2, f3, f4, f5, f6, f7, f8, f9⟩ := F
  have hsep : (Str.ofString " ").length = 1 := sepS_length
  have hfz := foundF_sz ts (ts.map wds)
  have hfp := found_para ts
  unfold Cx
  (((conv => arg 3; whnf); (conv => arg 1; arg 5; arg 1; whnf)))
  refine SW.cons ?_
  let GW : AEnv := [("found", .sh (.list ((foundF ts (ts.map wds)).map pairD))), ("own", .sh (sLL (ts.map wds))), ("texts", .sh (sL ts)), ("same", .sh (sL ts)), ("a", .sh (.int a)), ("b", .sh (.int b))]
  refine' SX.for_ ?hit (fun i Γ => Γ = GW) ?h0 ?turn ?done
  case hit =>
    refine' ItE.list hA.1 ?_
    (repeat' wtm_at "m.s")
  case h0 => exact ⟨GW, by (((repeat (first | exact sub_nil | refine' sub_cons (by (((try dsimp only [thaw, List.map, thaw1]); (repeat (first | with_reducible exact List.mem_cons_self | with_reducible refine' List.mem_cons_of_mem _ ?_)); done))) ?_)); done)), rfl⟩
  case turn =>
    rintro i d Γ' hd rfl
    rw [List.getElem?_map] at hd
    obtain ⟨⟨r, heap⟩, hp, rfl⟩ := Option.map_eq_some_iff.mp hd
    have hmem := List.mem_of_getElem? hp
    have hz := hfz _ hmem
    rw [hfp] at hmem
    obtain ⟨r', hr', he⟩ := List.mem_map.mp hmem
    injection he with he1 he2
    subst he1
    subst he2
    dsimp only at hz
    refine ⟨_, Tgt.tup2 hA.1 (Tgt.name (by wtm_at "m.del")) (Tgt.name (by wtm_at "m.del")), ?_⟩
    (((refine SW.cons ?_); (refine' SX.assign ?e_332 ?dl_332 ?k_332); (case' e_332 => (repeat' wtm_at "m.s")); (case' dl_332 => wtm_at "m.del")))
    · show szL 1 (wds r') ≤ _; omega
    rw [fillF_lay]
    have hL := lay_lines b (words_word r')
    have hLl := lay_len b (wds r')
    have hLf := lay_flat b (wds r')
    have hll := len_szL (wds r')
    have hwr := wrapF_words b r'
    have hjl := jlF_lines hL
    have hsq := sq_plines hL 1
    have hpz := plines_sz (w := b) (by omega) 1 (wds r')
    have hpz2 : szL 1 (wds r') * (b.toNat + 2) ≤ 125 * 16 := Nat.mul_le_mul (by omega) (by omega)
    have hwl := wrap_line_words b r'
    have hws := wrap_sz b r'
    rw [hwr] at hwl hws
    generalize hLe : lay b (Txt.words r') = Ls at hL hLl hLf hwr hjl hsq hpz hwl hws ⊢
    have hLok : ∀ l ∈ Ls, szL 1 l ≤ 125 := fun l hl => by
      have := szL_flat_mem hl 1
      rw [hLf] at this; omega
    refine SW.cons ?_
    refine' SX.assignCompM (xs := Ls) sL (fun o => .str (jn o)) (fun _ => true) [] sL_inj (fun _ => trivial) (ItE.list hA.1 ?it4) ?sz4 Cap.nil (fun D l hl => PTs.nil) ?el4 ?dl4 ?k4
    case it4 => (repeat' wtm_at "m.s")
    case sz4 => (first | assumption | exact lin1 (by assumption) (by decide) | exact lin2 (by assumption) (by assumption) (by decide) | (unfold sizeLine; omega))
    case el4 =>
      intro D o ho _
      have h1 := hLok o ho
      unfold jn
      (repeat' wtm_at "m.s")
      refine joinOk_of ?_
      rw [hsep]; (first | assumption | exact lin1 (by assumption) (by decide) | exact lin2 (by assumption) (by assumption) (by decide) | (unfold sizeLine; omega))
    case dl4 => wtm_at "m.del"
    rw [filter_true, show Ls.map (fun o => PyData.str (jn o)) = (Ls.map jn).map .str by rw [List.map_map]; rfl]
    (((refine SW.cons ?_); (refine' SX.assign ?e_337 ?dl_337 ?k_337); (case' e_337 => (repeat' wtm_at "m.s")); (case' dl_337 => wtm_at "m.del")))
    · show r'.length ≤ _; omega
    rw [hwr]
    refine SW.cons ?_
    refine' SX.skip (PB.cmp1 (n := 5) hA (PE.cast (d' := sL (Ls.map jn)) (PE.compM (xs := plines b 1 Ls) PyData.str (fun o => .str (sq o)) (fun _ => true) [] str_inj (fun _ => trivial) (ItE.list hA.1 (PE.cast ?it5 ?q5)) ?sz5 Cap.nil (fun D l hl => PTs.nil) ?el5) ?qq5) ?e5 CmpOk.neL) (ne_false rfl) ?k5
    case it5 =>
      (repeat' wtm_at "m.s")
      exact ⟨by omega, by omega, by omega, hwl⟩
    case q5 => rw [hjl]
    case sz5 => exact Nat.le_trans (len_szL _) (by (first | assumption | exact lin1 (by assumption) (by decide) | exact lin2 (by assumption) (by assumption) (by decide) | (unfold sizeLine; omega)))
    case el5 =>
      intro D o ho _
      have h1 := szL_mem (n := 1) ho
      (repeat' wtm_at "m.s")
      omega
    case qq5 => rw [filter_true, ← hsq, sL, List.map_map]; rfl
    case e5 => (repeat' wtm_at "m.s")
    (((refine SW.cons ?_); (refine' SX.skip ?t_342 ?q_342 ?k_342); (case' t_342 => (repeat' wtm_at "m.s"))))
    · exact ne_false rfl
    refine SW.cons ?_
    let GX : AEnv := [("handed", .sh (sL (Ls.map jn))), ("filled", .sh (sLL Ls)), ("found", .sh (.list ((foundF ts (ts.map wds)).map pairD))), ("own", .sh (sLL (ts.map wds))), ("texts", .sh (sL ts)), ("same", .sh (sL ts)), ("a", .sh (.int a)), ("b", .sh (.int b))]
    refine' SX.for_ ?hit2 (fun i Γ => Γ = GX) ?h02 ?turn2 ?done2
    case hit2 =>
      refine' ItE.range1 hA n16 ?e ?_ ?_
      case e =>
        (repeat' wtm_at "m.s")
        rw [List.length_map]; (first | assumption | exact lin1 (by assumption) (by decide) | exact lin2 (by assumption) (by assumption) (by decide) | (unfold sizeLine; omega))
      · omega
      · rw [List.length_map]; omega
    case h02 => exact ⟨GX, by (((repeat (first | exact sub_nil | refine' sub_cons (by (((try dsimp only [thaw, List.map, thaw1]); (repeat (first | with_reducible exact List.mem_cons_self | with_reducible refine' List.mem_cons_of_mem _ ?_)); done))) ?_)); done)), rfl⟩
    case turn2 =>
      rintro k d Γ' hd rfl
      obtain ⟨rfl, hk⟩ := rangeD0_get hd
      rw [List.length_map] at hk
      have hk : k < Ls.length := by omega
      have hin : Ls[k] ∈ Ls := List.getElem_mem hk
      have hg1 : Ls.getD k [] = Ls[k] := getD_get hk
      have hg2 : (Ls.map jn).getD k nilS = jn Ls[k] := by rw [getD_get (by rw [List.length_map]; exact hk), List.getElem_map]
      obtain ⟨hk1, hk2⟩ := hL _ hin
      have hk3 := hLok _ hin
      have hk4 := jn_length' Ls[k]
      have hk5 := szL0 Ls[k]
      generalize Ls[k] = l at hg1 hg2 hk1 hk2 hk3 hk4 hk5
      have hwj : Txt.words (jn l) = l := words_jn hk2
      have hj1 := just_spread hk2 hk1
      have hj2 := spread_words hk2 hk1
      have hj3 := spread_le hk1 (by omega)
      have hk6 := hk1.wider (w' := a + b) (by omega)
      have hj4 := just_spread hk2 hk6
      have hj5 := spread_words hk2 hk6
      have hj6 := spread_le hk6 (by omega)
      refine ⟨_, Tgt.name (by wtm_at "m.del"), ?_⟩
      (((refine SW.cons ?_); (refine' SX.assign ?e_346 ?dl_346 ?k_346); (case' e_346 => (repeat' wtm_at "m.s")); (case' dl_346 => wtm_at "m.del")))
      · omega
      · rw [List.length_map]; omega
      · rw [List.length_map]; (first | assumption | exact lin1 (by assumption) (by decide) | exact lin2 (by assumption) (by assumption) (by decide) | (unfold sizeLine; omega))
      · rw [Int.toNat_natCast, hg2]; exact ⟨by omega, by omega, by omega, by rw [hwj]; exact hk1.1⟩
      rw [Int.toNat_natCast, hg2, hj1]
      (((refine SW.cons ?_); (refine' SX.skip ?t_348 ?q_348 ?k_348); (case' t_348 => (repeat' wtm_at "m.s"))))
      · omega
      · omega
      · (first | assumption | exact lin1 (by assumption) (by decide) | exact lin2 (by assumption) (by assumption) (by decide) | (unfold sizeLine; omega))
      · rw [Int.toNat_natCast, hg1]; exact ⟨by omega, by omega, by omega, hk1.1⟩
      · rw [Int.toNat_natCast, hg1]; exact ne_false rfl
      (((refine SW.cons ?_); (refine' SX.skip ?t_350 ?q_350 ?k_350); (case' t_350 => (repeat' wtm_at "m.s"))))
      · omega
      · omega
      · rw [List.length_map]; omega
      · rw [List.length_map]; (first | assumption | exact lin1 (by assumption) (by decide) | exact lin2 (by assumption) (by assumption) (by decide) | (unfold sizeLine; omega))
      · rw [Int.toNat_natCast, hg2, hj2]; exact ne_false rfl
      (((refine SW.cons ?_); (refine' SX.skip ?t_352 ?q_352 ?k_352); (case' t_352 => (repeat' wtm_at "m.s"))))
      · omega
      · rw [List.length_map]; omega
      · rw [List.length_map]; (first | assumption | exact lin1 (by assumption) (by decide) | exact lin2 (by assumption) (by assumption) (by decide) | (unfold sizeLine; omega))
      · rw [Int.toNat_natCast, hg2]; exact ⟨by omega, by omega, by omega, by rw [hwj]; exact hk1.1⟩
      · rw [Int.toNat_natCast, hg2, hj4]; omega
      · rw [Int.toNat_natCast, hg2, hj4, hj5]; exact ⟨by omega, by omega, by omega, by rw [hwj]; exact hk1.1⟩
      · rw [Int.toNat_natCast, hg2, hj4, hj5, hj1]; exact ne_false rfl
      exact SW.nil (LoopPost.nextI (Γ' := GX) rfl (by (((repeat (first | exact sub_nil | refine' sub_cons (by (((try dsimp only [thaw, List.map, thaw1]); (repeat (first | with_reducible exact List.mem_cons_self | with_reducible refine' List.mem_cons_of_mem _ ?_)); done))) ?_)); done))))
    case done2 =>
      rintro Γ' rfl
      exact SW.nil (LoopPost.nextI (Γ' := GW) rfl (by (((repeat (first | exact sub_nil | refine' sub_cons (by (((try dsimp only [thaw, List.map, thaw1]); (repeat (first | with_reducible exact List.mem_cons_self | with_reducible refine' List.mem_cons_of_mem _ ?_)); done))) ?_)); done))))
  case done =>
    rintro Γ' rfl
    exact SW.sub S4 (by (((repeat (first | exact sub_nil | refine' sub_cons (by (((try dsimp only [thaw, List.map, thaw1]); (repeat (first | with_reducible exact List.mem_cons_self | with_reducible refine' List.mem_cons_of_mem _ ?_)); done))) ?_)); done)))
end

/-! text WN -/
section
variable {G : Glo} {A : Around} {s₀ : Shared} {X₀ : Addr → Prop} {L ad : Addr} {code : Value} {ts : List Str} {a b cut op : Int}

theorem found_len5 (F : Facts ts a b cut op) : (foundF ts (ts.map wds)).length ≤ 5 := Nat.le_trans (foundF_len _ _) (by rw [List.length_map]; exact F.len)

theorem seg2 (FN : Fns G) (F : Facts ts a b cut op) (hA : AOk 5 A) :
    SW (Cx G A s₀ X₀ L ad code) [("found", .sh (.list ((foundF ts (ts.map wds)).map pairD))), ("own", .sh (sLL (ts.map wds))), ("texts", .sh (sL ts)), ("same", .sh (sL ts)), ("a", .sh (.int a)), ("b", .sh (.int b)), ("op", .sh (.int op))] ((bodyOf (stmtAt 20)).drop 21) (Rets (.bool true)) := by
  have S3 := seg3 (s₀ := s₀) (X₀ := X₀) (L := L) (ad := ad) (code := code) FN F hA
  have hf5 := found_len5 F
  obtain ⟨n1, n2, n3, n4, n5, n6, n7, n8, n9, n10, n11, n12, n13, n14, n15, n16⟩ := FN
  obtain ⟨f1, f2, f3, f4, f5, f6, f7, f8, f9⟩ := F
  have hfz := foundF_sz ts (ts.map wds)
  have hfh := found_heaps ts
  have hpz := fun full => pageF_sz (w := b) (by omega) (by omega) full f1
  have hst := fun full => setF_eq ts b full
  have hfd := first_due ts op (w := a) (by omega)
  have hfs := firstF_sz (w := a) (by omega) (by omega) op f1
  have hs1 := fun full => set_first ts op a b full
  have hs2 := fun full full' => set_page ts b b full full'
  have hsq := sq_page b 1 (heaps_para ts)
  have hpre : (∀ p ∈ foundF ts (ts.map wds), szL 1 p.2 ≤ 200) ∧ (foundF ts (ts.map wds)).length ≤ 1000 ∧ 0 ≤ b ∧ b ≤ 200 := ⟨fun p hp => Nat.le_trans (hfz p hp).1 (by omega), by omega, by omega, by omega⟩
  unfold Cx
  (((conv => arg 3; whnf); (conv => arg 1; arg 5; arg 1; whnf)))
  (((refine SW.cons ?_); (refine' SX.assign ?e_358 ?dl_358 ?k_358); (case' e_358 => (repeat' wtm_at "m.s")); (case' dl_358 => wtm_at "m.del")))
  · exact hpre
  (((refine SW.cons ?_); (refine' SX.assign ?e_359 ?dl_359 ?k_359); (case' e_359 => (repeat' wtm_at "m.s")); (case' dl_359 => wtm_at "m.del")))
  · exact hpre
  rw [hfh]
  (((refine SW.cons ?_); (refine' SX.skip ?t_360 ?q_360 ?k_360); (case' t_360 => (repeat' wtm_at "m.s"))))
  · exact ⟨by omega, by omega, by omega⟩
  · exact ne_false (hst 0)
  (((refine SW.cons ?_); (refine' SX.skip ?t_361 ?q_361 ?k_361); (case' t_361 => (repeat' wtm_at "m.s"))))
  · exact ⟨by omega, by omega, by omega⟩
  · exact ne_false (hst 1)
  (((refine SW.cons ?_); (refine' SX.assign ?e_362 ?dl_362 ?k_362); (case' e_362 => (repeat' wtm_at "m.s")); (case' dl_362 => wtm_at "m.del")))
  · exact ⟨by omega, by omega, by omega⟩
  (((refine SW.cons ?_); (refine' SX.assign ?e_363 ?dl_363 ?k_363); (case' e_363 => (repeat' wtm_at "m.s")); (case' dl_363 => wtm_at "m.del")))
  · exact ⟨by omega, by omega, by rw [List.length_map], by omega, by omega⟩
  (((refine SW.cons ?_); (refine' SX.skip ?t_364 ?q_364 ?k_364); (case' t_364 => (repeat' wtm_at "m.s"))))
  · exact ne_false hfd
  (((refine SW.cons ?_); (refine' SX.skip ?t_365 ?q_365 ?k_365); (case' t_365 => (repeat' wtm_at "m.s"))))
  · exact ⟨by omega, by omega, by omega⟩
  · exact ne_false (hs1 0)
  (((refine SW.cons ?_); (refine' SX.skip ?t_366 ?q_366 ?k_366); (case' t_366 => (repeat' wtm_at "m.s"))))
  · exact ⟨by omega, by omega, by omega⟩
  · exact ne_false (hs1 1)
  (((refine SW.cons ?_); (refine' SX.skip ?t_367 ?q_367 ?k_367); (case' t_367 => (repeat' wtm_at "m.s"))))
  · exact ne_false hfd
  (((refine SW.cons ?_); (refine' SX.skip ?t_368 ?q_368 ?k_368); (case' t_368 => (repeat' wtm_at "m.s"))))
  · exact ⟨Nat.le_trans (hpz 1) (by decide), by omega, by omega⟩
  · exact ne_false (hs2 1 0)
  (((refine SW.cons ?_); (refine' SX.skip ?t_369 ?q_369 ?k_369); (case' t_369 => (repeat' wtm_at "m.s"))))
  · exact ⟨Nat.le_trans (hpz 1) (by decide), by omega, by omega⟩
  · exact ne_false (hs2 1 1)
  refine SW.cons ?_
  refine' SX.skip (PB.cmp1 (n := 5) hA (PE.cast (d' := sL (pageF b 0 ((paraF ts).map wds))) (PE.compM (xs := pageF b 1 ((paraF ts).map wds)) PyData.str (fun o => .str (sq o)) (fun _ => true) [] str_inj (fun _ => trivial) (ItE.list hA.1 ?it5) ?sz5 Cap.nil (fun D l hl => PTs.nil) ?el5) ?qq5) ?e5 CmpOk.neL) (ne_false rfl) ?k5
  case it5 => (repeat' wtm_at "m.s")
  case sz5 => exact Nat.le_trans (len_szL _) (Nat.le_trans (hpz 1) (by decide))
  case el5 =>
    intro D o ho _
    have h1 := szL_mem (n := 1) ho
    have h2 := hpz 1
    (repeat' wtm_at "m.s")
    omega
  case qq5 => rw [filter_true, ← hsq, sL, List.map_map]; rfl
  case e5 => (repeat' wtm_at "m.s")
  exact SW.sub S3 (by (((repeat (first | exact sub_nil | refine' sub_cons (by (((try dsimp only [thaw, List.map, thaw1]); (repeat (first | with_reducible exact List.mem_cons_self | with_reducible refine' List.mem_cons_of_mem _ ?_)); done))) ?_)); done)))
end

/-! text WO -/
section
variable {G : Glo} {A : Around} {s₀ : Shared} {X₀ : Addr → Prop} {L ad : Addr} {code : Value} {ts : List Str} {a b cut op : Int}

theorem pairD_inj (p q : Str × List Str) (h : pairD p = pairD q) : p = q := by
  obtain ⟨x, y⟩ := p
  obtain ⟨x', y'⟩ := q
  have h1 : [PyData.str x, sL y] = [PyData.str x', sL y'] := by injection h
  have h2 : PyData.str x = .str x' ∧ sL y = sL y' := by simpa using h1
  rw [str_inj _ _ h2.1, sL_inj _ _ h2.2]
theorem pairs_raws (ts : List Str) : ((foundF ts (ts.map wds)).filter (fun _ => true)).map (fun p => PyData.str p.1) = (paraF ts).map .str := by
  rw [filter_true, ← found_raws ts, List.map_map]; rfl
noncomputable abbrev Cnd (ts : List Str) (c : Nat) : Prop := 0 < c ∧ c < ts.length ∧ (ts.map wds).getD (c - 1) [] ≠ [] ∧ (ts.map wds).getD c [] ≠ []
theorem para_cnt (ts : List Str) (c : Nat) : (paraF (ts.take c)).length + (paraF (ts.drop c)).length = (paraF ts).length + if Cnd ts c then 1 else 0 := by
  exact para_count ts c

theorem seg1 (FN : Fns G) (F : Facts ts a b cut op) (hA : AOk 5 A) :
    SW (Cx G A s₀ X₀ L ad code) [("own", .sh (sLL (ts.map wds))), ("texts", .sh (sL ts)), ("same", .sh (sL ts)), ("a", .sh (.int a)), ("b", .sh (.int b)), ("cut", .sh (.int cut)), ("op", .sh (.int op))] ((bodyOf (stmtAt 20)).drop 11) (Rets (.bool true)) := by
  have S2 := seg2 (s₀ := s₀) (X₀ := X₀) (L := L) (ad := ad) (code := code) FN F hA
  have hf5 := found_len5 F
  obtain ⟨n1, n2, n3, n4, n5, n6, n7, n8, n9, n10, n11, n12, n13, n14, n15, n16⟩ := FN
  obtain ⟨f1, f2, f3, f4, f5, f6, f7, f8, f9⟩ := F
  have hl := len_szL ts
  have hps := paraF_sz ts
  have hpl := len_szL (paraF ts)
  have x1 : cutL ts none (some cut) = ts.take cut.toNat := cutL_to _ f8
  have x2 : cutL (ts.map wds) none (some cut) = (ts.take cut.toNat).map wds := by rw [cutL_to _ f8, List.map_take]
  have y1 : cutL ts (some cut) none = ts.drop cut.toNat := cutL_from _ f8
  have y2 : cutL (ts.map wds) (some cut) none = (ts.drop cut.toNat).map wds := by rw [cutL_from _ f8, List.map_drop]
  have zx := szL_take 1 ts cut.toNat
  have zy := szL_drop 1 ts cut.toNat
  have ox : lenLL ((ts.take cut.toNat).map wds) ≤ 125 := by rw [List.map_take]; exact Nat.le_trans (lenLL_take _ _) f2
  have oy : lenLL ((ts.drop cut.toNat).map wds) ≤ 125 := by rw [List.map_drop]; exact Nat.le_trans (lenLL_drop _ _) f2
  have hcut := para_cut (ts.take cut.toNat) (ts.drop cut.toNat)
  have hcnt := para_cnt ts cut.toNat
  have hpx := paraF_sz (ts.take cut.toNat)
  have hpy := paraF_sz (ts.drop cut.toNat)
  have hlx := len_szL (paraF (ts.take cut.toNat))
  have hly := len_szL (paraF (ts.drop cut.toNat))
  have lx := len_szL (ts.take cut.toNat)
  have ly := len_szL (ts.drop cut.toNat)
  have fx := foundF_len (ts.take cut.toNat) ((ts.take cut.toNat).map wds)
  have fy := foundF_len (ts.drop cut.toNat) ((ts.drop cut.toNat).map wds)
  rw [List.length_map] at fx fy
  unfold Cx
  (((conv => arg 3; whnf); (conv => arg 1; arg 5; arg 1; whnf)))
  (((refine SW.cons ?_); (refine' SX.assign ?e_375 ?dl_375 ?k_375); (case' e_375 => (repeat' wtm_at "m.s")); (case' dl_375 => wtm_at "m.del")))
  · exact ⟨by omega, by omega, by rw [List.length_map]⟩
  refine SW.cons ?_
  refine' SX.assignCompM (xs := foundF ts (ts.map wds)) pairD (fun p => .str p.1) (fun _ => true) [] pairD_inj (fun _ => trivial) (ItE.list hA.1 ?it4) ?sz4 Cap.nil (fun D l hl => PTs.nil) ?el4 ?dl4 ?k4
  case it4 => (repeat' wtm_at "m.s")
  case sz4 => (first | assumption | exact lin1 (by assumption) (by decide) | exact lin2 (by assumption) (by assumption) (by decide) | (unfold sizeLine; omega))
  case el4 =>
    intro D p hp _
    exact PE.itemT (PE.name (by (((try dsimp only [thaw, List.map, thaw1]); (repeat (first | with_reducible exact List.mem_cons_self | with_reducible refine' List.mem_cons_of_mem _ ?_)); done)))) PE.cint (by decide) (by decide) rfl
  case dl4 => wtm_at "m.del"
  rw [pairs_raws]
  (((refine SW.cons ?_); (refine' SX.skip ?t_379 ?q_379 ?k_379); (case' t_379 => (repeat' wtm_at "m.s"))))
  · omega
  · exact ne_false rfl
  refine SW.cons ?_
  refine' SX.assign (PE.cast (d' := .list ((foundF (ts.take cut.toNat) ((ts.take cut.toNat).map wds) ++ foundF (ts.drop cut.toNat) ((ts.drop cut.toNat).map wds)).map pairD)) (PE.bin ?u1 ?u2 (BinOk.addL ?u3)) ?u4) ?dl5 ?k5
  case u1 =>
    (repeat' wtm_at "m.s")
    · (first | assumption | exact lin1 (by assumption) (by decide) | exact lin2 (by assumption) (by assumption) (by decide) | (unfold sizeLine; omega))
    · rw [List.length_map]; (first | assumption | exact lin1 (by assumption) (by decide) | exact lin2 (by assumption) (by assumption) (by decide) | (unfold sizeLine; omega))
    · rw [x1, x2]; exact ⟨by omega, by omega, by rw [List.length_map]⟩
  case u2 =>
    (repeat' wtm_at "m.s")
    · (first | assumption | exact lin1 (by assumption) (by decide) | exact lin2 (by assumption) (by assumption) (by decide) | (unfold sizeLine; omega))
    · rw [List.length_map]; (first | assumption | exact lin1 (by assumption) (by decide) | exact lin2 (by assumption) (by assumption) (by decide) | (unfold sizeLine; omega))
    · rw [y1, y2]; exact ⟨by omega, by omega, by rw [List.length_map]⟩
  case u3 => rw [x1, x2, y1, y2, List.length_map, List.length_map]; (first | assumption | exact lin1 (by assumption) (by decide) | exact lin2 (by assumption) (by assumption) (by decide) | (unfold sizeLine; omega))
  case u4 => rw [x1, x2, y1, y2, List.map_append]
  case dl5 => wtm_at "m.del"
  refine SW.cons ?_
  refine' SX.assign (PE.cast (d' := sL (paraF (ts.take cut.toNat) ++ paraF (ts.drop cut.toNat))) (PE.bin ?v1 ?v2 (BinOk.addL ?v3)) ?v4) ?dl6 ?k6
  case v1 =>
    (repeat' wtm_at "m.s")
    · (first | assumption | exact lin1 (by assumption) (by decide) | exact lin2 (by assumption) (by assumption) (by decide) | (unfold sizeLine; omega))
    · rw [x1]; omega
  case v2 =>
    (repeat' wtm_at "m.s")
    · (first | assumption | exact lin1 (by assumption) (by decide) | exact lin2 (by assumption) (by assumption) (by decide) | (unfold sizeLine; omega))
    · rw [y1]; omega
  case v3 => rw [x1, y1, List.length_map, List.length_map]; (first | assumption | exact lin1 (by assumption) (by decide) | exact lin2 (by assumption) (by assumption) (by decide) | (unfold sizeLine; omega))
  case v4 => rw [x1, y1, sL, List.map_append]
  case dl6 => wtm_at "m.del"
  refine SW.cons ?_
  refine' SX.skip (PB.cmp1 (n := 5) hA ?e7 (PE.cast (d' := sL (paraF (ts.take cut.toNat) ++ paraF (ts.drop cut.toNat))) (PE.compM (xs := foundF (ts.take cut.toNat) ((ts.take cut.toNat).map wds) ++ foundF (ts.drop cut.toNat) ((ts.drop cut.toNat).map wds)) pairD (fun p => .str p.1) (fun _ => true) [] pairD_inj (fun _ => trivial) (ItE.list hA.1 ?it7) ?sz7 Cap.nil (fun D l hl => PTs.nil) ?el7) ?qq7) CmpOk.neL) (ne_false rfl) ?k7
  case e7 => (repeat' wtm_at "m.s")
  case it7 => (repeat' wtm_at "m.s")
  case sz7 => rw [List.length_append]; (first | assumption | exact lin1 (by assumption) (by decide) | exact lin2 (by assumption) (by assumption) (by decide) | (unfold sizeLine; omega))
  case el7 =>
    intro D p hp _
    exact PE.itemT (PE.name (by (((try dsimp only [thaw, List.map, thaw1]); (repeat (first | with_reducible exact List.mem_cons_self | with_reducible refine' List.mem_cons_of_mem _ ?_)); done)))) PE.cint (by decide) (by decide) rfl
  case qq7 => rw [List.filter_append, List.map_append, pairs_raws, pairs_raws, sL, List.map_append]
  refine SW.cons ?_
  refine' SX.skip (PB.cmp1 (n := 5) hA (PE.call (hA.le (by decide)) n4 (PEs.cons (PE.cast (d' := sL (ts.take cut.toNat ++ [sepS] ++ ts.drop cut.toNat)) (PE.bin (PE.bin ?w1 (PE.list (PEs.cons PE.cstr PEs.nil)) (BinOk.addL ?w2)) ?w3 (BinOk.addL ?w4)) ?w5) PEs.nil) ⟨_, rfl, rfl, ?w6⟩) ?w7 CmpOk.neL) (ne_false hcut) ?k8
  case w1 =>
    (repeat' wtm_at "m.s")
    (first | assumption | exact lin1 (by assumption) (by decide) | exact lin2 (by assumption) (by assumption) (by decide) | (unfold sizeLine; omega))
  case w2 => rw [x1, List.length_map]; show _ + 1 ≤ _; (first | assumption | exact lin1 (by assumption) (by decide) | exact lin2 (by assumption) (by assumption) (by decide) | (unfold sizeLine; omega))
  case w3 =>
    (repeat' wtm_at "m.s")
    (first | assumption | exact lin1 (by assumption) (by decide) | exact lin2 (by assumption) (by assumption) (by decide) | (unfold sizeLine; omega))
  case w4 => rw [x1, y1, List.length_append, List.length_map, List.length_map]; show _ + 1 + _ ≤ _; (first | assumption | exact lin1 (by assumption) (by decide) | exact lin2 (by assumption) (by assumption) (by decide) | (unfold sizeLine; omega))
  case w5 => rw [x1, y1, sL, List.map_append, List.map_append]; rfl
  case w6 => rw [szL_app, szL_app, szL_one, sepS_length]; omega
  case w7 => (repeat' wtm_at "m.s")
  (((refine SW.cons ?_); (refine' SX.assign ?e_403 ?dl_403 ?k_403); (case' e_403 => (repeat' wtm_at "m.s")); (case' dl_403 => wtm_at "m.del")))
  · rw [List.length_map]; (first | assumption | exact lin1 (by assumption) (by decide) | exact lin2 (by assumption) (by assumption) (by decide) | (unfold sizeLine; omega))
  rw [List.length_map]
  refine SW.cons ?_
  refine' SX.ifsJ [("want", .sh (.int ((paraF ts).length + (if Cnd ts cut.toNat then 1 else 0 : Nat) : Nat))), ("parts", .sh (sL (paraF (ts.take cut.toNat) ++ paraF (ts.drop cut.toNat)))), ("found", .sh (.list ((foundF ts (ts.map wds)).map pairD))), ("own", .sh (sLL (ts.map wds))), ("texts", .sh (sL ts)), ("same", .sh (sL ts)), ("a", .sh (.int a)), ("b", .sh (.int b)), ("op", .sh (.int op))]
    (PB.bools (PBs.and (PB.chain2 (n := 5) hA ?c1 ?c2 CmpOk.ltI ?c3 CmpOk.ltI) ?c4)) ?a9 ?b9 ?r9
  case c1 => (repeat' wtm_at "m.s")
  case c2 => (repeat' wtm_at "m.s")
  case c3 =>
    (repeat' wtm_at "m.s")
    rw [List.length_map]; (first | assumption | exact lin1 (by assumption) (by decide) | exact lin2 (by assumption) (by assumption) (by decide) | (unfold sizeLine; omega))
  case c4 =>
    intro h
    simp only [List.length_map, Bool.and_eq_true, decide_eq_true_eq] at h
    refine' PBs.and ?d1 ?d2
    case d1 =>
      (repeat' wtm_at "m.s")
      · omega
      · rw [List.length_map]; omega
      · rw [List.length_map]; (first | assumption | exact lin1 (by assumption) (by decide) | exact lin2 (by assumption) (by assumption) (by decide) | (unfold sizeLine; omega))
    case d2 =>
      intro _
      refine' PBs.and ?d3 (fun _ => PBs.andNil)
      (repeat' wtm_at "m.s")
      · omega
      · rw [List.length_map]; omega
      · rw [List.length_map]; (first | assumption | exact lin1 (by assumption) (by decide) | exact lin2 (by assumption) (by assumption) (by decide) | (unfold sizeLine; omega))
  case a9 =>
    intro hb
    rw [show (cut - 1).toNat = cut.toNat - 1 by omega] at hb
    simp only [List.length_map, List.isEmpty_map, Bool.and_true, Bool.and_eq_true, decide_eq_true_eq, Bool.not_eq_true', List.isEmpty_eq_false_iff] at hb
    have hc : Cnd ts cut.toNat := ⟨by omega, by omega, hb.2.1, hb.2.2⟩
    (((refine SW.cons ?_); (refine' SX.assign ?e_413 ?dl_413 ?k_413); (case' e_413 => (repeat' wtm_at "m.s")); (case' dl_413 => wtm_at "m.del")))
    refine SW.nil (joinsI ?_)
    rw [if_pos hc, Int.natCast_add, show ((1 : Nat) : Int) = 1 from rfl]
    (((repeat (first | exact sub_nil | refine' sub_cons (by (((try dsimp only [thaw, List.map, thaw1]); (repeat (first | with_reducible exact List.mem_cons_self | with_reducible refine' List.mem_cons_of_mem _ ?_)); done))) ?_)); done))
  case b9 =>
    intro hb
    rw [show (cut - 1).toNat = cut.toNat - 1 by omega] at hb
    have hc : ¬ Cnd ts cut.toNat := by
      rintro ⟨h1, h2, h3, h4⟩
      simp only [List.length_map, List.isEmpty_map, List.isEmpty_eq_false_iff.mpr h3, List.isEmpty_eq_false_iff.mpr h4, show (0 : Int) < cut by omega, show cut < (ts.length : Int) by omega] at hb
      simp at hb
    refine SW.nil (joinsI ?_)
    rw [if_neg hc, Nat.add_zero]
    (((repeat (first | exact sub_nil | refine' sub_cons (by (((try dsimp only [thaw, List.map, thaw1]); (repeat (first | with_reducible exact List.mem_cons_self | with_reducible refine' List.mem_cons_of_mem _ ?_)); done))) ?_)); done))
  (((refine SW.cons ?_); (refine' SX.skip ?t_416 ?q_416 ?k_416); (case' t_416 => (repeat' wtm_at "m.s"))))
  · rw [List.length_map, List.length_append]; (first | assumption | exact lin1 (by assumption) (by decide) | exact lin2 (by assumption) (by assumption) (by decide) | (unfold sizeLine; omega))
  · refine ne_false ?_
    rw [List.length_map, List.length_append, hcnt]
  exact SW.sub S2 (by (((repeat (first | exact sub_nil | refine' sub_cons (by (((try dsimp only [thaw, List.map, thaw1]); (repeat (first | with_reducible exact List.mem_cons_self | with_reducible refine' List.mem_cons_of_mem _ ?_)); done))) ?_)); done)))
end

/-! text WP -/
section
variable {G : Glo} {A : Around} {env : Env} {Γ : AEnv}
theorem PE.itemI {value slice : Expr} {pos : Pos} {ns : List Int} {k : Int} (hv : PE G A env Γ value (.list (ns.map .int))) (hi : PE G A env Γ slice (.int k)) (h0 : 0 ≤ k) (hlt : k < ns.length) (hfit : ns.length ≤ sizeLine)
    (ht : ∀ o r, letTemporaryGo value o r = pure () := by intro _ _; rfl) (hs : ∀ o i, subscripted slice false o i = operate [o, i] (getItem o i) := by intro _ _; rfl) : PE G A env Γ (.Subscript value slice pos) (.int (ns.getD k.toNat 0)) := by
  refine PE.item hv hi h0 (by unfold sizeLine at hfit; omega) ?_ ht hs
  rw [List.getElem?_map, List.getElem?_eq_getElem (by omega), getD_get (by omega)]
  rfl
end
local macro_rules | `(tactic| wtm_at "m.item") => `(tactic| ((with_reducible show PE _ _ _ _ (Expr.Subscript (Expr.Name (Str.ofString "script") _) _ _) _); (refine' PE.itemI ?hv ?hi ?h0 ?hlt ?hf); (case hv => ((repeat' wtm_at "m.s"); done)); (case hi => ((repeat' wtm_at "m.s"); done)); (case h0 => decide); (case hlt => omega); (case hf => (first | assumption | exact lin1 (by assumption) (by decide) | exact lin2 (by assumption) (by assumption) (by decide) | (unfold sizeLine; omega)))))

noncomputable abbrev rowD (r : Int × Int × Int) : PyData := .tuple [.int r.1, .int r.2.1, .int r.2.2]
noncomputable def heapOf (r : Int × Int × Int) : List Str := heapF (r.1.fmod 12) r.2.1 r.2.2
noncomputable def textOf (r : Int × Int × Int) : Str := textF (heapOf r) (r.1.fmod 12)
noncomputable def rowsOf (ns : List Int) : List (Int × Int × Int) := [0, 3, 6, 9, 12].map fun k => (ns.getD k 0, ns.getD (k + 1) 0, ns.getD (k + 2) 0)
theorem own_of (r : Int × Int × Int) : wds (textOf r) = heapOf r := text_words (heap_words _ _ _).1 _
theorem owns (rs : List (Int × Int × Int)) : (rs.map textOf).map wds = rs.map heapOf := by rw [List.map_map]; exact List.map_congr_left fun r _ => own_of r
theorem m12 (i : Int) : 0 ≤ i.fmod 12 ∧ i.fmod 12 ≤ 11 := ⟨Int.fmod_nonneg_of_pos _ (by decide), by have := Int.fmod_lt_of_pos i (show (0 : Int) < 12 by decide); omega⟩
theorem texts_sz (rs : List (Int × Int × Int)) : szL 1 (rs.map textOf) ≤ 109 * rs.length := by
  induction rs with
  | nil => exact Nat.le_refl _
  | cons r rs ih =>
    have h1 : (textOf r).length ≤ 108 := text_len (heap_words _ _ _).2 (m12 r.1).1 (m12 r.1).2
    have h2 : szL 1 ((r :: rs).map textOf) = (textOf r).length + 1 + szL 1 (rs.map textOf) := by unfold szL; simp
    rw [h2, List.length_cons]; omega
theorem owns_sz (rs : List (Int × Int × Int)) : lenLL (rs.map heapOf) ≤ 25 * rs.length := by
  induction rs with
  | nil => exact Nat.le_refl _
  | cons r rs ih =>
    have h1 : szL 1 (heapOf r) ≤ 24 := (heap_words _ _ _).2
    have h2 : lenLL ((r :: rs).map heapOf) = szL 1 (heapOf r) + 1 + lenLL (rs.map heapOf) := by unfold lenLL; simp
    rw [h2, List.length_cons]; omega

noncomputable def P_law (ds : List PyData) (r : PyData) : Prop := ∃ ns : List Int, ds = [.list (ns.map .int)] ∧ r = .bool true ∧ ns.length ≤ 1000

section
variable {G : Glo}
theorem fn_law (hD : DefK G 20) (FN : Fns G) : Fn G 6 "law" P_law := by
  refine Fn.of (n := 5) (names := ["script"]) hD (by ((intro pm code doc vs hv; (obtain _ | ⟨v, _ | _⟩ := vs <;> simp at hv); rfl))) ?_ ?_ (by decide) (by ((intro L a code x hx; (repeat (rcases List.mem_cons.mp hx with h1 | hx; (subst h1; first | exact .inl rfl | exact .inr ⟨rfl, _, rfl⟩))); cases hx)))
  · rintro ds r ⟨s, rfl, rfl, _⟩; rfl
  · rintro ds r ⟨ns, rfl, rfl, hn⟩ A s₀ X₀ L ad code hA
    have S1 := @seg1 G A s₀ X₀ L ad code
    have FN' := FN
    obtain ⟨n1, n2, n3, n4, n5, n6, n7, n8, n9, n10, n11, n12, n13, n14, n15, n16⟩ := FN
    show SW _ [("script", .sh (.list (ns.map .int)))] _ _
    (((conv => arg 3; whnf); (conv => arg 1; arg 5; arg 1; whnf)))
    refine SW.cons ?_
    refine' SX.ifs ?t1 ?a1 ?b1
    case t1 =>
      (repeat' wtm_at "m.s")
      rw [List.length_map]; (first | assumption | exact lin1 (by assumption) (by decide) | exact lin2 (by assumption) (by assumption) (by decide) | (unfold sizeLine; omega))
    case a1 =>
      intro hb
      (((refine SW.cons ?_); (refine' SX.ret ?e_427 (show _ = _ from ?k_427)); (case' e_427 => (repeat' wtm_at "m.s"))))
      rfl
    intro hb
    simp only [List.length_map, decide_eq_false_iff_not] at hb
    refine SW.nil ?_
    refine SW.cons ?_
    refine' SX.assign (PE.cast (d' := .list (((rowsOf ns).take 3).map rowD)) ?e1 ?q1) ?dl1 ?k1
    case e1 => (repeat' wtm_at "m.s")
    case q1 => rfl
    case dl1 => wtm_at "m.del"
    refine SW.cons ?_
    refine' SX.assign (PE.cast (d' := .list ((rowsOf ns).map rowD)) (PE.bin ?e2 ?e3 (BinOk.addL ?e4)) ?e5) ?dl2 ?k2
    case e2 => (repeat' wtm_at "m.s")
    case e3 => (repeat' wtm_at "m.s")
    case e4 => show (5 : Nat) ≤ _; (first | assumption | exact lin1 (by assumption) (by decide) | exact lin2 (by assumption) (by assumption) (by decide) | (unfold sizeLine; omega))
    case e5 => rfl
    case dl2 => wtm_at "m.del"
    (((refine SW.cons ?_); (refine' SX.assign ?e_432 ?dl_432 ?k_432); (case' e_432 => (repeat' wtm_at "m.s")); (case' dl_432 => wtm_at "m.del")))
    · decide
    (((refine SW.cons ?_); (refine' SX.assign ?e_433 ?dl_433 ?k_433); (case' e_433 => (repeat' wtm_at "m.s")); (case' dl_433 => wtm_at "m.del")))
    · decide
    (((refine SW.cons ?_); (refine' SX.assign ?e_434 ?dl_434 ?k_434); (case' e_434 => (repeat' wtm_at "m.s")); (case' dl_434 => wtm_at "m.del")))
    · decide
    (((refine SW.cons ?_); (refine' SX.assign ?e_435 ?dl_435 ?k_435); (case' e_435 => (repeat' wtm_at "m.s")); (case' dl_435 => wtm_at "m.del")))
    · decide
    (((refine SW.cons ?_); (refine' SX.new ?dl_436 ?k_436); (case dl_436 => wtm_at "m.del")))
    (((refine SW.cons ?_); (refine' SX.new ?dl_437 ?k_437); (case dl_437 => wtm_at "m.del")))
    (((refine SW.cons ?_); (refine' SX.new ?dl_438 ?k_438); (case dl_438 => wtm_at "m.del")))
    rw [show (15 : Int).toNat = 15 from rfl, show (16 : Int).toNat = 16 from rfl, show (18 : Int).toNat = 18 from rfl, show (19 : Int).toNat = 19 from rfl]
    have c7 : 0 ≤ (ns.getD 17 0).fmod 7 := Int.fmod_nonneg_of_pos _ (by decide)
    have c12 := m12 (ns.getD 15 0)
    have c14 : 0 ≤ (ns.getD 16 0).fmod 14 ∧ (ns.getD 16 0).fmod 14 < 14 := ⟨Int.fmod_nonneg_of_pos _ (by decide), Int.fmod_lt_of_pos _ (by decide)⟩
    have c6 : 0 ≤ (ns.getD 18 0).fmod 6 ∧ (ns.getD 18 0).fmod 6 < 6 := ⟨Int.fmod_nonneg_of_pos _ (by decide), Int.fmod_lt_of_pos _ (by decide)⟩
    have hrl : ((rowsOf ns).take ((ns.getD 17 0).fmod 7).toNat).length ≤ 5 := by rw [List.length_take]; exact Nat.min_le_right _ _
    refine SW.cons ?_
    let GW : List (Int × Int × Int) → AEnv := fun st => [("same", .ow ((st.map textOf).map .str)), ("texts", .ow ((st.map textOf).map .str)), ("own", .ow ((st.map heapOf).map sL)), ("a", .sh (.int (1 + (ns.getD 15 0).fmod 12))), ("b", .sh (.int (1 + (ns.getD 16 0).fmod 14))), ("cut", .sh (.int ((ns.getD 18 0).fmod 6))), ("op", .sh (.int ((ns.getD 19 0).fmod 4)))]
    refine' SX.for_ (ds := ((rowsOf ns).take ((ns.getD 17 0).fmod 7).toNat).map rowD) (ItE.list hA.1 (PE.cast ?e6 ?q6)) (fun i Γ => Γ = GW (((rowsOf ns).take ((ns.getD 17 0).fmod 7).toNat).take i)) ?h0 ?turn ?done
    case e6 =>
      (repeat' wtm_at "m.s")
      · decide
      · show (5 : Nat) ≤ _; (first | assumption | exact lin1 (by assumption) (by decide) | exact lin2 (by assumption) (by assumption) (by decide) | (unfold sizeLine; omega))
    case q6 => rw [show (17 : Int).toNat = 17 from rfl, cutL_to _ c7]
    case h0 => exact ⟨GW [], by (((repeat (first | exact sub_nil | refine' sub_cons (by (((try dsimp only [thaw, List.map, thaw1]); (repeat (first | with_reducible exact List.mem_cons_self | with_reducible refine' List.mem_cons_of_mem _ ?_)); done))) ?_)); done)), rfl⟩
    case turn =>
      rintro i d Γ' hd rfl
      rw [List.getElem?_map] at hd
      obtain ⟨⟨s, f, g⟩, hp, rfl⟩ := Option.map_eq_some_iff.mp hd
      have hil := (List.getElem?_eq_some_iff.mp hp).1
      rw [List.take_add_one, hp]
      have hsl : (((rowsOf ns).take ((ns.getD 17 0).fmod 7).toNat).take i).length ≤ 5 := by rw [List.length_take]; omega
      generalize ((rowsOf ns).take ((ns.getD 17 0).fmod 7).toNat).take i = st at hsl ⊢
      have hm := m12 s
      have hh := (heap_words (s.fmod 12) f g).2
      refine ⟨_, Tgt.tup3 hA.1 (Tgt.name (by wtm_at "m.del")) (Tgt.name (by wtm_at "m.del")) (Tgt.name (by wtm_at "m.del")), ?_⟩
      (((refine SW.cons ?_); (refine' SX.assign ?e_442 ?dl_442 ?k_442); (case' e_442 => (repeat' wtm_at "m.s")); (case' dl_442 => wtm_at "m.del")))
      · decide
      (((refine SW.cons ?_); (refine' SX.append ?hm_443 ?e_443 ?dl_443 ?k_443 ?sz_443); (case' hm_443 => (((try dsimp only [thaw, List.map, thaw1]); (repeat (first | with_reducible exact List.mem_cons_self | with_reducible refine' List.mem_cons_of_mem _ ?_)); done))); (case' e_443 => (repeat' wtm_at "m.s")); (case' dl_443 => wtm_at "m.del")))
      rotate_left 1
      · rw [List.length_map, List.length_map]; (first | assumption | exact lin1 (by assumption) (by decide) | exact lin2 (by assumption) (by assumption) (by decide) | (unfold sizeLine; omega))
      (((refine SW.cons ?_); (refine' SX.appendT ?hm_445 ?e_445 ?sc_445 ?dl_445 ?k_445 ?sz_445); (case' hm_445 => (((try dsimp only [thaw, List.map, thaw1]); (repeat (first | with_reducible exact List.mem_cons_self | with_reducible refine' List.mem_cons_of_mem _ ?_)); done))); (case' e_445 => (repeat' wtm_at "m.s")); (case' sc_445 => trivial); (case' dl_445 => wtm_at "m.del"); (case' sz_445 => skip)))
      · rw [List.length_map, List.length_map]; (first | assumption | exact lin1 (by assumption) (by decide) | exact lin2 (by assumption) (by assumption) (by decide) | (unfold sizeLine; omega))
      · decide
      · exact ⟨by omega, by omega, by omega⟩
      (((refine SW.cons ?_); (refine' SX.appendT ?hm_447 ?e_447 ?sc_447 ?dl_447 ?k_447 ?sz_447); (case' hm_447 => (((try dsimp only [thaw, List.map, thaw1]); (repeat (first | with_reducible exact List.mem_cons_self | with_reducible refine' List.mem_cons_of_mem _ ?_)); done))); (case' e_447 => (repeat' wtm_at "m.s")); (case' sc_447 => trivial); (case' dl_447 => wtm_at "m.del"); (case' sz_447 => skip)))
      · rw [List.length_map, List.length_map]; (first | assumption | exact lin1 (by assumption) (by decide) | exact lin2 (by assumption) (by assumption) (by decide) | (unfold sizeLine; omega))
      · decide
      · exact ⟨by omega, by omega, by omega⟩
      refine SW.nil (LoopPost.nextI (Γ' := GW _) rfl ?_)
      dsimp only [GW, Option.toList]
      rw [List.map_append, List.map_append, List.map_append, List.map_append]
      rw [show List.map PyData.str (List.map textOf [(s, f, g)]) = [PyData.str (textF (heapF (s.fmod 12) f g) (s.fmod 12))] from rfl, show List.map sL (List.map heapOf [(s, f, g)]) = [sL (heapF (s.fmod 12) f g)] from rfl]
      (((repeat (first | exact sub_nil | refine' sub_cons (by (((try dsimp only [thaw, List.map, thaw1]); (repeat (first | with_reducible exact List.mem_cons_self | with_reducible refine' List.mem_cons_of_mem _ ?_)); done))) ?_)); done))
    case done =>
      rintro Γ' rfl
      rw [List.length_map, List.take_length]
      have hz1 := texts_sz ((rowsOf ns).take ((ns.getD 17 0).fmod 7).toNat)
      have hz2 := owns_sz ((rowsOf ns).take ((ns.getD 17 0).fmod 7).toNat)
      have hz3 := owns ((rowsOf ns).take ((ns.getD 17 0).fmod 7).toNat)
      generalize (rowsOf ns).take ((ns.getD 17 0).fmod 7).toNat = rs at hrl hz1 hz2 hz3 ⊢
      dsimp only [GW]
      refine SW.freeze (x := "own") (by (((try dsimp only [thaw, List.map, thaw1]); (repeat (first | with_reducible exact List.mem_cons_self | with_reducible refine' List.mem_cons_of_mem _ ?_)); done))) (by wtm_at "m.del") ?_
      refine SW.freeze (x := "texts") (by (((try dsimp only [thaw, List.map, thaw1]); (repeat (first | with_reducible exact List.mem_cons_self | with_reducible refine' List.mem_cons_of_mem _ ?_)); done))) (by wtm_at "m.del") ?_
      refine SW.freeze (x := "same") (by (((try dsimp only [thaw, List.map, thaw1]); (repeat (first | with_reducible exact List.mem_cons_self | with_reducible refine' List.mem_cons_of_mem _ ?_)); done))) (by wtm_at "m.del") ?_
      have S := S1 (ts := rs.map textOf) (a := 1 + (ns.getD 15 0).fmod 12) (b := 1 + (ns.getD 16 0).fmod 14) (cut := (ns.getD 18 0).fmod 6) (op := (ns.getD 19 0).fmod 4) FN' ⟨by omega, by rw [hz3]; omega, by rw [List.length_map]; omega, by omega, by omega, by omega, by omega, by omega, by omega⟩ hA
      rw [hz3] at S
      exact SW.sub S (by (((repeat (first | exact sub_nil | refine' sub_cons (by (((try dsimp only [thaw, List.map, thaw1]); (repeat (first | with_reducible exact List.mem_cons_self | with_reducible refine' List.mem_cons_of_mem _ ?_)); done))) ?_)); done)))
end

/-! text WQ -/
theorem law_fn {G : Glo} (d1 : DefK G 1) (d2 : DefK G 2) (d3 : DefK G 3) (d4 : DefK G 4) (d5 : DefK G 5) (d7 : DefK G 7) (d8 : DefK G 8) (hp : PoolD G) (d11 : DefK G 11) (d12 : DefK G 12) (d13 : DefK G 13) (d14 : DefK G 14) (d15 : DefK G 15) (d16 : DefK G 16) (d17 : DefK G 17)
    (d18 : DefK G 18) (d19 : DefK G 19) (d20 : DefK G 20) (bl : Bi G "len" (.builtin "len")) (br : Bi G "range" (.type "range")) (bmin : Bi G "min" (.builtin "min")) (bmax : Bi G "max" (.builtin "max")) : Fn G 6 "law" P_law := by
  have h1 := fn_words_of d1
  have h2 := fn_squeezed d2 h1
  have h3 := fn_wrapped d3 h1 bl
  have h4 := fn_justified d4 h1 bl br
  have h5 := fn_centred d5
  have h7 := fn_paragraphs d7
  have h8 := fn_jlines d8 h4 bl
  have h11 := fn_heap d11 hp
  have h12 := fn_text d12
  have h13 := fn_found d13 bl br bmin
  have h14 := fn_fill d14 bl br bmax
  have h15 := fn_spread d15 bl br
  have h16 := fn_page d16 h14 h15 bl br
  have h17 := fn_set d17 h7 h3 h8
  have h18 := fn_first d18 h17 h5 h2
  have h19 := fn_due d19 h13 h16 bl
  exact fn_law d20 ⟨h2, h3, h4, h7, h8, h11, h12, h13, h14, h15, h16, h17, h18, h19, bl, br⟩

end Mine

open PySem PySem.W PyProof.Rows
/-! text Top8 -/
namespace Mine
noncomputable def posOf : Stmt → Pos
  | .FunctionDef _ _ _ _ _ _ _ _ _ p => p
  | _ => ⟨0, 0, 0, 0⟩
noncomputable def recAt (k : Nat) : DefRec := ⟨nameOf (stmtAt k), paramsOf (stmtAt k), bodyOf (stmtAt k), scopeOf (stmtAt k), posOf (stmtAt k)⟩
noncomputable abbrev defKs : List Nat := [1, 2, 3, 4, 5, 7, 8, 11, 12, 13, 14, 15, 16, 17, 18, 19, 20]
noncomputable abbrev biNames : List Str := [Str.ofString "len", Str.ofString "range", Str.ofString "min", Str.ofString "max"]
noncomputable abbrev poolLit : Str × WData := (Str.ofString "_law_POOL", WData.tuple (Mine.pool.map WData.str))

theorem strs_rep {h : Heap} : ∀ {xs : List Str} {vs : List Value} {as : List Addr}, ReadsAllW [] (fun _ => none) h vs (xs.map WData.str) as → Reps h (fun _ => False) vs (xs.map PyData.str) := by
  intro xs
  induction xs with
  | nil => intro vs as r; cases r; exact .nil
  | cons x xs ih =>
    intro vs as r
    cases r with
    | cons a b =>
      cases a
      exact .cons (.str _ _) (ih b)
theorem ints_rep {h : Heap} {X : Addr → Prop} {vs : List Value} {ns : List Int} (r : IntsAre vs ns) : Reps h X vs (ns.map PyData.int) := by
  induction r with
  | nil => exact .nil
  | cons n t _ ih => exact .cons (.int n t) ih

section
variable {w : World} {pr p : Program} {loose : List Str} {mg mb : Str → Option Value} {h : Heap} {mean : ExcName → Option Value}
theorem def_of (T : Top p loose mean mg mb h) (hr : recsOf p = defKs.map recAt) (k : Nat) (hk : k ∈ defKs) : DefK ⟨pr, w, h, mg, mb, T.g, T.b, T.nolimit⟩ k := by
  obtain ⟨a, o, pm, code, doc, h1, h2, h3, h4⟩ := T.fn (recAt k) (by rw [hr]; exact List.mem_map.mpr ⟨k, hk, rfl⟩)
  exact ⟨a, o, pm, code, doc, h1, h2, h3, h4⟩
theorem pool_of (T : Top p loose mean mg mb h) (W : TopW p mg h) (hl : poolLit ∈ wlitsOf p) : PoolD ⟨pr, w, h, mg, mb, T.g, T.b, T.nolimit⟩ := by
  obtain ⟨v, h1, h2⟩ := W.lits poolLit hl
  refine ⟨v, h1, ?_⟩
  cases h2 with
  | tuple ho hc hd r => exact .tuple id ⟨_, ho, hc, _, by rw [hd]⟩ (strs_rep r)
noncomputable def NamesOk (p : Program) (loose : List Str) : Prop :=
  ∀ x ∈ biNames, x ≠ "__name__" ∧ x ∉ startupNames ∧ x ∉ loose ∧ x ∉ (recsOf p).map (·.name) ∧ x ∉ (litsOf p).map (·.1) ∧ x ∉ (clssOf p loose).map (·.name)
theorem bi_at (T : Top p loose mean mg mb h) (hn : NamesOk p loose) {x : Str} {v : Value} (hv : bootBuiltins x = some v) (hx : x ∈ biNames) : Bi ⟨pr, w, h, mg, mb, T.g, T.b, T.nolimit⟩ x v := by
  obtain ⟨a, b, c, d, e, f⟩ := hn x hx
  exact ⟨T.free x b c d e f, by rw [← hv]; exact T.builtins x a⟩
theorem law_at (T : Top p loose mean mg mb h) (W : TopW p mg h) (hr : recsOf p = defKs.map recAt) (hl : poolLit ∈ wlitsOf p) (hn : NamesOk p loose) : Fn ⟨pr, w, h, mg, mb, T.g, T.b, T.nolimit⟩ 6 "law" P_law := by
  refine law_fn ?_ ?_ ?_ ?_ ?_ ?_ ?_ (pool_of T W hl) ?_ ?_ ?_ ?_ ?_ ?_ ?_ ?_ ?_ ?_ (bi_at T hn rfl (by decide +kernel)) (bi_at T hn rfl (by decide +kernel)) (bi_at T hn rfl (by decide +kernel)) (bi_at T hn rfl (by decide +kernel))
  all_goals exact def_of T hr _ (by decide)
end
theorem callerA_ok : AOk 6 callerA := by
  refine ⟨rfl, ?_, ?_⟩ <;> decide
/-- the call of the law, from the top -/
theorem law_call {w : World} {p : Program} {loose : List Str} {s₀ s₁ : Shared} {mg mb : Str → Option Value} {mean : ExcName → Option Value} (T : Top p loose mean mg mb s₁.heap) (TW : TopW p mg s₁.heap)
    {fa la : Addr} (hmg : mg "law" = some (.ref fa)) (hg : s₁.gens = #[]) {ns : List Int} {vs : List Value} (hl : s₁.heap.IsList la vs.toArray) (hi : IntsAre vs ns) (hlen : ns.length ≤ 1000)
    (hr : recsOf p = defKs.map recAt) (hp : poolLit ∈ wlitsOf p) (hn : NamesOk p loose) {args : List WData} {E : Value → Shared → Prop} :
    wpAny (model PySem.Challenge.rw_sx_vscribe_8o.row.prog w) callerA (call (.ref fa) [.ref la]) (fun v s' => GoodWG PySem.Challenge.rw_sx_vscribe_8o.row.claim (classAt s₀.heap) (ExcName.means s₀.heap) args s₁ (.ok (.ret v)) s') E s₁ := by
  obtain ⟨a, o, fd, h1, h2, h3, h4⟩ := law_at (w := w) (pr := PySem.Challenge.rw_sx_vscribe_8o.row.prog) T TW hr hp hn
  have h1' : mg "law" = some (.ref a) := h1
  rw [hmg] at h1'
  injection h1' with h1'
  injection h1' with h1'
  subst h1'
  have hR : Reps s₁.heap (fun _ => False) [.ref la] [.list (ns.map .int)] := .cons (.list id hl (ints_rep hi)) .nil
  have hgv := h4 callerA (fun _ => False) s₁ [.ref la] [.list (ns.map .int)] (.bool true) callerA_ok (fun _ _ e => e) (fun a ha => ha.elim) (fun a ha => ha.elim) hR ⟨ns, rfl, rfl, hlen⟩
  refine wpAny_mono (hgv E) (fun v s' h => ?_) fun _ _ e => e
  obtain ⟨hk, hr⟩ := h
  cases hr
  obtain ⟨hh, tk, rfl, hkeep⟩ := hk
  refine GoodW.toG ⟨.inl ⟨_, _, [], rfl, ?_, .bool true, ?_, ?_⟩, hkeep, rfl, hg⟩
  · intro cls; rfl
  · wrow_post
  · intro _; exact ⟨.nil, fun a ha => by cases ha⟩
end Mine

/-! text Top9 -/
set_option maxHeartbeats 8000000 in
theorem PySem.Challenge.cw_sx_vscribe_8o_holds : PySem.Challenge.rw_sx_vscribe_8o.Holds := by
  w_on
  o_law
  o_head Hook.none
  (case hw => w_witness2)
  w_strict (
  intro w s₀ s₁ mg mb G Y fa o pm cd doc dV kV ho hd hcd hD hmg hg args vals as hpre hlay hrd hwl hlo
  refine Ground.open G ?_
  intro T B D TE TW
  wrow_args hpre hlay hrd hwl hlo
  rename_i ns _ _ _ _ _ _ _ la vs _ hL _ _ _ hI _ hc1 hc2
  exact Mine.law_call T TW hmg hg hL hI (by omega) rfl (by decide +kernel) (by unfold Mine.NamesOk; decide +kernel))
