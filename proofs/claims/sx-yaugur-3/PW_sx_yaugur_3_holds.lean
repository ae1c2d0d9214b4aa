import PyProof.Rows.All
import PyProof.CompFree
import PyProof.Cells
import PyProof.DictStraight
import PyProof.Claim2
import PyProof.Lay0
import PyProof.CallStr
import PyProof.Rows.Frame
import PyProof.Rows.Calls2
import KE.KDictOf
import KE.KItem
import KE.KDictList
import Wide.All
import OpenK.KLine
import OpenK.KOwn
import Wide.FinOn
import Lean
import PySem.Challenge.RW_sx_yaugur_3

set_option autoImplicit false
set_option Elab.async false
set_option maxRecDepth 100000
set_option maxHeartbeats 8000000
set_option linter.unusedVariables false

namespace Mine
section
set_option autoImplicit false
open PySem
open Sem (wp)

theorem putName_cls (name : Str) (hash : Int) (key v : Value) (o : Obj) : (Obj.putName name hash key v o).cls = o.cls := by
  obtain ⟨c, d, dt, sl⟩ := o
  rw [Obj.putName_eq]
  cases dt <;> simp only [Obj.putNameByArray]
  split <;> rfl

theorem nsSet_cls {M : Model} {A : Around} {E : Value → Shared → Prop} {s : Shared} {a : Addr} {m : Str → Option Value} {name : Str} {v : Value} {Q : Unit → Shared → Prop} (hn : s.heap.Ns a m)
    (h : ∀ h', h'.Ns a (fun x => if x = name then some v else m x) → Heap.SameBut a s.heap h' → (∀ o, s.heap.get? a = some o → ∃ o', h'.get? a = some o' ∧ o'.cls = o.cls) → Q () { s with heap := h', toks := s.toks + 1 }) :
    wpAny M A (nsSet a name v) Q E s := fun Γ p hΓ => by
  obtain ⟨o, es, ep, ho, hd, hk, hm⟩ := id hn
  have hany : es.any (·.refKey) = false := by
    rw [Array.any_eq_false']; intro e he; obtain ⟨n, t, h⟩ := hk e he; simp [DictEntry.refKey, h]
  have key : ∀ Q' : Unit → Pos → Shared → Prop, wp M Γ (nsSet a name v) Q' (fun e _ s' => E e s') p s ↔ Q' () p { s with heap := s.heap.update a (Obj.putName name (if name.cps.isEmpty = true then 0 else reduceHash (M.w.params.strHash name.cps)) (.str name s.toks) v), toks := s.toks + 1 } := by
    intro Q'
    simp only [nsSet, strHash, Sem.wp_bind', Sem.wp_cmd_ask, Sem.wp_pure', Sem.wp_cmd_mkText]
    rw [Sem.wp_loadPart_of M Γ _ p { s with toks := s.toks + 1 } (o := o) _ ho]
    simp only [hd, aRefKeyMayBeTheName_eq, aRefKeyMayBeTheNameByArray, hany, Bool.and_false, Bool.false_eq_true, if_false, Sem.wp_cmd_updatePart]
    simp only [ho, Option.isSome_some, true_and]
  have q := (key (fun _ _ s' => s'.heap.Ns a (fun x => if x = name then some v else m x) ∧ Heap.SameBut a s.heap s'.heap)).mp (Sem.wp_nsSet M Γ _ p s hn name v _ fun h' h1 h2 => ⟨h1, h2⟩)
  refine (key _).mpr (h _ q.1 q.2 fun o' e => ?_)
  exact ⟨_, Heap.get?_update_self _ e (by
    obtain ⟨o₂, es₂, ep₂, ho₂, hd₂, _⟩ := q.1
    have hf := (Heap.get?_some_iff.mp ho₂).2
    have hh : s.heap.objs[a]? = some o' := (Heap.get?_some_iff.mp e).1
    have hu : (s.heap.update a (Obj.putName name (if name.cps.isEmpty = true then 0 else reduceHash (M.w.params.strHash name.cps)) (.str name s.toks) v)).objs[a]? = some (Obj.putName name (if name.cps.isEmpty = true then 0 else reduceHash (M.w.params.strHash name.cps)) (.str name s.toks) v o') := by
      generalize s.heap = hp at hh
      obtain ⟨objs, l⟩ := hp
      simp only [Heap.update, Array.getElem?_modify, if_true]
      simp only at hh
      rw [hh]; rfl
    have hx := (Heap.get?_some_iff.mp ho₂).1
    rw [hu] at hx
    cases hx
    exact hf), putName_cls _ _ _ _ _⟩
end

section
set_option autoImplicit false
set_option linter.unusedVariables false
open PySem

structure InF (s₀ : Shared) (L : Addr) (m : Str → Option Value) (cs : List (Str × Addr)) (cm : Str → Option Value) (s : Shared) : Prop where
  c : InCallC s₀ L m cs cm s
  fr : ∃ o, s.heap.get? L = some o ∧ o.cls = .type "frame"

section
variable {M : Model} {A : Around} {E : Value → Shared → Prop} {s₀ s : Shared} {m cm : Str → Option Value} {env : Env}

theorem InF.local {n : Str} {v : Value} {Q : Unit → Shared → Prop} (x : InF s₀ env.locals m env.cells cm s) (hk : env.scope.kind = .function) (hl : env.kindOf n = some .local)
    (h : ∀ s', InF s₀ env.locals (fun y => if y = n then some v else m y) env.cells cm s' → Q () s') : wpAny M A (storeName env n v) Q E s := by
  rw [storeName_local hl (by rw [hk]; rfl)]
  refine nsSet_cls x.c.toInCall.ns fun h' hn' sb hc => h _ ⟨⟨⟨?_, hn', fun b o e => ?_, x.c.toInCall.fresh⟩, fun k c hkc => ?_, x.c.apart, x.c.above⟩, ?_⟩
  · obtain ⟨h₁, tk, rfl⟩ := x.c.toInCall.same
    exact ⟨h', _, rfl⟩
  · have hb : b < env.locals := Nat.lt_of_lt_of_le (Heap.lt_size e) x.c.toInCall.fresh
    exact (sb.2 b (Nat.ne_of_lt hb)).trans (x.c.toInCall.keep b o e)
  · have := x.c.above k c (mem_of_lookup hkc)
    exact (x.c.cell k c hkc).sameBut sb (Nat.ne_of_gt this)
  · obtain ⟨o, ho, hcl⟩ := x.fr
    obtain ⟨o', ho', hcl'⟩ := hc o ho
    exact ⟨o', ho', hcl'.trans hcl⟩

theorem InF.cell {n : Str} {c : Addr} {v : Value} {Q : Unit → Shared → Prop} (x : InF s₀ env.locals m env.cells cm s) (hk : env.scope.kind = .function) (hl : env.kindOf n = some .cell) (hc : env.cells.lookup n = some c)
    (h : ∀ s', InF s₀ env.locals m env.cells (fun y => if y = n then some v else cm y) s' → Q () s') : wpAny M A (storeName env n v) Q E s := by
  have hLc := x.c.above n c (mem_of_lookup hc)
  refine wpAny_storeName_cell hk hl hc (x.c.cell n c hc) fun h' hc' sb => h _ ⟨⟨⟨?_, x.c.toInCall.ns.sameBut sb (Nat.ne_of_lt hLc), fun b o e => ?_, x.c.toInCall.fresh⟩, fun k c' hk' => ?_, x.c.apart, x.c.above⟩, ?_⟩
  · obtain ⟨h₁, tk, rfl⟩ := x.c.toInCall.same
    exact ⟨h', _, rfl⟩
  · have hb : b < env.locals := Nat.lt_of_lt_of_le (Heap.lt_size e) x.c.toInCall.fresh
    exact (sb.2 b (Nat.ne_of_lt (Nat.lt_trans hb hLc))).trans (x.c.toInCall.keep b o e)
  · by_cases hkn : k = n
    · subst hkn
      rw [hc] at hk'; cases hk'
      rw [if_pos rfl]; exact hc'
    · rw [if_neg hkn]
      exact (x.c.cell k c' hk').sameBut sb fun e => hkn (name_of_addr x.c.apart (mem_of_lookup hk') (e ▸ mem_of_lookup hc))
  · obtain ⟨o, ho, hcl⟩ := x.fr
    exact ⟨o, (sb.2 _ (Nat.ne_of_lt hLc)).trans ho, hcl⟩

theorem bindAll (f : Str × Value → PUnit → Sem (ForInStep PUnit)) (hf : ∀ n v u, f (n, v) u = (do storeName env n v; pure (.yield ⟨⟩))) (hk : env.scope.kind = .function) (Q : PUnit → Shared → Prop) :
    ∀ (binds : List (Str × Value)) (m cm : Str → Option Value) (s : Shared), InF s₀ env.locals m env.cells cm s →
      (∀ x ∈ binds, env.kindOf x.1 = some .local ∨ (env.kindOf x.1 = some .cell ∧ (env.cells.lookup x.1).isSome = true)) →
      (∀ s', InF s₀ env.locals (bindL env.kindOf binds m) env.cells (bindC env.kindOf binds cm) s' → Q ⟨⟩ s') → wpAny M A (forIn binds ⟨⟩ f) Q E s := by
  intro binds
  induction binds with
  | nil => intro m cm s x _ h; rw [List.forIn_nil]; exact wpAny_pure (h s x)
  | cons b r ih =>
    obtain ⟨n, v⟩ := b
    intro m cm s x hb h
    rw [List.forIn_cons, hf]
    have hr := fun y hy => hb y (List.mem_cons_of_mem _ hy)
    rcases hb (n, v) List.mem_cons_self with hl | ⟨hl, hs⟩
    · refine wpAny_bind (wpAny_bind (x.local hk hl fun s' x' => wpAny_pure (ih _ _ s' x' hr fun s'' x'' => h s'' ?_)))
      simp only [bindL, bindC, if_pos hl]; exact x''
    · obtain ⟨c, hc⟩ := Option.isSome_iff_exists.mp hs
      have hnl : ¬ env.kindOf n = some .local := by rw [hl]; decide
      refine wpAny_bind (wpAny_bind (x.cell hk hl hc fun s' x' => wpAny_pure (ih _ _ s' x' hr fun s'' x'' => h s'' ?_)))
      simp only [bindL, bindC, if_neg hnl]; exact x''
end

theorem newEnvF {M : Model} {A : Around} {E : Value → Shared → Prop} {s : Shared} {scope : Scope} {globals : Addr} {binds : List (Str × Value)} {qual : Str} {func : Option Addr} {code : Value} {builtins : Addr} {Q : Env → Shared → Prop}
    (hk : scope.kind = .function)
    (hkind : ∀ x ∈ binds, scope.names.lookup x.1 = some .local ∨ (scope.names.lookup x.1 = some .cell ∧ ((cellsFrom (s.heap.objs.size + 1) scope.names []).lookup x.1).isSome = true))
    (hQ : ∀ env, env = newEnv scope s.heap.objs.size globals (cellsFrom (s.heap.objs.size + 1) scope.names []) qual func code none builtins →
      ∀ s', InF s env.locals (bindL env.kindOf binds fun _ => none) env.cells (bindC env.kindOf binds fun _ => none) s' → Q env s') :
    wpAny M A (newFunctionEnv scope globals [] binds qual func code none builtins) Q E s := by
  simp only [newFunctionEnv, Option.isSome_none, Bool.false_eq_true, if_false]
  refine wpAny_bind (wpAny_alloc (wpAny_bind (wpAny_layCells _ (fun name kind cells => by cases hkc : kind == NameKind.cell <;> simp [hkc]) _ _ _ _ ?_)))
  have hsz : (s.heap.push { cls := .type "frame", data := .dict #[] }).objs.size = s.heap.objs.size + 1 := Heap.size_push ..
  have ok := cellsFrom_ok scope.names (s.heap.push { cls := .type "frame", data := .dict #[] }) (s.heap.objs.size + 1) [] ⟨fun _ _ hm => (nomatch hm), List.Pairwise.nil⟩ (by rw [hsz]; exact Nat.le_refl _)
  rw [hsz] at ok
  show wpAny M A _ Q E _
  rw [show ({ s with heap := s.heap.push { cls := .type "frame", data := .dict #[] } } : Shared).heap.objs.size = s.heap.objs.size + 1 from hsz]
  have hget : (pushCells (s.heap.push { cls := .type "frame", data := .dict #[] }) scope.names).get? s.heap.objs.size = some { cls := .type "frame", data := .dict #[] } := pushCells_keeps _ _ _ _ (Heap.get?_push_size _ rfl)
  refine wpAny_bind (bindAll (s₀ := s) (env := newEnv scope s.heap.objs.size globals (cellsFrom (s.heap.objs.size + 1) scope.names []) qual func code none builtins) _ (fun _ _ _ => rfl) hk _ binds (fun _ => none) (fun _ => none) _ ?_ hkind fun s' x => wpAny_pure (hQ _ rfl s' x))
  refine ⟨⟨⟨⟨_, _, rfl⟩, (Heap.Ns.new s.heap (.type "frame")).keeps (pushCells_keeps _ _), fun b o e => pushCells_keeps _ _ b o (Heap.get?_push_of_some _ e), Nat.le_refl _⟩, fun n c hc => (ok.empty n c (mem_of_lookup hc)).1, ok.apart, fun n c hm => (ok.empty n c hm).2⟩, ⟨_, hget, rfl⟩⟩

theorem callF {prog : Program} {w : World} {A : Around} {s : Shared} {R : Result → Shared → Prop} {a : Addr} {o : Obj} {fd : FuncData} {body : List Stmt} {vals : List Value} {binds : List (Str × Value)}
    (hroom : A.depth < recursionLimit) (ho : s.heap.get? a = some o) (hdata : o.data = .func fd) (hlim : s.heap.NoLimit) (hcd : s.heap.CodeRec fd.code fd.qualname)
    (hbody : fd.body = .stmts body) (hbind : bindArgs fd ⟨vals, []⟩ = pure binds) (hclo : fd.closure = [])
    (hkind : ∀ x ∈ binds, fd.scope.names.lookup x.1 = some .local ∨ (fd.scope.names.lookup x.1 = some .cell ∧ ((cellsFrom (s.heap.objs.size + 1) fd.scope.names []).lookup x.1).isSome = true))
    (h : ∀ s₁, InF s (callEnvC fd s.heap.objs.size a).locals (bindL (callEnvC fd s.heap.objs.size a).kindOf binds fun _ => none) (callEnvC fd s.heap.objs.size a).cells (bindC (callEnvC fd s.heap.objs.size a).kindOf binds fun _ => none) s₁ →
      wpAny (model prog w) (A.deeper (callEnvC fd s.heap.objs.size a)) (execs body (callEnvC fd s.heap.objs.size a)) (fun f s' => R (.ok (.ret (match f with | .ret v => v | _ => .none))) s')
        (fun e s' => wpAny (model prog w) (A.deeper (callEnvC fd s.heap.objs.size a)) (leaving (callEnvC fd s.heap.objs.size a) e) (fun _ s'' => R (.error e) s'') (fun e' s'' => R (.error e') s'') s') s₁)
    (hco : fd.scope.isCoroutine = false) (hgen : fd.scope.isGenerator = false) (hk : fd.scope.kind = .function) :
    codeAny (model prog w) A (.call (.ref a) ⟨vals, []⟩) R s := by
  refine codeAny_call_function hroom ho hdata hco hgen hbody hcd ?_
  rw [hbind, hclo]
  refine wpAny_pure (newEnvF hk hkind fun env he s' x => ?_)
  subst he
  exact ⟨hlim.keeps x.c.toInCall.keep, codeAny_func (h s' x)⟩
end

section
set_option autoImplicit false
open PySem

noncomputable def isFrame (A : Around) (b : Addr) : Prop := ∃ l, A.frames = some l ∧ ∃ env ∈ l, env.frame = some b
noncomputable def Ext (A : Around) (h h' : Heap) : Prop := ∀ b o, h.get? b = some o → h'.get? b = some o ∨ (isFrame A b ∧ o.cls = .type "frame" ∧ ∃ sl, h'.get? b = some { o with slots := sl })
theorem Ext.of {A : Around} {h h' : Heap} (k : ∀ b o, h.get? b = some o → h'.get? b = some o) : Ext A h h' := fun b o e => .inl (k b o e)
theorem Ext.refl {A : Around} (h : Heap) : Ext A h h := .of fun _ _ e => e
theorem Ext.trans {A : Around} {h₁ h₂ h₃ : Heap} (x : Ext A h₁ h₂) (y : Ext A h₂ h₃) : Ext A h₁ h₃ := fun b o e => by
  rcases x b o e with q | ⟨f, c, sl, q⟩
  · exact y b o q
  · rcases y b _ q with q' | ⟨_, _, sl', q'⟩
    · exact .inr ⟨f, c, sl, q'⟩
    · exact .inr ⟨f, c, sl', q'⟩
set_option linter.unusedVariables false
theorem Ext.push {A : Around} {h : Heap} (o : Obj) : Ext A h (h.push o) := .of fun _ _ e => Heap.get?_push_of_some o e
theorem Ext.mutOf {A : Around} {h₀ h h' : Heap} {a : Addr} (x : Ext A h₀ h) (na : h₀.get? a = none) (k : ∀ b o, b ≠ a → h.get? b = some o → h'.get? b = some o) : Ext A h₀ h' := fun b o e => by
  have hb : b ≠ a := by rintro rfl; rw [na] at e; cases e
  rcases x b o e with q | ⟨f, c, sl, q⟩
  · exact .inl (k b o hb q)
  · exact .inr ⟨f, c, sl, k b _ hb q⟩
theorem Ext.at {A : Around} {h h' : Heap} (x : Ext A h h') {b : Addr} {o : Obj} (e : h.get? b = some o) (hc : o.cls ≠ .type "frame") : h'.get? b = some o :=
  (x b o e).elim id fun q => absurd q.2.1 hc
theorem Ext.stays {A : Around} {h h' : Heap} (x : Ext A h h') {b : Addr} {o : Obj} (e : h.get? b = some o) : ∃ o', h'.get? b = some o' ∧ o'.data = o.data ∧ o'.cls = o.cls :=
  (x b o e).elim (fun q => ⟨o, q, rfl, rfl⟩) fun q => let ⟨sl, q⟩ := q.2.2; ⟨_, q, rfl, rfl⟩
theorem Ext.ns {A : Around} {h h' : Heap} (x : Ext A h h') {a : Addr} {m : Str → Option Value} (hn : h.Ns a m) : h'.Ns a m := by
  obtain ⟨o, es, ep, ho, hd, r⟩ := hn
  obtain ⟨o', ho', hd', _⟩ := x.stays ho
  exact ⟨o', es, ep, ho', hd'.trans hd, r⟩
theorem Ext.cell {A : Around} {h h' : Heap} (x : Ext A h h') {c : Addr} {v : Option Value} (hn : h.IsCell c v) : h'.IsCell c v := by
  obtain ⟨o, ho, hd⟩ := hn
  obtain ⟨o', ho', hd', _⟩ := x.stays ho
  exact ⟨o', ho', hd'.trans hd⟩
theorem Ext.noLimit {A : Around} {h h' : Heap} (x : Ext A h h') (hn : h.NoLimit) : h'.NoLimit := let ⟨mc, a, b⟩ := hn; ⟨mc, x.ns a, b⟩

noncomputable abbrev listO (vs : Array Value) (n : Nat) : Obj := { cls := .type "list", data := .seq vs n }
noncomputable abbrev tupO (vs : Array Value) (n : Nat) : Obj := { cls := .type "tuple", data := .seq vs n }

noncomputable def zipKv : List (Str × Value) → List PyData → List (PyData × PyData)
  | (k, _) :: r, d :: ds => (.str k, d) :: zipKv r ds
  | _, _ => []

mutual
/-- the value v reads as the datum d; no node of it lies in Z -/
inductive Rd (prog : Program) (w : World) (Z : Addr → Prop) (h : Heap) : Value → PyData → Prop
  | none : Rd prog w Z h .none .none
  | bool (b : Bool) : Rd prog w Z h (.bool b) (.bool b)
  | int (i : Int) (t : Tok) : Rd prog w Z h (.int i t) (.int i)
  | str (x : Str) (t : Tok) : PyData.strOk x = true → Rd prog w Z h (.str x t) (.str x)
  | list {a : Addr} {vs : Array Value} {n : Nat} {ds : List PyData} : h.get? a = some (listO vs n) → ¬ Z a → Rds prog w Z h vs.toList ds → Rd prog w Z h (.ref a) (.list ds)
  | tuple {a : Addr} {vs : Array Value} {n : Nat} {ds : List PyData} : h.get? a = some (tupO vs n) → ¬ Z a → Rds prog w Z h vs.toList ds → Rd prog w Z h (.ref a) (.tuple ds)
  | dict {a : Addr} {o : Obj} {kvs : List (Str × Value)} {ds : List PyData} : h.get? a = some o → ¬ Z a → (a == sysModules) = false → o.IsDictOf (strKind prog w) kvs →
      Rds prog w Z h (kvs.map (·.2)) ds → Rd prog w Z h (.ref a) (.dict (zipKv kvs ds))
inductive Rds (prog : Program) (w : World) (Z : Addr → Prop) (h : Heap) : List Value → List PyData → Prop
  | nil : Rds prog w Z h [] []
  | cons {v : Value} {vs : List Value} {d : PyData} {ds : List PyData} : Rd prog w Z h v d → Rds prog w Z h vs ds → Rds prog w Z h (v :: vs) (d :: ds)
end

section
variable {prog : Program} {w : World} {Z Z' : Addr → Prop} {h h' : Heap} {A : Around}

mutual
/-- a reading outlives every write into Z -/
theorem Rd.keepZ (hk : ∀ b o, ¬ Z b → h.get? b = some o → h'.get? b = some o) : ∀ {v : Value} {d : PyData}, Rd prog w Z h v d → Rd prog w Z h' v d
  | _, _, .none => .none
  | _, _, .bool b => .bool b
  | _, _, .int i t => .int i t
  | _, _, .str x t e => .str x t e
  | _, _, .list e z r => .list (hk _ _ z e) z (Rds.keepZ hk r)
  | _, _, .tuple e z r => .tuple (hk _ _ z e) z (Rds.keepZ hk r)
  | _, _, .dict e z n k r => .dict (hk _ _ z e) z n k (Rds.keepZ hk r)
theorem Rds.keepZ (hk : ∀ b o, ¬ Z b → h.get? b = some o → h'.get? b = some o) : ∀ {vs : List Value} {ds : List PyData}, Rds prog w Z h vs ds → Rds prog w Z h' vs ds
  | _, _, .nil => .nil
  | _, _, .cons a b => .cons (Rd.keepZ hk a) (Rds.keepZ hk b)
end
theorem seqO_ne {c : Value} {xs : Array Value} {n : Nat} (us : Array Value) : ({ cls := c, data := .seq xs n } : Obj).data ≠ .fields us := by intro h; cases h
theorem dictO_ne {o : Obj} {kvs : List (Str × Value)} (k : o.IsDictOf (strKind prog w) kvs) (us : Array Value) : o.data ≠ .fields us := by
  obtain ⟨es, ep, _, hd, _⟩ := k
  intro q; rw [hd] at q; cases q
mutual
/-- a reading leans on no object with fields -/
theorem Rd.keepD (hk : ∀ b o, ¬ Z b → (∀ vs, o.data ≠ .fields vs) → h.get? b = some o → h'.get? b = some o) : ∀ {v : Value} {d : PyData}, Rd prog w Z h v d → Rd prog w Z h' v d
  | _, _, .none => .none
  | _, _, .bool b => .bool b
  | _, _, .int i t => .int i t
  | _, _, .str x t e => .str x t e
  | _, _, .list e z r => .list (hk _ _ z (seqO_ne ·) e) z (Rds.keepD hk r)
  | _, _, .tuple e z r => .tuple (hk _ _ z (seqO_ne ·) e) z (Rds.keepD hk r)
  | _, _, .dict e z n k r => .dict (hk _ _ z (dictO_ne k) e) z n k (Rds.keepD hk r)
theorem Rds.keepD (hk : ∀ b o, ¬ Z b → (∀ vs, o.data ≠ .fields vs) → h.get? b = some o → h'.get? b = some o) : ∀ {vs : List Value} {ds : List PyData}, Rds prog w Z h vs ds → Rds prog w Z h' vs ds
  | _, _, .nil => .nil
  | _, _, .cons a b => .cons (Rd.keepD hk a) (Rds.keepD hk b)
end
theorem listO_cls {vs : Array Value} {n : Nat} : (listO vs n).cls ≠ .type "frame" := by show Value.type "list" ≠ _; decide
theorem tupO_cls {vs : Array Value} {n : Nat} : (tupO vs n).cls ≠ .type "frame" := by show Value.type "tuple" ≠ _; decide
theorem dictO_cls {o : Obj} {kvs : List (Str × Value)} (k : o.IsDictOf (strKind prog w) kvs) : o.cls ≠ .type "frame" := by
  obtain ⟨es, ep, hx, _⟩ := k
  rw [hx.1]; decide
mutual
theorem Rd.keep (hk : Ext A h h') : ∀ {v : Value} {d : PyData}, Rd prog w Z h v d → Rd prog w Z h' v d
  | _, _, .none => .none
  | _, _, .bool b => .bool b
  | _, _, .int i t => .int i t
  | _, _, .str x t e => .str x t e
  | _, _, .list e z r => .list (hk.at e listO_cls) z (Rds.keep hk r)
  | _, _, .tuple e z r => .tuple (hk.at e tupO_cls) z (Rds.keep hk r)
  | _, _, .dict e z n k r => .dict (hk.at e (dictO_cls k)) z n k (Rds.keep hk r)
theorem Rds.keep (hk : Ext A h h') : ∀ {vs : List Value} {ds : List PyData}, Rds prog w Z h vs ds → Rds prog w Z h' vs ds
  | _, _, .nil => .nil
  | _, _, .cons a b => .cons (Rd.keep hk a) (Rds.keep hk b)
end

theorem Rd.push (o : Obj) {v : Value} {d : PyData} (r : Rd prog w Z h v d) : Rd prog w Z (h.push o) v d := r.keep (A := {}) (Ext.push o)
theorem Rds.push (o : Obj) {vs : List Value} {ds : List PyData} (r : Rds prog w Z h vs ds) : Rds prog w Z (h.push o) vs ds := r.keep (A := {}) (Ext.push o)
mutual
/-- another set of forbidden addresses, as long as it forbids nothing that stands -/
theorem Rd.reZ (hz : ∀ a o, h.get? a = some o → Z' a → Z a) : ∀ {v : Value} {d : PyData}, Rd prog w Z h v d → Rd prog w Z' h v d
  | _, _, .none => .none
  | _, _, .bool b => .bool b
  | _, _, .int i t => .int i t
  | _, _, .str x t e => .str x t e
  | _, _, .list e z r => .list e (fun q => z (hz _ _ e q)) (Rds.reZ hz r)
  | _, _, .tuple e z r => .tuple e (fun q => z (hz _ _ e q)) (Rds.reZ hz r)
  | _, _, .dict e z n k r => .dict e (fun q => z (hz _ _ e q)) n k (Rds.reZ hz r)
theorem Rds.reZ (hz : ∀ a o, h.get? a = some o → Z' a → Z a) : ∀ {vs : List Value} {ds : List PyData}, Rds prog w Z h vs ds → Rds prog w Z' h vs ds
  | _, _, .nil => .nil
  | _, _, .cons a b => .cons (Rd.reZ hz a) (Rds.reZ hz b)
end
noncomputable abbrev noZ : Addr → Prop := fun _ => False
theorem Rd.weak {v : Value} {d : PyData} (r : Rd prog w Z h v d) : Rd prog w noZ h v d := r.reZ fun _ _ _ q => q.elim
theorem Rds.weak {vs : List Value} {ds : List PyData} (r : Rds prog w Z h vs ds) : Rds prog w noZ h vs ds := r.reZ fun _ _ _ q => q.elim

noncomputable def flat : PyData → Bool
  | .none | .bool _ | .int _ | .str _ => true
  | _ => false
theorem Rd.ofFlat {v : Value} {d : PyData} (hf : flat d = true) (r : Rd prog w Z h v d) : Rd prog w Z' h' v d := by
  cases r with
  | none => exact .none
  | bool b => exact .bool b
  | int i t => exact .int i t
  | str x t e => exact .str x t e
  | list => cases hf
  | tuple => cases hf
  | dict => cases hf
theorem Rds.ofFlat {vs : List Value} {ds : List PyData} (hf : ∀ d ∈ ds, flat d = true) (r : Rds prog w Z h vs ds) : Rds prog w Z' h' vs ds := by
  induction vs generalizing ds with
  | nil => cases r; exact .nil
  | cons v vs ih =>
    cases r with
    | cons a b => exact .cons (a.ofFlat (hf _ List.mem_cons_self)) (ih (fun d hd => hf d (List.mem_cons_of_mem _ hd)) b)

theorem Rds.length {vs : List Value} {ds : List PyData} (r : Rds prog w Z h vs ds) : vs.length = ds.length := by
  induction vs generalizing ds with
  | nil => cases r; rfl
  | cons v vs ih => cases r with | cons _ b => simp [ih b]
theorem Rds.append {vs us : List Value} {ds es : List PyData} (r : Rds prog w Z h vs ds) (q : Rds prog w Z h us es) : Rds prog w Z h (vs ++ us) (ds ++ es) := by
  induction vs generalizing ds with
  | nil => cases r; exact q
  | cons v vs ih => cases r with | cons a b => exact .cons a (ih b)
theorem Rds.get {vs : List Value} {ds : List PyData} (r : Rds prog w Z h vs ds) {k : Nat} {d : PyData} (hd : ds[k]? = some d) : ∃ v, vs[k]? = some v ∧ Rd prog w Z h v d := by
  induction vs generalizing ds k with
  | nil => cases r; cases hd
  | cons v vs ih =>
    cases r with
    | cons a b =>
      cases k with
      | zero => cases hd; exact ⟨v, rfl, a⟩
      | succ k => exact ih b hd
theorem Rds.take {vs : List Value} {ds : List PyData} (r : Rds prog w Z h vs ds) (k : Nat) : Rds prog w Z h (vs.take k) (ds.take k) := by
  induction vs generalizing ds k with
  | nil => cases r; simp; exact .nil
  | cons v vs ih =>
    cases r with
    | cons a b =>
      cases k with
      | zero => exact .nil
      | succ k => exact .cons a (ih b k)
theorem Rds.drop {vs : List Value} {ds : List PyData} (r : Rds prog w Z h vs ds) (k : Nat) : Rds prog w Z h (vs.drop k) (ds.drop k) := by
  induction vs generalizing ds k with
  | nil => cases r; simp; exact .nil
  | cons v vs ih =>
    cases r with
    | cons a b =>
      cases k with
      | zero => exact .cons a b
      | succ k => exact ih b k

noncomputable def noDict : PyData → Bool
  | .dict _ => false
  | .list xs | .tuple xs => noDicts xs
  | _ => true
where noDicts : List PyData → Bool
  | [] => true
  | x :: xs => noDict x && noDicts xs

mutual
theorem Rd.reads : ∀ {v : Value} {d : PyData}, Rd prog w Z h v d → noDict d = true → ∃ as, Reads h v d as
  | _, _, .none, _ => ⟨_, .none⟩
  | _, _, .bool b, _ => ⟨_, .bool b⟩
  | _, _, .int i t, _ => ⟨_, .int i t⟩
  | _, _, .str x t _, _ => ⟨_, .str x t⟩
  | _, _, .list e _ r, n => by
    obtain ⟨as, q⟩ := Rds.reads r (by simpa [noDict] using n)
    exact ⟨_, .list e rfl rfl q⟩
  | _, _, .tuple e _ r, n => by
    obtain ⟨as, q⟩ := Rds.reads r (by simpa [noDict] using n)
    exact ⟨_, .tuple e rfl rfl q⟩
  | _, _, .dict _ _ _ _ _, n => by simp [noDict] at n
theorem Rds.reads : ∀ {vs : List Value} {ds : List PyData}, Rds prog w Z h vs ds → noDict.noDicts ds = true → ∃ as, ReadsAll h vs ds as
  | _, _, .nil, _ => ⟨_, .nil⟩
  | _, _, .cons a b, n => by
    simp only [noDict.noDicts, Bool.and_eq_true] at n
    obtain ⟨as, q⟩ := Rd.reads a n.1
    obtain ⟨bs, q'⟩ := Rds.reads b n.2
    exact ⟨_, .cons q q'⟩
end
mutual
theorem Rd.canLay0 : ∀ {v : Value} {d : PyData}, Rd prog w Z h v d → noDict d = true → d.canLay0 = true
  | _, _, .none, _ => by simp [PyData.canLay0]
  | _, _, .bool b, _ => by simp [PyData.canLay0]
  | _, _, .int i t, _ => by simp [PyData.canLay0]
  | _, _, .str x t e, _ => by simpa [PyData.canLay0] using e
  | _, _, .list e _ r, n => by simpa [PyData.canLay0] using Rds.canLay0 r (by simpa [noDict] using n)
  | _, _, .tuple e _ r, n => by simpa [PyData.canLay0] using Rds.canLay0 r (by simpa [noDict] using n)
  | _, _, .dict _ _ _ _ _, n => by simp [noDict] at n
theorem Rds.canLay0 : ∀ {vs : List Value} {ds : List PyData}, Rds prog w Z h vs ds → noDict.noDicts ds = true → PyData.canLayAll0 ds = true
  | _, _, .nil, _ => by simp [PyData.canLayAll0]
  | _, _, .cons a b, n => by
    simp only [noDict.noDicts, Bool.and_eq_true] at n
    simp [PyData.canLayAll0, Rd.canLay0 a n.1, Rds.canLay0 b n.2]
end
end
end

section
set_option autoImplicit false
set_option linter.unusedVariables false
open PySem

structure Kp (A : Around) (s s' : Shared) : Prop where
  same : ∃ h' tk, s' = { s with heap := h', toks := tk }
  ext : Ext A s.heap s'.heap
theorem Kp.refl {A : Around} (s : Shared) : Kp A s s := ⟨⟨s.heap, s.toks, rfl⟩, Ext.refl _⟩
theorem Kp.trans {A : Around} {s₁ s₂ s₃ : Shared} (x : Kp A s₁ s₂) (y : Kp A s₂ s₃) : Kp A s₁ s₃ := by
  refine ⟨?_, x.ext.trans y.ext⟩
  obtain ⟨h, t, rfl⟩ := x.same
  obtain ⟨h', t', rfl⟩ := y.same
  exact ⟨h', t', rfl⟩
theorem Kp.tok {A : Around} (s : Shared) (t : Nat) : Kp A s { s with toks := t } := ⟨⟨s.heap, t, rfl⟩, Ext.refl _⟩
theorem Kp.of {A : Around} {s : Shared} {h : Heap} (t : Nat) (k : Ext A s.heap h) : Kp A s { s with heap := h, toks := t } := ⟨⟨h, t, rfl⟩, k⟩
theorem Kp.of' {A : Around} {s : Shared} {h : Heap} (k : Ext A s.heap h) : Kp A s { s with heap := h } := ⟨⟨h, s.toks, rfl⟩, k⟩
theorem Kp.push {A : Around} (s : Shared) (o : Obj) : Kp A s { s with heap := s.heap.push o } := ⟨⟨_, s.toks, rfl⟩, Ext.push o⟩
structure Cx where
  prog : Program
  w : World
  mg : Str → Option Value
  mb : Str → Option Value
  K : List (Addr × Obj)

noncomputable abbrev Cx.M (C : Cx) : Model := model C.prog C.w

structure Base (C : Cx) (h : Heap) : Prop where
  g : h.Ns mainGlobals C.mg
  b : h.Ns builtinsNs C.mb
  lim : h.NoLimit
  dig : ∃ mc, h.Ns cStatics mc ∧ mc "sys.int_max_str_digits" = none
  k : ∀ a o, C.K.lookup a = some o → h.get? a = some o
  kf : ∀ a o, C.K.lookup a = some o → o.cls ≠ .type "frame"

theorem Base.keep {A : Around} {C : Cx} {h h' : Heap} (B : Base C h) (k : Ext A h h') : Base C h' where
  g := k.ns B.g
  b := k.ns B.b
  lim := k.noLimit B.lim
  dig := let ⟨mc, a, b⟩ := B.dig; ⟨mc, k.ns a, b⟩
  k := fun a o e => k.at (B.k a o e) (B.kf a o e)
  kf := B.kf

noncomputable def FrOk (A : Around) (h : Heap) : Prop := ∃ l, A.frames = some l ∧ ∀ env ∈ l, env.scope.kind ≠ .module ∧ ∃ L o, env.frame = some L ∧ h.get? L = some o ∧ o.cls = .type "frame" ∧ ∃ es ep, o.data = .dict es ep
theorem FrOk.keep {A A' : Around} {h h' : Heap} (x : FrOk A h) (k : Ext A' h h') : FrOk A h' := by
  obtain ⟨l, hl, hx⟩ := x
  refine ⟨l, hl, fun env he => ?_⟩
  obtain ⟨h1, L, o, h2, h3, h4, es, ep, h5⟩ := hx env he
  obtain ⟨o', q1, q2, q3⟩ := k.stays h3
  exact ⟨h1, L, o', h2, q1, q3.trans h4, es, ep, q2.trans h5⟩

theorem FrOk.mut {A : Around} {h h' : Heap} {a : Addr} (x : FrOk A h) (k : ∀ b o, b ≠ a → h.get? b = some o → h'.get? b = some o)
    (hc : ∀ o es ep, h.get? a = some o → o.data = .dict es ep → ∃ o', h'.get? a = some o' ∧ o'.cls = o.cls ∧ ∃ es ep, o'.data = .dict es ep) : FrOk A h' := by
  obtain ⟨l, hl, hx⟩ := x
  refine ⟨l, hl, fun env he => ?_⟩
  obtain ⟨h1, L, o, h2, h3, h4, es, ep, h5⟩ := hx env he
  by_cases hL : L = a
  · subst hL
    obtain ⟨o', q1, q2, q3⟩ := hc o es ep h3 h5
    exact ⟨h1, L, o', h2, q1, q2.trans h4, q3⟩
  · exact ⟨h1, L, o, h2, k L o hL h3, h4, es, ep, h5⟩

structure OkA (A : Around) (k : Nat) : Prop where
  hd : A.handled = none
  dp : A.depth + k < recursionLimit
  un : A.units + 4 * k + 200 < cLine
theorem OkA.mono {A : Around} {k j : Nat} (x : OkA A k) (h : j ≤ k) : OkA A j := ⟨x.hd, by have := x.dp; omega, by have := x.un; omega⟩
theorem OkA.deeper {A : Around} {k : Nat} (x : OkA A (k + 1)) (env : Env) : OkA (A.deeper env) k :=
  ⟨x.hd, by have := x.dp; show A.depth + 1 + k < _; omega, by have := x.un; show A.units + 3 + 4 * k + 200 < _; omega⟩

structure Vars (env : Env) (h : Heap) (m : Str → Option Value) : Prop where
  loc : ∃ ml, h.Ns env.locals ml ∧ ∀ x, env.kindOf x = some .local → ml x = m x
  cel : ∀ x c, env.cells.lookup x = some c → h.IsCell c (m x)
  hid : ∀ v, m ".acc" = some v → v = .ref (env.locals - 1)
theorem Vars.keep {A : Around} {env : Env} {h h' : Heap} {m : Str → Option Value} (V : Vars env h m) (k : Ext A h h') : Vars env h' m where
  loc := let ⟨ml, a, b⟩ := V.loc; ⟨ml, k.ns a, b⟩
  cel := fun x c e => k.cell (V.cel x c e)
  hid := V.hid

inductive Ent where
  | fz (d : PyData)
  | bor (d : PyData)
  | own (ds : List PyData)
  | any

noncomputable abbrev Tab := List (Str × Ent)

structure Zok (C : Cx) (Z : Addr → Prop) (h : Heap) : Prop where
  st : ∀ a, Z a → ∃ o, h.get? a = some o
  k : ∀ a, Z a → C.K.lookup a = none
theorem Zok.keep {A : Around} {C : Cx} {Z : Addr → Prop} {h h' : Heap} (x : Zok C Z h) (k : Ext A h h') : Zok C Z h' := ⟨fun a z => let ⟨o, e⟩ := x.st a z; let ⟨o', e', _⟩ := k.stays e; ⟨o', e'⟩, x.k⟩
theorem Zok.fresh {C : Cx} {Z : Addr → Prop} {h : Heap} (x : Zok C Z h) : ¬ Z h.objs.size := fun q => by
  obtain ⟨o, e⟩ := x.st _ q; exact absurd (Heap.lt_size e) (Nat.lt_irrefl _)

noncomputable def EntOk (C : Cx) (Z₀ Z : Addr → Prop) (h : Heap) : Option Value → Ent → Prop
  | some v, .fz d => Rd C.prog C.w Z h v d
  | some v, .bor d => Rd C.prog C.w (fun a => Z a ∧ ¬ Z₀ a) h v d
  | some v, .own ds => ∃ a vs n, v = .ref a ∧ h.get? a = some (listO vs n) ∧ Z a ∧ Rds C.prog C.w Z h vs.toList ds
  | some _, .any => True
  | none, _ => False

theorem EntOk.keep {A : Around} {C : Cx} {Z₀ Z : Addr → Prop} {h h' : Heap} {v : Option Value} {e : Ent} (x : EntOk C Z₀ Z h v e) (k : Ext A h h') : EntOk C Z₀ Z h' v e := by
  cases v with
  | none => exact x
  | some v =>
    cases e with
    | fz d => exact Rd.keep k x
    | bor d => exact Rd.keep k x
    | own ds => obtain ⟨a, vs, n, rfl, e, z, r⟩ := x; exact ⟨a, vs, n, rfl, k.at e listO_cls, z, r.keep k⟩
    | any => trivial

structure FnEnv (env : Env) : Prop where
  kind : env.scope.kind = .function
  glob : env.globals = mainGlobals
  blt : env.builtins = builtinsNs
  acc : env.kindOf ".acc" = none

structure In (C : Cx) (A : Around) (env : Env) (Z₀ Z : Addr → Prop) (Γ : Tab) (m : Str → Option Value) (h : Heap) : Prop where
  fn : FnEnv env
  vars : Vars env h m
  ents : ∀ x e, Γ.lookup x = some e → EntOk C Z₀ Z h (m x) e
  base : Base C h
  z : Zok C Z h
  fr : FrOk A h
  zc : ∀ x c, env.cells.lookup x = some c → Z c
  cd : ∀ x y c, env.cells.lookup x = some c → env.cells.lookup y = some c → x = y
theorem In.keep {C : Cx} {A : Around} {env : Env} {Z₀ Z : Addr → Prop} {Γ : Tab} {m : Str → Option Value} {h h' : Heap} (I : In C A env Z₀ Z Γ m h) (k : Ext A h h') : In C A env Z₀ Z Γ m h' :=
  ⟨I.fn, I.vars.keep k, fun x e l => (I.ents x e l).keep k, I.base.keep k, I.z.keep k, I.fr.keep k, I.zc, I.cd⟩

noncomputable def sel (μ : Bool) (Z : Addr → Prop) : Addr → Prop := if μ then Z else noZ
theorem Rd.sel {C : Cx} {Z : Addr → Prop} {h : Heap} {v : Value} {d : PyData} (μ : Bool) (r : Rd C.prog C.w Z h v d) : Rd C.prog C.w (sel μ Z) h v d := by
  cases μ with
  | true => exact r
  | false => exact r.weak

theorem In.sel {C : Cx} {A : Around} {env : Env} {Z₀ Z : Addr → Prop} {Γ : Tab} {m : Str → Option Value} {h : Heap} (I : In C A env Z₀ Z Γ m h) (μ : Bool) : ¬ Mine.sel μ Z h.objs.size := by
  intro q
  cases μ with
  | true => exact I.z.fresh q
  | false => exact q

noncomputable def Ev (C : Cx) (A : Around) (env : Env) (Γ : Tab) (e : Expr) (μ : Bool) (d : PyData) : Prop :=
  ∀ E s m Z₀ Z, In C A env Z₀ Z Γ m s.heap → wpAny C.M A (eval e env) (fun v s' => Kp A s s' ∧ Rd C.prog C.w (sel μ Z) s'.heap v d) E s
noncomputable def Cd (C : Cx) (A : Around) (env : Env) (Γ : Tab) (e : Expr) (b : Bool) : Prop :=
  ∀ E s m Z₀ Z, In C A env Z₀ Z Γ m s.heap → wpAny C.M A (isTrue e env (eval e env)) (fun r s' => Kp A s s' ∧ r = b) E s

section
variable {C : Cx} {A : Around} {env : Env} {Γ : Tab} {e e₁ e₂ : Expr} {μ μ₁ μ₂ : Bool} {d d₁ d₂ : PyData}

theorem Ev.weak (h : Ev C A env Γ e true d) : Ev C A env Γ e μ d := fun E s m Z₀ Z I =>
  wpAny_mono (h E s m Z₀ Z I) (fun _ _ ⟨k, r⟩ => ⟨k, Rd.sel μ r⟩) fun _ _ x => x
theorem Ev.ofFlat (h : Ev C A env Γ e μ₁ d) (hf : flat d = true) : Ev C A env Γ e μ d := fun E s m Z₀ Z I =>
  wpAny_mono (h E s m Z₀ Z I) (fun _ _ ⟨k, r⟩ => ⟨k, r.ofFlat hf⟩) fun _ _ x => x

theorem Ev.go (h : Ev C A env Γ e μ d) {E : Value → Shared → Prop} {s : Shared} {m : Str → Option Value} {Z₀ Z : Addr → Prop} (I : In C A env Z₀ Z Γ m s.heap) {Q : Value → Shared → Prop}
    (k : ∀ v s', Kp A s s' → In C A env Z₀ Z Γ m s'.heap → Rd C.prog C.w (sel μ Z) s'.heap v d → Q v s') : wpAny C.M A (eval e env) Q E s :=
  wpAny_mono (h E s m Z₀ Z I) (fun v s' ⟨x, r⟩ => k v s' x (I.keep x.ext) r) fun _ _ x => x
theorem Ev.go2 (h₁ : Ev C A env Γ e₁ μ₁ d₁) (h₂ : Ev C A env Γ e₂ μ₂ d₂) {E : Value → Shared → Prop} {s : Shared} {m : Str → Option Value} {Z₀ Z : Addr → Prop} (I : In C A env Z₀ Z Γ m s.heap) {Q : Value → Value → Shared → Prop}
    (k : ∀ v₁ v₂ s', Kp A s s' → In C A env Z₀ Z Γ m s'.heap → Rd C.prog C.w (sel μ₁ Z) s'.heap v₁ d₁ → Rd C.prog C.w (sel μ₂ Z) s'.heap v₂ d₂ → Q v₁ v₂ s') :
    wpAny C.M A (eval e₁ env) (fun v₁ s₁ => wpAny C.M A (eval e₂ env) (fun v₂ s₂ => Q v₁ v₂ s₂) E s₁) E s :=
  h₁.go I fun v₁ s₁ k₁ I₁ r₁ => h₂.go I₁ fun v₂ s₂ k₂ I₂ r₂ => k v₁ v₂ s₂ (k₁.trans k₂) I₂ (r₁.keep k₂.ext) r₂

theorem ev_int (i : Int) {k : Nat} {pos : Pos} : Ev C A env Γ (.Constant (.int i) k pos) μ (.int i) := fun _ s _ _ _ _ =>
  wpAny_Constant_int ⟨Kp.tok s _, .int i _⟩
theorem ev_str (x : Str) {k : Nat} {pos : Pos} (hx : PyData.strOk x = true) : Ev C A env Γ (.Constant (.str x) k pos) μ (.str x) := fun _ s _ _ _ _ _ _ _ =>
  ⟨Kp.tok s _, .str x _ hx⟩
theorem ev_bool (b : Bool) {k : Nat} {pos : Pos} : Ev C A env Γ (.Constant (.bool b) k pos) μ (.bool b) := fun _ s _ _ _ _ _ _ _ => ⟨Kp.refl s, .bool b⟩
theorem ev_none {k : Nat} {pos : Pos} : Ev C A env Γ (.Constant .none k pos) μ .none := fun _ s _ _ _ _ _ _ _ => ⟨Kp.refl s, .none⟩

theorem loadVar {s : Shared} {m : Str → Option Value} {Z₀ Z : Addr → Prop} {x : Str} {v : Value} {pos : Pos} {E : Value → Shared → Prop} {Q : Value → Shared → Prop} (I : In C A env Z₀ Z Γ m s.heap)
    (hk : (env.kindOf x = some .local) ∨ ((env.kindOf x = some .cell ∨ env.kindOf x = some .free) ∧ (env.cells.lookup x).isSome = true)) (hv : m x = some v) (h : Q v s) (hd : (x == ("__debug__" : Str)) = false) (hc : (x == ("__classdict__" : Str)) = false) :
    wpAny C.M A (eval (.Name x pos) env) Q E s := by
  rcases hk with hk | ⟨hk, hs⟩
  · obtain ⟨ml, hn, hm⟩ := I.vars.loc
    exact wpAny_Name (wpAny_loadName_local I.fn.kind hk hn ((hm x hk).trans hv) h) hd
  · obtain ⟨c, hs⟩ := Option.isSome_iff_exists.mp hs
    have hcell := I.vars.cel x c hs
    rw [hv] at hcell
    rcases hk with hk | hk
    · exact wpAny_Name (wpAny_loadName_cell I.fn.kind hk hs hcell h) hd
    · exact wpAny_Name (wpAny_loadName_free I.fn.kind hk hs hcell h hc) hd

noncomputable def isVar (env : Env) (x : Str) : Bool :=
  (match env.kindOf x with | some .local => true | some .cell | some .free => (env.cells.lookup x).isSome | _ => false) && !(x == ("__debug__" : Str)) && !(x == ("__classdict__" : Str))
theorem isVar_spec {x : Str} (h : isVar env x = true) : ((env.kindOf x = some .local) ∨ ((env.kindOf x = some .cell ∨ env.kindOf x = some .free) ∧ (env.cells.lookup x).isSome = true)) ∧ (x == ("__debug__" : Str)) = false ∧ (x == ("__classdict__" : Str)) = false := by
  unfold isVar at h
  simp only [Bool.and_eq_true, Bool.not_eq_true'] at h
  refine ⟨?_, h.1.2, h.2⟩
  have := h.1.1
  split at this
  · rename_i e; exact .inl e
  · rename_i e; exact .inr ⟨.inl e, this⟩
  · rename_i e; exact .inr ⟨.inr e, this⟩
  · cases this

theorem ev_var {x : Str} {pos : Pos} {d : PyData} (hx : isVar env x = true) (hl : Γ.lookup x = some (.fz d)) : Ev C A env Γ (.Name x pos) μ d := fun E s m Z₀ Z I => by
  obtain ⟨h1, h2, h3⟩ := isVar_spec hx
  have := I.ents x _ hl
  cases hv : m x with
  | none => rw [hv] at this; exact this.elim
  | some v => rw [hv] at this; exact loadVar I h1 hv ⟨Kp.refl s, Rd.sel μ this⟩ h2 h3
theorem ev_bor {x : Str} {pos : Pos} {d : PyData} (hx : isVar env x = true) (hl : Γ.lookup x = some (.bor d)) : Ev C A env Γ (.Name x pos) false d := fun E s m Z₀ Z I => by
  obtain ⟨h1, h2, h3⟩ := isVar_spec hx
  have := I.ents x _ hl
  cases hv : m x with
  | none => rw [hv] at this; exact this.elim
  | some v => rw [hv] at this; exact loadVar I h1 hv ⟨Kp.refl s, Rd.weak this⟩ h2 h3
theorem ev_own {x : Str} {pos : Pos} {ds : List PyData} (hx : isVar env x = true) (hl : Γ.lookup x = some (.own ds)) : Ev C A env Γ (.Name x pos) false (.list ds) := fun E s m Z₀ Z I => by
  obtain ⟨h1, h2, h3⟩ := isVar_spec hx
  have := I.ents x _ hl
  cases hv : m x with
  | none => rw [hv] at this; exact this.elim
  | some v =>
    rw [hv] at this
    obtain ⟨a, vs, n, rfl, e, z, r⟩ := this
    exact loadVar I h1 hv ⟨Kp.refl s, .list e (fun q => q) r.weak⟩ h2 h3
end
end

section
set_option autoImplicit false
set_option linter.unusedVariables false
open PySem PyProof.Rows

section
variable {C : Cx} {A : Around} {env : Env} {Γ : Tab} {e e₁ e₂ : Expr} {μ μ₁ μ₂ : Bool} {d d₁ d₂ : PyData}

noncomputable def addD : PyData → PyData → Option PyData
  | .int a, .int b => some (.int (a + b))
  | .str x, .str y => some (.str (x ++ y))
  | .list xs, .list ys => some (.list (xs ++ ys))
  | _, _ => none
noncomputable def addOk : PyData → PyData → Prop
  | .str x, .str y => x.length + y.length ≤ sizeLine
  | .list xs, .list ys => xs.length + ys.length ≤ sizeLine
  | _, _ => True

theorem strOk_append {x y : Str} (hx : PyData.strOk x = true) (hy : PyData.strOk y = true) : PyData.strOk (x ++ y) = true := by
  unfold PyData.strOk at *
  rw [Str.cps_append]
  simp only [Array.all_append, hx, hy, Bool.and_self]

theorem add_op {s : Shared} {v₁ v₂ : Value} {Z : Addr → Prop} {E : Value → Shared → Prop} {Q : Value → Shared → Prop} (r₁ : Rd C.prog C.w Z s.heap v₁ d₁) (r₂ : Rd C.prog C.w Z s.heap v₂ d₂) (hd : addD d₁ d₂ = some d) (hok : addOk d₁ d₂)
    (hz : ¬ Z s.heap.objs.size) (k : ∀ v s', Kp A s s' → Rd C.prog C.w Z s'.heap v d → Q v s') : wpAny C.M A (binaryOp .Add v₁ v₂) Q E s := by
  cases r₁ with
  | int i t =>
    cases r₂ with
    | int j u => cases hd; exact PyProof.Rows.add_int (k _ _ (Kp.tok s _) (.int _ _))
    | _ => cases hd
  | str x t hx =>
    cases r₂ with
    | str y u hy => cases hd; exact PyProof.Rows.add_str (fun t' tk => k _ _ (Kp.tok s _) (.str _ _ (strOk_append hx hy))) hok
    | _ => cases hd
  | list e₁ z₁ q₁ =>
    cases r₂ with
    | list e₂ z₂ q₂ =>
      cases hd
      refine P.add_list e₁ e₂ (k _ _ (Kp.push s _) (.list (n := 0) (Heap.get?_push_size _ rfl) hz ?_)) ?_
      · rw [Array.toList_append]
        exact (q₁.append q₂).push _
      · have := q₁.length; have := q₂.length
        simp only [Array.length_toList] at *
        have h : _ + _ ≤ _ := hok
        omega
    | _ => cases hd
  | none => cases r₂ <;> cases hd
  | bool b => cases r₂ <;> cases hd
  | tuple _ _ _ => cases r₂ <;> cases hd
  | dict _ _ _ _ _ => cases r₂ <;> cases hd

theorem ev_add {pos : Pos} (h₁ : Ev C A env Γ e₁ μ d₁) (h₂ : Ev C A env Γ e₂ μ d₂) (hd : addD d₁ d₂ = some d) (hok : addOk d₁ d₂) : Ev C A env Γ (.BinOp e₁ .Add e₂ pos) μ d := fun E s m Z₀ Z I =>
  wpAny_BinOp (h₁.go2 h₂ I fun _ _ s' k I' r₁ r₂ => add_op r₁ r₂ hd hok (I'.sel μ) fun _ _ k' r => ⟨k.trans k', r⟩)
theorem ev_mod {pos : Pos} {a b : Int} (h₁ : Ev C A env Γ e₁ μ₁ (.int a)) (h₂ : Ev C A env Γ e₂ μ₂ (.int b)) (hb : b ≠ 0) : Ev C A env Γ (.BinOp e₁ .Mod e₂ pos) μ (.int (a.fmod b)) := fun E s m Z₀ Z I =>
  wpAny_BinOp (h₁.go2 h₂ I fun _ _ s' k I' r₁ r₂ => by cases r₁; cases r₂; exact mod_int' hb ⟨k.trans (Kp.tok _ _), .int _ _⟩)
theorem ev_neg {pos : Pos} {a : Int} (h : Ev C A env Γ e μ₁ (.int a)) : Ev C A env Γ (.UnaryOp .USub e pos) μ (.int (-a)) := fun E s m Z₀ Z I =>
  wpAny_UnaryOp (h.go I fun _ s' k I' r => by cases r; exact PyProof.Rows.neg_int ⟨k.trans (Kp.tok _ _), .int _ _⟩)

noncomputable def cmpD (op : CmpOp) (d₁ d₂ : PyData) : Option Bool :=
  match op, d₁, d₂ with
  | .Eq, _, _ => if noDict d₁ && noDict d₂ && decide (min d₁.depth d₂.depth ≤ 100) then some (PyData.eqv d₁ d₂) else none
  | .NotEq, _, _ => if noDict d₁ && noDict d₂ && decide (min d₁.depth d₂.depth ≤ 100) then some (!PyData.eqv d₁ d₂) else none
  | .Lt, .int a, .int b => some (decide (a < b))
  | .LtE, .int a, .int b => some (decide (a ≤ b))
  | .Gt, .int a, .int b => some (decide (b < a))
  | .GtE, .int a, .int b => some (decide (b ≤ a))
  | .In, .str y, .str x => some (!(Builtin.Str.occurrences x y 0 x.length 1).isEmpty)
  | .NotIn, .str y, .str x => some (!!(Builtin.Str.occurrences x y 0 x.length 1).isEmpty)
  | .In, x, .list xs => if noDict x && noDict (.list xs) && decide (min (PyData.depthAll xs) x.depth ≤ 100) then some (xs.any fun y => PyData.eqv y x) else none
  | .NotIn, x, .list xs => if noDict x && noDict (.list xs) && decide (min (PyData.depthAll xs) x.depth ≤ 100) then some (!xs.any fun y => PyData.eqv y x) else none
  | .In, x, .tuple xs => if noDict x && noDict (.tuple xs) && decide (min (PyData.depthAll xs) x.depth ≤ 100) then some (xs.any fun y => PyData.eqv y x) else none
  | .NotIn, x, .tuple xs => if noDict x && noDict (.tuple xs) && decide (min (PyData.depthAll xs) x.depth ≤ 100) then some (!xs.any fun y => PyData.eqv y x) else none
  | _, _, _ => none

theorem canLay_items {xs : List PyData} (h : (PyData.list xs).canLay0 = true) : PyData.canLayAll0 xs = true := by simpa [PyData.canLay0] using h
theorem canLay_itemsT {xs : List PyData} (h : (PyData.tuple xs).canLay0 = true) : PyData.canLayAll0 xs = true := by simpa [PyData.canLay0] using h

theorem cmp_op {op : CmpOp} {s : Shared} {v₁ v₂ : Value} {Z₁ Z₂ : Addr → Prop} {E : Value → Shared → Prop} {Q : Value → Shared → Prop} {b : Bool} (hu : A.units + 200 < cLine) (r₁ : Rd C.prog C.w Z₁ s.heap v₁ d₁) (r₂ : Rd C.prog C.w Z₂ s.heap v₂ d₂)
    (hd : cmpD op d₁ d₂ = some b) (k : Q (.bool b) s) : wpAny C.M A (compareOp op v₁ v₂) Q E s := by
  unfold cmpD at hd
  split at hd
  · split at hd
    · rename_i hc
      simp only [Bool.and_eq_true, decide_eq_true_eq] at hc
      obtain ⟨as, q₁⟩ := r₁.reads hc.1.1
      obtain ⟨bs, q₂⟩ := r₂.reads hc.1.2
      cases hd
      exact SeqAt.compareEq_reads q₁ q₂ (r₁.canLay0 hc.1.1) (r₂.canLay0 hc.1.2) (by have := hc.2; omega) k
    · cases hd
  · split at hd
    · rename_i hc
      simp only [Bool.and_eq_true, decide_eq_true_eq] at hc
      obtain ⟨as, q₁⟩ := r₁.reads hc.1.1
      obtain ⟨bs, q₂⟩ := r₂.reads hc.1.2
      cases hd
      exact SeqAt.compareNe_reads q₁ q₂ (r₁.canLay0 hc.1.1) (r₂.canLay0 hc.1.2) (by have := hc.2; omega) k
    · cases hd
  · cases r₁; cases r₂; cases hd; exact PyProof.Rows.lt_int k
  · cases r₁; cases r₂; cases hd; exact PyProof.Rows.le_int k
  · cases r₁; cases r₂; cases hd; exact PyProof.Rows.gt_int k
  · cases r₁; cases r₂; cases hd; exact PyProof.Rows.ge_int k
  · cases r₁; cases r₂; cases hd; exact PyProof.Rows.in_str k
  · cases r₁; cases r₂; cases hd; exact PyProof.Rows.notIn_str k
  · split at hd
    · rename_i hc
      simp only [Bool.and_eq_true, decide_eq_true_eq] at hc
      obtain ⟨as, q₁⟩ := r₁.reads hc.1.1
      obtain ⟨bs, q₂⟩ := r₂.reads hc.1.2
      cases hd
      exact SeqAt.in_list_reads q₂ q₁ (canLay_items (r₂.canLay0 hc.1.2)) (r₁.canLay0 hc.1.1) (by have := hc.2; omega) k
    · cases hd
  · split at hd
    · rename_i hc
      simp only [Bool.and_eq_true, decide_eq_true_eq] at hc
      obtain ⟨as, q₁⟩ := r₁.reads hc.1.1
      obtain ⟨bs, q₂⟩ := r₂.reads hc.1.2
      cases hd
      exact SeqAt.notIn_list_reads q₂ q₁ (canLay_items (r₂.canLay0 hc.1.2)) (r₁.canLay0 hc.1.1) (by have := hc.2; omega) k
    · cases hd
  · split at hd
    · rename_i hc
      simp only [Bool.and_eq_true, decide_eq_true_eq] at hc
      obtain ⟨as, q₁⟩ := r₁.reads hc.1.1
      obtain ⟨bs, q₂⟩ := r₂.reads hc.1.2
      cases hd
      exact SeqAt.in_tuple_reads q₂ q₁ (canLay_itemsT (r₂.canLay0 hc.1.2)) (r₁.canLay0 hc.1.1) (by have := hc.2; omega) k
    · cases hd
  · split at hd
    · rename_i hc
      simp only [Bool.and_eq_true, decide_eq_true_eq] at hc
      obtain ⟨as, q₁⟩ := r₁.reads hc.1.1
      obtain ⟨bs, q₂⟩ := r₂.reads hc.1.2
      cases hd
      exact SeqAt.notIn_tuple_reads q₂ q₁ (canLay_itemsT (r₂.canLay0 hc.1.2)) (r₁.canLay0 hc.1.1) (by have := hc.2; omega) k
    · cases hd
  · cases hd

theorem ev_cmp {n : Nat} {op : CmpOp} {pos : Pos} {b : Bool} (hA : OkA A n) (h₁ : Ev C A env Γ e₁ μ₁ d₁) (h₂ : Ev C A env Γ e₂ μ₂ d₂) (hd : cmpD op d₁ d₂ = some b) (hm : behindInMarks op e₂ = false) : Ev C A env Γ (.Compare e₁ [op] [e₂] pos) μ (.bool b) := fun E s m Z₀ Z I =>
  wpAny_Compare1 (h₁.go2 h₂ I fun _ _ s' k I' r₁ r₂ => cmp_op (by have := hA.un; omega) r₁ r₂ hd ⟨k, .bool b⟩) hm
theorem cd_cmp {n : Nat} {op : CmpOp} {pos : Pos} {b : Bool} (hA : OkA A n) (h₁ : Ev C A env Γ e₁ μ₁ d₁) (h₂ : Ev C A env Γ e₂ μ₂ d₂) (hd : cmpD op d₁ d₂ = some b) (hm : behindInMarks op e₂ = false) : Cd C A env Γ (.Compare e₁ [op] [e₂] pos) b := fun E s m Z₀ Z I =>
  wpAny_isTrue_Compare1 (h₁.go2 h₂ I fun _ _ s' k I' r₁ r₂ => cmp_op (by have := hA.un; omega) r₁ r₂ hd (wpAny_truthy_bool ⟨k, rfl⟩)) hm

theorem Cd.go {b : Bool} (h : Cd C A env Γ e b) {E : Value → Shared → Prop} {s : Shared} {m : Str → Option Value} {Z₀ Z : Addr → Prop} (I : In C A env Z₀ Z Γ m s.heap) {Q : Bool → Shared → Prop}
    (k : ∀ s', Kp A s s' → In C A env Z₀ Z Γ m s'.heap → Q b s') : wpAny C.M A (isTrue e env (eval e env)) Q E s :=
  wpAny_mono (h E s m Z₀ Z I) (fun v s' ⟨x, r⟩ => r ▸ k s' x (I.keep x.ext)) fun _ _ x => x
theorem cd_not {pos : Pos} {b : Bool} (h : Cd C A env Γ e b) : Cd C A env Γ (.UnaryOp .Not e pos) (!b) := fun E s m Z₀ Z I => isTrue_not (h.go I fun s' k _ => ⟨k, rfl⟩)
theorem cd_and0 {pos : Pos} : Cd C A env Γ (.BoolOp .And [] pos) true := fun E s m Z₀ Z I => isTrue_and_nil ⟨Kp.refl s, rfl⟩
theorem cd_or0 {pos : Pos} : Cd C A env Γ (.BoolOp .Or [] pos) false := fun E s m Z₀ Z I => isTrue_or_nil ⟨Kp.refl s, rfl⟩
theorem cd_and {pos : Pos} {rest : List Expr} {a b : Bool} (h : Cd C A env Γ e a) (h' : a = true → Cd C A env Γ (.BoolOp .And rest pos) b) : Cd C A env Γ (.BoolOp .And (e :: rest) pos) (a && b) := fun E s m Z₀ Z I =>
  isTrue_and (h.go I fun s' k I' => by
    cases a with
    | false => exact ⟨k, rfl⟩
    | true => exact (h' rfl).go I' fun s'' k' _ => ⟨k.trans k', rfl⟩)
theorem cd_or {pos : Pos} {rest : List Expr} {a b : Bool} (h : Cd C A env Γ e a) (h' : a = false → Cd C A env Γ (.BoolOp .Or rest pos) b) : Cd C A env Γ (.BoolOp .Or (e :: rest) pos) (a || b) := fun E s m Z₀ Z I =>
  isTrue_or (h.go I fun s' k I' => by
    cases a with
    | true => exact ⟨k, rfl⟩
    | false => exact (h' rfl).go I' fun s'' k' _ => ⟨k.trans k', rfl⟩)
theorem cd_bool {b : Bool} (h : Ev C A env Γ e μ (.bool b)) (he : ∀ whole : Sem Value, isTrue e env whole = (do let v ← whole; standAt e.pos; holding [v] (truthy v))) : Cd C A env Γ e b := fun E s m Z₀ Z I =>
  isTrue_plain (h.go I fun v s' k I' r => by cases r; exact wpAny_truthy_bool ⟨k, rfl⟩) (he _)

noncomputable def notStar : Expr → Bool
  | .Starred _ _ => false
  | _ => true
noncomputable def Evs (C : Cx) (A : Around) (env : Env) (Γ : Tab) (es : List Expr) (μ : Bool) (ds : List PyData) : Prop :=
  ∀ E s m Z₀ Z (pos : Pos), In C A env Z₀ Z Γ m s.heap → wpAny C.M A (spliced (backTo pos (starEach es env))) (fun vs s' => Kp A s s' ∧ Rds C.prog C.w (sel μ Z) s'.heap vs ds) E s
theorem starEach_cons {es : List Expr} (h : notStar e = true) : starEach (e :: es) env = (false, eval e env) :: starEach es env := by
  cases e <;> first | rfl | cases h
theorem evs_nil : Evs C A env Γ [] μ [] := fun E s m Z₀ Z pos I => Calls.spliced_nil ⟨Kp.refl s, .nil⟩
theorem evs_cons {es : List Expr} {ds : List PyData} (h : Ev C A env Γ e μ d) (hs : Evs C A env Γ es μ ds) (hn : notStar e = true) : Evs C A env Γ (e :: es) μ (d :: ds) := fun E s m Z₀ Z pos I => by
  rw [starEach_cons hn]
  exact Calls.spliced_cons (h.go I fun v s' k I' r => wpAny_mono (hs E s' m Z₀ Z pos I') (fun vs s'' ⟨k', r'⟩ => ⟨k.trans k', .cons (r.keep k'.ext) r'⟩) fun _ _ x => x)
theorem Evs.go {es : List Expr} {ds : List PyData} (h : Evs C A env Γ es μ ds) {E : Value → Shared → Prop} {s : Shared} {m : Str → Option Value} {Z₀ Z : Addr → Prop} {pos : Pos} (I : In C A env Z₀ Z Γ m s.heap) {Q : List Value → Shared → Prop}
    (k : ∀ vs s', Kp A s s' → In C A env Z₀ Z Γ m s'.heap → Rds C.prog C.w (sel μ Z) s'.heap vs ds → Q vs s') : wpAny C.M A (spliced (backTo pos (starEach es env))) Q E s :=
  wpAny_mono (h E s m Z₀ Z pos I) (fun v s' ⟨x, r⟩ => k v s' x (I.keep x.ext) r) fun _ _ x => x

theorem ev_list {es : List Expr} {ds : List PyData} {pos : Pos} (h : Evs C A env Γ es μ ds) (hz : ds.length ≤ sizeLine) : Ev C A env Γ (.List es pos) μ (.list ds) := fun E s m Z₀ Z I =>
  List_ (h.go I fun vs s' k I' r => wpAny_newList ⟨k.trans (Kp.push _ _), .list (n := 0) (Heap.get?_push_size _ rfl) (I'.sel μ) (by simpa using r.push _)⟩ (by rw [r.length]; exact hz))
theorem ev_tuple {es : List Expr} {ds : List PyData} {k : Nat} {pos : Pos} (h : Evs C A env Γ es μ ds) (hz : ds.length ≤ sizeLine) : Ev C A env Γ (.Tuple es k pos) μ (.tuple ds) := fun E s m Z₀ Z I =>
  Tuple_ (h.go I fun vs s' k I' r => wpAny_newTuple ⟨k.trans (Kp.push _ _), .tuple (n := 0) (Heap.get?_push_size _ rfl) (I'.sel μ) (by simpa using r.push _)⟩ (by rw [r.length]; exact hz))

theorem subscripted_ops (slice : Expr) (o i : Value) : ∃ ops, subscripted slice false o i = operate ops (getItem o i) := by
  unfold subscripted
  split
  · exact ⟨_, rfl⟩
  · rename_i _ h; cases h
  · exact ⟨_, rfl⟩
theorem item_op {value slice : Expr} {s : Shared} {v : Value} {k : Int} {t : Tok} {Z : Addr → Prop} {E : Value → Shared → Prop} {Q : Value → Shared → Prop} {ds : List PyData} (r : Rd C.prog C.w Z s.heap v d₁) (hd : d₁ = .list ds ∨ d₁ = .tuple ds)
    (h0 : 0 ≤ k) (hk : k < 2 ^ 63) (hx : ds[k.toNat]? = some d) (kk : ∀ v, Rd C.prog C.w Z s.heap v d → Q v s) : wpAny C.M A (subscriptTail value slice v (.int k t)) Q E s := by
  obtain ⟨ops, ho⟩ := subscripted_ops slice v (.int k t)
  rcases hd with rfl | rfl
  · cases r with
    | list e z q =>
      obtain ⟨x, hx', rx⟩ := q.get hx
      have hl : s.heap.IsList _ _ := ⟨_, e, rfl, _, rfl⟩
      exact tail_any hl.typeIs slot_list_getitem.lookup (wpAny_getItem_list hl h0 hk (by simpa using hx') (kk x rx)) ho
  · cases r with
    | @tuple a vs n _ e z q =>
      obtain ⟨x, hx', rx⟩ := q.get hx
      have hl : IsTup s.heap _ _ := ⟨_, e, rfl, _, rfl⟩
      have hlt : k.toNat < ds.length := by
        rcases Nat.lt_or_ge k.toNat ds.length with h | h
        · exact h
        · rw [List.getElem?_eq_none h] at hx; cases hx
      have hlen := q.length
      simp only [Array.length_toList] at hlen
      refine tail_any hl.typeIs slot_tuple_getitem.lookup (PyProof.Rows.getItem_tuple hl (by omega) hk (j := k.toNat) ?_ (by simpa using hx') (kk x rx)) ho
      unfold seqIndex?
      have h1 : ¬ k < 0 := by omega
      have h2 : k < (vs.size : Int) := by rw [hlen]; omega
      simp only [h1, if_false]
      rw [if_pos (by simp only [Bool.and_eq_true, decide_eq_true_eq]; exact ⟨h0, h2⟩)]

noncomputable def itemsD : PyData → Option (List PyData)
  | .list ds | .tuple ds => some ds
  | _ => none
theorem itemsD_spec {ds : List PyData} (h : itemsD d = some ds) : d = .list ds ∨ d = .tuple ds := by
  cases d <;> cases h <;> simp
theorem ev_item {pos : Pos} {ds : List PyData} {k : Int} (h₁ : Ev C A env Γ e₁ μ d₁) (h₂ : Ev C A env Γ e₂ μ₂ (.int k)) (hd : itemsD d₁ = some ds) (h0 : 0 ≤ k) (hk : k < 2 ^ 63) (hx : ds[k.toNat]? = some d) :
    Ev C A env Γ (.Subscript e₁ e₂ pos) μ d := fun E s m Z₀ Z I =>
  Subscript_ (h₁.go2 h₂ I fun _ _ s' kp I' r₁ r₂ => by cases r₂; exact item_op r₁ (itemsD_spec hd) h0 hk hx fun v r => ⟨kp, r⟩)
end
end

section
set_option autoImplicit false
set_option linter.unusedVariables false
open PySem PyProof.Rows

structure StW (C : Cx) (A : Around) (env : Env) (h₀ : Heap) (Z₀ : Addr → Prop) (H : List (Addr × Obj)) (V : List (Value × PyData)) (Γ : Tab) (h : Heap) (Z : Addr → Prop) (m : Str → Option Value) : Prop where
  i : In C A env Z₀ Z Γ m h
  b0 : Base C h₀
  keep : Ext A h₀ h
  z0 : ∀ a, Z₀ a → Z a ∧ ∃ o, h₀.get? a = some o
  zl : Z env.locals
  nl : h₀.get? env.locals = none
  zc : ∀ x c, env.cells.lookup x = some c → Z c
  cd : ∀ x y c, env.cells.lookup x = some c → env.cells.lookup y = some c → x = y
  hs : ∀ p ∈ H, h.get? p.1 = some p.2 ∧ ¬ Z p.1 ∧ p.2.cls ≠ .type "frame"
  vs : ∀ p ∈ V, Rd C.prog C.w Z h p.1 p.2
  ow : ∀ x ds a, Γ.lookup x = some (.own ds) → m x = some (.ref a) → h₀.get? a = none ∧ ∀ y es, Γ.lookup y = some (.own es) → m y = some (.ref a) → y = x

noncomputable def Same (s s' : Shared) : Prop := ∃ h' tk, s' = { s with heap := h', toks := tk }
theorem Same.refl (s : Shared) : Same s s := ⟨s.heap, s.toks, rfl⟩
theorem Same.trans {s₁ s₂ s₃ : Shared} (x : Same s₁ s₂) (y : Same s₂ s₃) : Same s₁ s₃ := by
  obtain ⟨h, t, rfl⟩ := x
  obtain ⟨h', t', rfl⟩ := y
  exact ⟨h', t', rfl⟩
theorem Kp.toSame {A : Around} {s s' : Shared} (k : Kp A s s') : Same s s' := k.same

noncomputable def Owned (env : Env) (h₀ : Heap) (x : Str) : Prop := ∀ c, env.cells.lookup x = some c → h₀.get? c = none
noncomputable def St (C : Cx) (A : Around) (env : Env) (s₀ : Shared) (Z₀ : Addr → Prop) (H : List (Addr × Obj)) (V : List (Value × PyData)) (Γ : Tab) (s : Shared) : Prop :=
  Same s₀ s ∧ ∃ Z m, StW C A env s₀.heap Z₀ H V Γ s.heap Z m

section
variable {C : Cx} {A : Around} {env : Env} {h₀ : Heap} {Z₀ : Addr → Prop} {H : List (Addr × Obj)} {V : List (Value × PyData)} {Γ : Tab} {h h' : Heap} {Z : Addr → Prop} {m : Str → Option Value}

theorem StW.ext (S : StW C A env h₀ Z₀ H V Γ h Z m) (k : Ext A h h') : StW C A env h₀ Z₀ H V Γ h' Z m where
  i := S.i.keep k
  b0 := S.b0
  keep := S.keep.trans k
  z0 := S.z0
  zl := S.zl
  nl := S.nl
  zc := S.zc
  cd := S.cd
  hs := fun p hp => ⟨k.at (S.hs p hp).1 (S.hs p hp).2.2, (S.hs p hp).2⟩
  vs := fun p hp => (S.vs p hp).keep k
  ow := S.ow
theorem St.ext {s₀ s s' : Shared} (S : St C A env s₀ Z₀ H V Γ s) (k : Kp A s s') : St C A env s₀ Z₀ H V Γ s' := let ⟨ss, Z, m, S⟩ := S; ⟨ss.trans k.toSame, Z, m, S.ext k.ext⟩

theorem StW.sub {Γ' : Tab} (S : StW C A env h₀ Z₀ H V Γ h Z m) (hs : ∀ x e, Γ'.lookup x = some e → Γ.lookup x = some e) : StW C A env h₀ Z₀ H V Γ' h Z m where
  i := ⟨S.i.fn, S.i.vars, fun x e l => S.i.ents x e (hs x e l), S.i.base, S.i.z, S.i.fr, S.i.zc, S.i.cd⟩
  b0 := S.b0
  keep := S.keep
  z0 := S.z0
  zl := S.zl
  nl := S.nl
  zc := S.zc
  cd := S.cd
  hs := S.hs
  vs := S.vs
  ow := fun x ds a l e => ⟨(S.ow x ds a (hs _ _ l) e).1, fun y es l' e' => (S.ow x ds a (hs _ _ l) e).2 y es (hs _ _ l') e'⟩

theorem entOk_mut {a : Addr} {v : Option Value} {e : Ent} (za : Z a) (n0 : ¬ Z₀ a) (sb : Heap.SameBut a h h') (hne : ∀ ds b, e = .own ds → v = some (.ref b) → b ≠ a) (x : EntOk C Z₀ Z h v e) : EntOk C Z₀ Z h' v e := by
  cases v with
  | none => exact x
  | some v =>
    cases e with
    | fz d => exact Rd.keepZ (fun b o nz e => (sb.2 b (by rintro rfl; exact nz za)).trans e) x
    | bor d => exact Rd.keepZ (fun b o nz e => (sb.2 b (by rintro rfl; exact nz ⟨za, n0⟩)).trans e) x
    | own ds =>
      obtain ⟨b, vs, n, rfl, e, z, r⟩ := x
      exact ⟨b, vs, n, rfl, (sb.2 b (hne ds b rfl rfl)).trans e, z, r.keepZ fun b o nz e => (sb.2 b (by rintro rfl; exact nz za)).trans e⟩
    | any => trivial

theorem lookup_cons_ne {x y : Str} {e : Ent} (hne : y ≠ x) : List.lookup y ((x, e) :: Γ) = Γ.lookup y := by
  rw [List.lookup_cons]
  have : (y == x) = false := by simpa using hne
  rw [this]
theorem lookup_cons_eq {x : Str} {e : Ent} : List.lookup x ((x, e) :: Γ) = some e := by
  rw [List.lookup_cons]; simp

noncomputable def upd (m : Str → Option Value) (x : Str) (v : Value) : Str → Option Value := fun y => if y = x then some v else m y

theorem StW.mut {a : Addr} {x : Str} {v : Value} {en : Ent} {o : Obj} (S : StW C A env h₀ Z₀ H V Γ h Z m) (za : Z a) (na : h₀.get? a = none) (sb : Heap.SameBut a h h') (ha' : h'.get? a = some o) (hfr : FrOk A h')
    (hno : ∀ y ds, y ≠ x → Γ.lookup y = some (.own ds) → m y ≠ some (.ref a))
    (hv : Vars env h' (upd m x v)) (he : EntOk C Z₀ Z h' (some v) en)
    (hown : ∀ ds, en = .own ds → ∀ b, v = .ref b → h₀.get? b = none ∧ ∀ y es, y ≠ x → Γ.lookup y = some (.own es) → m y ≠ some (.ref b)) :
    StW C A env h₀ Z₀ H V ((x, en) :: Γ) h' Z (upd m x v) := by
  have n0 : ¬ Z₀ a := fun q => by obtain ⟨_, o, e⟩ := S.z0 a q; rw [na] at e; cases e
  have kz : ∀ b o, ¬ Z b → h.get? b = some o → h'.get? b = some o := fun b o nz e => (sb.2 b (by rintro rfl; exact nz za)).trans e
  have keep' : Ext A h₀ h' := S.keep.mutOf na fun b o hb e => (sb.2 b hb).trans e
  refine ⟨⟨S.i.fn, hv, fun y e l => ?_, S.b0.keep keep', ⟨fun b z => ?_, S.i.z.k⟩, hfr, S.i.zc, S.i.cd⟩, S.b0, keep', S.z0, S.zl, S.nl, S.zc, S.cd, fun p hp => ?_, fun p hp => (S.vs p hp).keepZ kz, fun y ds b l e => ?_⟩
  · by_cases hyx : y = x
    · subst hyx
      rw [lookup_cons_eq] at l; cases l
      simp only [upd, if_true]; exact he
    · rw [lookup_cons_ne hyx] at l
      simp only [upd, if_neg hyx]
      refine entOk_mut za n0 sb (fun ds b e1 e2 e3 => ?_) (S.i.ents y e l)
      subst e1 e3
      exact hno y ds hyx l e2
  · by_cases hb : b = a
    · subst hb; exact ⟨o, ha'⟩
    · obtain ⟨o, e⟩ := S.i.z.st b z
      exact ⟨o, (sb.2 b hb).trans e⟩
  · obtain ⟨e, d⟩ := S.hs p hp
    exact ⟨(sb.2 p.1 fun (q : p.1 = a) => d.1 (by rw [q]; exact za)).trans e, d⟩
  · by_cases hyx : y = x
    · subst hyx
      rw [lookup_cons_eq] at l
      simp only [upd, if_true] at e
      cases l; cases e
      obtain ⟨q1, q2⟩ := hown ds rfl b rfl
      refine ⟨q1, fun z es l' e' => ?_⟩
      by_cases hz : z = y
      · exact hz
      · rw [lookup_cons_ne hz] at l'
        simp only [upd, if_neg hz] at e'
        exact absurd e' (q2 z es hz l')
    · rw [lookup_cons_ne hyx] at l
      simp only [upd, if_neg hyx] at e
      obtain ⟨q1, q2⟩ := S.ow y ds b l e
      refine ⟨q1, fun z es l' e' => ?_⟩
      by_cases hz : z = x
      · subst hz
        rw [lookup_cons_eq] at l'
        simp only [upd, if_true] at e'
        cases l'; cases e'
        exact absurd e ((hown es rfl b rfl).2 y ds hyx l)
      · rw [lookup_cons_ne hz] at l'
        simp only [upd, if_neg hz] at e'
        exact q2 z es l' e'

theorem vars_local {x : Str} {v : Value} {ml : Str → Option Value} (V : Vars env h m) (hk : env.kindOf x = some .local) (hc : env.cells.lookup x = none) (hn : h'.Ns env.locals ml) (hml : ∀ y, env.kindOf y = some .local → ml y = upd m x v y)
    (sb : Heap.SameBut env.locals h h') (hlc : ∀ y c, env.cells.lookup y = some c → c ≠ env.locals) (hx : x ≠ ".acc") : Vars env h' (upd m x v) where
  loc := ⟨ml, hn, hml⟩
  cel := fun y c e => by
    have hyx : y ≠ x := by rintro rfl; rw [hc] at e; cases e
    simp only [upd, if_neg hyx]
    exact (V.cel y c e).sameBut sb (hlc y c e)
  hid := fun u q => V.hid u (by simpa [upd, Ne.symm hx] using q)

noncomputable def isLoc (env : Env) (x : Str) : Bool :=
  match env.kindOf x with
  | some .local => (env.cells.lookup x).isNone
  | some .cell => (env.cells.lookup x).isSome
  | _ => false

theorem StW.storeK {E : Value → Shared → Prop} {s : Shared} {x : Str} {v : Value} {en : Ent} {Q : Unit → Shared → Prop} (S : StW C A env h₀ Z₀ H V Γ s.heap Z m) (hx : isLoc env x = true) (oc : ∀ c, env.cells.lookup x = some c → h₀.get? c = none)
    (he : ∀ h', (∀ b o, ¬ Z b ∨ (∃ vs n, o = listO vs n) → s.heap.get? b = some o → h'.get? b = some o) → EntOk C Z₀ Z h' (some v) en)
    (hown : ∀ ds, en = .own ds → ∀ b, v = .ref b → h₀.get? b = none ∧ ∀ y es, y ≠ x → Γ.lookup y = some (.own es) → m y ≠ some (.ref b))
    (k : ∀ h' tk, (∀ b o, b ≠ env.locals → (∀ c, env.cells.lookup x = some c → b ≠ c) → s.heap.get? b = some o → h'.get? b = some o) → StW C A env h₀ Z₀ H V ((x, en) :: Γ) h' Z (upd m x v) → Q () { s with heap := h', toks := tk }) : wpAny C.M A (storeName env x v) Q E s := by
  unfold isLoc at hx
  have hcl : ∀ y c, env.cells.lookup y = some c → c ≠ env.locals := fun y c e q => by
    obtain ⟨ml, hn, _⟩ := S.i.vars.loc
    obtain ⟨o, es, ep, ho, hd, _⟩ := hn
    obtain ⟨o', ho', hd'⟩ := S.i.vars.cel y c e
    rw [q, ho] at ho'; cases ho'; rw [hd] at hd'; cases hd'
  split at hx
  · rename_i hk
    have hc : env.cells.lookup x = none := by simpa using hx
    obtain ⟨ml, hn, hm⟩ := S.i.vars.loc
    rw [storeName_local hk (by rw [S.i.fn.kind]; rfl)]
    refine nsSet_cls hn fun h' hn' sb hcls => k h' _ (fun b o hb _ e => (sb.2 b hb).trans e) ?_
    obtain ⟨o, es, ep, ho, hd, _⟩ := id hn
    obtain ⟨o', es', ep', ho', hd', _⟩ := id hn'
    refine S.mut (a := env.locals) S.zl S.nl sb ho' (S.i.fr.mut (fun b o hb e => (sb.2 b hb).trans e) fun o₂ es₂ ep₂ e2 _ => by obtain ⟨o₃, q1, q2⟩ := hcls o₂ e2; rw [ho'] at q1; cases q1; exact ⟨o', ho', q2, es', ep', hd'⟩) (fun y ds hy l e => ?_) (vars_local S.i.vars hk hc hn' (fun y hy => ?_) sb hcl (by rintro rfl; rw [S.i.fn.acc] at hk; cases hk)) (he h' fun b o₂ hb e => (sb.2 b ?_).trans e) hown
    · have := S.i.ents y _ l
      rw [e] at this
      obtain ⟨b, vs, n, e1, e2, _⟩ := this
      cases e1; rw [ho] at e2; cases e2; cases hd
    · by_cases hyx : y = x
      · simp [upd, hyx]
      · simp [upd, hyx, hm y hy]
    · rintro rfl
      rcases hb with hb | ⟨vs, n, rfl⟩
      · exact hb S.zl
      · rw [ho] at e; cases e; cases hd
  · rename_i hk
    obtain ⟨c, hc⟩ := Option.isSome_iff_exists.mp hx
    have hcell := S.i.vars.cel x c hc
    have zc := S.zc x c hc
    have nc := oc c hc
    refine wpAny_storeName_cell S.i.fn.kind hk hc hcell fun h' hc' sb => k h' _ (fun b o _ hb e => (sb.2 b (hb c hc)).trans e) ?_
    obtain ⟨o, ho, hd⟩ := id hcell
    obtain ⟨o', ho', hd'⟩ := id hc'
    refine S.mut (a := c) zc nc sb ho' (S.i.fr.mut (fun b o hb e => (sb.2 b hb).trans e) fun o₂ es₂ ep₂ e2 q => by rw [ho] at e2; cases e2; rw [hd] at q; cases q) (fun y ds hy l e => ?_) ⟨?_, fun y c' e => ?_, fun u q => S.i.vars.hid u (by have hx' : x ≠ ".acc" := (by rintro rfl; rw [S.i.fn.acc] at hk; cases hk); simpa [upd, Ne.symm hx'] using q)⟩ (he h' fun b o₂ hb e => (sb.2 b ?_).trans e) hown
    · have := S.i.ents y _ l
      rw [e] at this
      obtain ⟨b, vs, n, e1, e2, _⟩ := this
      cases e1; rw [ho] at e2; cases e2; cases hd
    · obtain ⟨ml, hn, hm⟩ := S.i.vars.loc
      refine ⟨ml, hn.sameBut sb (Ne.symm (hcl x c hc)), fun y hy => ?_⟩
      have hyx : y ≠ x := by rintro rfl; rw [hk] at hy; cases hy
      simp [upd, hyx, hm y hy]
    · by_cases hyx : y = x
      · subst hyx
        rw [hc] at e; cases e
        simpa [upd] using hc'
      · simp only [upd, if_neg hyx]
        exact (S.i.vars.cel y c' e).sameBut sb fun q => hyx (S.cd y x c (q ▸ e) hc)
    · rintro rfl
      rcases hb with hb | ⟨vs, n, rfl⟩
      · exact hb zc
      · rw [ho] at e; cases e; cases hd
  · cases hx

theorem StW.store {E : Value → Shared → Prop} {s : Shared} {x : Str} {v : Value} {en : Ent} {Q : Unit → Shared → Prop} (S : StW C A env h₀ Z₀ H V Γ s.heap Z m) (hx : isLoc env x = true) (oc : ∀ c, env.cells.lookup x = some c → h₀.get? c = none)
    (he : ∀ h', (∀ b o, ¬ Z b ∨ (∃ vs n, o = listO vs n) → s.heap.get? b = some o → h'.get? b = some o) → EntOk C Z₀ Z h' (some v) en)
    (hown : ∀ ds, en = .own ds → ∀ b, v = .ref b → h₀.get? b = none ∧ ∀ y es, y ≠ x → Γ.lookup y = some (.own es) → m y ≠ some (.ref b))
    (k : ∀ h' tk, StW C A env h₀ Z₀ H V ((x, en) :: Γ) h' Z (upd m x v) → Q () { s with heap := h', toks := tk }) : wpAny C.M A (storeName env x v) Q E s :=
  S.storeK hx oc he hown fun h' tk _ S' => k h' tk S'

theorem StW.storeFz {E : Value → Shared → Prop} {s : Shared} {x : Str} {v : Value} {d : PyData} {Q : Unit → Shared → Prop} (S : StW C A env h₀ Z₀ H V Γ s.heap Z m) (hx : isLoc env x = true) (oc : ∀ c, env.cells.lookup x = some c → h₀.get? c = none) (r : Rd C.prog C.w Z s.heap v d)
    (k : ∀ h' tk, StW C A env h₀ Z₀ H V ((x, .fz d) :: Γ) h' Z (upd m x v) → Q () { s with heap := h', toks := tk }) : wpAny C.M A (storeName env x v) Q E s :=
  S.store (en := .fz d) hx oc (fun h' hk => Rd.keepZ (fun b o nz e => hk b o (.inl nz) e) r) (fun ds q => nomatch q) k

theorem StW.growE {a : Addr} {o : Obj} (S : StW C A env h₀ Z₀ H V Γ h Z m) (k : Ext A h h') (hnone : h.get? a = none) (ha : h'.get? a = some o) : StW C A env h₀ Z₀ H V Γ h' (fun b => Z b ∨ b = a) m := by
  have hz : ∀ b o, h.get? b = some o → (Z b ∨ b = a) → Z b := fun b o e q => q.elim id fun q => by rw [q, hnone] at e; cases e
  have S' := S.ext k
  refine ⟨⟨S.i.fn, S'.i.vars, fun x e l => ?_, S'.i.base, ⟨fun b q => ?_, fun b q => ?_⟩, S'.i.fr, fun x c e => .inl (S.zc x c e), S.cd⟩, S.b0, S'.keep, fun b q => ⟨.inl (S.z0 b q).1, (S.z0 b q).2⟩, .inl S.zl, S.nl, fun x c e => .inl (S.zc x c e), S.cd, fun p hp => ?_, fun p hp => ((S.vs p hp).reZ hz).keep k, S.ow⟩
  · have := S.i.ents x e l
    cases hv : m x with
    | none => rw [hv] at this; exact this
    | some v =>
      rw [hv] at this
      cases e with
      | fz d => exact (Rd.reZ hz this).keep k
      | bor d => exact (Rd.reZ (fun b o e q => ⟨hz b o e q.1, q.2⟩) this).keep k
      | own ds => obtain ⟨b, vs, n, rfl, e, z, r⟩ := this; exact ⟨b, vs, n, rfl, k.at e listO_cls, .inl z, (r.reZ hz).keep k⟩
      | any => trivial
  · rcases q with q | rfl
    · exact S'.i.z.st b q
    · exact ⟨o, ha⟩
  · rcases q with q | rfl
    · exact S.i.z.k b q
    · cases e : C.K.lookup b with
      | none => rfl
      | some o' => have := S.i.base.k _ _ e; rw [hnone] at this; cases this
  · obtain ⟨e, d⟩ := S.hs p hp
    exact ⟨k.at e d.2, fun q => d.1 (hz _ _ e q), d.2⟩

theorem StW.grow (S : StW C A env h₀ Z₀ H V Γ h Z m) (o : Obj) (hf : o.isFreed = false) : StW C A env h₀ Z₀ H V Γ (h.push o) (fun b => Z b ∨ b = h.objs.size) m :=
  S.growE (Ext.push o) (Heap.get?_none_of_le (Nat.le_refl _)) (Heap.get?_push_size _ hf)

theorem StW.freeze {x : Str} {ds : List PyData} (S : StW C A env h₀ Z₀ H V Γ h Z m) (l : Γ.lookup x = some (.own ds)) : ∃ Z', StW C A env h₀ Z₀ H V ((x, .fz (.list ds)) :: Γ) h Z' m := by
  have he := S.i.ents x _ l
  cases hv : m x with
  | none => rw [hv] at he; exact he.elim
  | some v =>
    rw [hv] at he
    obtain ⟨a, vs, n, rfl, e, z, r⟩ := he
    obtain ⟨na, uniq⟩ := S.ow x ds a l hv
    have hz : ∀ b o, h.get? b = some o → (Z b ∧ b ≠ a) → Z b := fun b o _ q => q.1
    have hla : env.locals ≠ a := by
      rintro rfl
      obtain ⟨ml, hn, _⟩ := S.i.vars.loc
      obtain ⟨o, es, ep, ho, hd, _⟩ := hn
      rw [ho] at e; cases e; cases hd
    have zc' : ∀ y c, env.cells.lookup y = some c → Z c ∧ c ≠ a := fun y c ec => ⟨S.zc y c ec, fun q => by
      subst q
      obtain ⟨o, ho, hd⟩ := S.i.vars.cel y c ec
      rw [ho] at e; cases e; cases hd⟩
    refine ⟨fun b => Z b ∧ b ≠ a, ⟨S.i.fn, S.i.vars, fun y en ly => ?_, S.i.base, ⟨fun b q => S.i.z.st b q.1, fun b q => S.i.z.k b q.1⟩, S.i.fr, zc', S.cd⟩, S.b0, S.keep, fun b q => ⟨⟨(S.z0 b q).1, fun q' => ?_⟩, (S.z0 b q).2⟩, ⟨S.zl, hla⟩, S.nl, zc', S.cd, fun p hp => ⟨(S.hs p hp).1, fun q => (S.hs p hp).2.1 q.1, (S.hs p hp).2.2⟩, fun p hp => (S.vs p hp).reZ hz, fun y es b ly eb => ?_⟩
    · by_cases hyx : y = x
      · subst hyx
        rw [lookup_cons_eq] at ly; cases ly
        rw [hv]
        exact .list e (fun q => q.2 rfl) (r.reZ hz)
      · rw [lookup_cons_ne hyx] at ly
        have := S.i.ents y en ly
        cases hvy : m y with
        | none => rw [hvy] at this; exact this
        | some v =>
          rw [hvy] at this
          cases en with
          | fz d => exact Rd.reZ hz this
          | bor d => exact Rd.reZ (fun b o e q => ⟨q.1.1, q.2⟩) this
          | own es =>
            obtain ⟨b, us, n', rfl, e', z', r'⟩ := this
            exact ⟨b, us, n', rfl, e', ⟨z', by rintro rfl; exact hyx (uniq y es ly hvy)⟩, r'.reZ hz⟩
          | any => trivial
    · subst q'
      obtain ⟨_, o, e'⟩ := S.z0 b q; rw [na] at e'; cases e'
    · by_cases hyx : y = x
      · subst hyx; rw [lookup_cons_eq] at ly; cases ly
      · rw [lookup_cons_ne hyx] at ly
        obtain ⟨q1, q2⟩ := S.ow y es b ly eb
        refine ⟨q1, fun w' fs lw ew => ?_⟩
        by_cases hwx : w' = x
        · subst hwx; rw [lookup_cons_eq] at lw; cases lw
        · rw [lookup_cons_ne hwx] at lw; exact q2 w' fs lw ew
theorem St.freeze {s₀ s : Shared} {x : Str} {ds : List PyData} (S : St C A env s₀ Z₀ H V Γ s) (l : Γ.lookup x = some (.own ds)) : St C A env s₀ Z₀ H V ((x, .fz (.list ds)) :: Γ) s := by
  obtain ⟨ss, Z, m, S⟩ := S
  obtain ⟨Z', S'⟩ := S.freeze l
  exact ⟨ss, Z', m, S'⟩

theorem upd_self {x : Str} {v : Value} (hv : m x = some v) : upd m x v = m := by
  funext y
  by_cases h : y = x
  · simp [upd, h, hv]
  · simp [upd, h]

theorem StW.append {E : Value → Shared → Prop} {s : Shared} {x : Str} {ds : List PyData} {d : PyData} {v u : Value} {Q : Value → Shared → Prop} (S : StW C A env h₀ Z₀ H V Γ s.heap Z m) (l : Γ.lookup x = some (.own ds)) (hv : m x = some v) (hsz : ds.length ≤ sizeLine)
    (r : Rd C.prog C.w Z s.heap u d) (k : ∀ a h', v = .ref a → StW C A env h₀ Z₀ H V ((x, .own (ds ++ [d])) :: Γ) h' Z m → Q .none { s with heap := h' }) :
    ∃ a items n, v = .ref a ∧ items.size ≤ sizeLine ∧ IsL s.heap a items n ∧ Q .none { s with heap := s.heap.update a (Obj.mapSeq fun xs => xs.push u) } := by
  have he := S.i.ents x _ l
  rw [hv] at he
  obtain ⟨a, vs, n, rfl, e, z, q⟩ := he
  obtain ⟨na, uniq⟩ := S.ow x ds a l hv
  have hlen := q.length
  simp only [Array.length_toList] at hlen
  refine ⟨a, vs, n, rfl, by omega, e, k a _ rfl ?_⟩
  have sb : Heap.SameBut a s.heap (s.heap.update a (Obj.mapSeq fun xs => xs.push u)) := Heap.SameBut.update ..
  have e' : (s.heap.update a (Obj.mapSeq fun xs => xs.push u)).get? a = some (listO (vs.push u) _) := IsL.update e fun xs => xs.push u
  have kz : ∀ b o, ¬ Z b → s.heap.get? b = some o → (s.heap.update a (Obj.mapSeq fun xs => xs.push u)).get? b = some o := fun b o nz e => (sb.2 b (by rintro rfl; exact nz z)).trans e
  have hv' : Vars env (s.heap.update a (Obj.mapSeq fun xs => xs.push u)) m := by
    refine ⟨?_, fun y c ec => ?_, S.i.vars.hid⟩
    · obtain ⟨ml, hn, hm⟩ := S.i.vars.loc
      refine ⟨ml, hn.sameBut sb ?_, hm⟩
      rintro rfl
      obtain ⟨o, es, ep, ho, hd, _⟩ := hn
      rw [ho] at e; cases e; cases hd
    · refine (S.i.vars.cel y c ec).sameBut sb ?_
      rintro rfl
      obtain ⟨o, ho, hd⟩ := S.i.vars.cel y c ec
      rw [ho] at e; cases e; cases hd
  have := S.mut (a := a) (x := x) (v := .ref a) (en := .own (ds ++ [d])) z na sb e' (S.i.fr.mut (fun b o hb e => (sb.2 b hb).trans e) fun o₂ es₂ ep₂ e2 q2 => by rw [e] at e2; cases e2; cases q2) (fun y es hy ly ey => hy (uniq y es ly ey))
    (by rw [upd_self hv]; exact hv') ⟨a, _, _, rfl, e', z, by rw [Array.toList_push]; exact (q.append (.cons r .nil)).keepZ kz⟩
    (fun es he b hb => by cases hb; exact ⟨na, fun y fs hy ly ey => hy (uniq y fs ly ey)⟩)
  rwa [upd_self hv] at this
end
end

section
set_option autoImplicit false
set_option linter.unusedVariables false
open PySem PyProof.Rows

inductive Out where
  | next (Γ : Tab)
  | brk (Γ : Tab)
  | cont (Γ : Tab)
  | ret (d : PyData)
  | own (ds : List PyData)

noncomputable def OutOk (C : Cx) (A : Around) (env : Env) (s₀ : Shared) (Z₀ : Addr → Prop) (H : List (Addr × Obj)) (V : List (Value × PyData)) (s : Shared) : Out → Flow → Prop
  | .next Γ, .next => St C A env s₀ Z₀ H V Γ s
  | .brk Γ, .brk => St C A env s₀ Z₀ H V Γ s
  | .cont Γ, .cont => St C A env s₀ Z₀ H V Γ s
  | .ret d, .ret v => Ext A s₀.heap s.heap ∧ Rd C.prog C.w Z₀ s.heap v d
  | .own ds, .ret v => Ext A s₀.heap s.heap ∧ ∃ a vs n, v = .ref a ∧ s₀.heap.get? a = none ∧ s.heap.get? a = some (listO vs n) ∧ Rds C.prog C.w (fun b => Z₀ b ∨ b = a) s.heap vs.toList ds
  | _, _ => False

noncomputable def Ex (C : Cx) (A : Around) (env : Env) (s₀ : Shared) (Z₀ : Addr → Prop) (E : Value → Shared → Prop) (Γ : Tab) (ss : List Stmt) (Post : Out → Prop) : Prop :=
  ∀ H V s, St C A env s₀ Z₀ H V Γ s → wpAny C.M A (execs ss env) (fun fl s' => Same s s' ∧ ∃ o, Post o ∧ OutOk C A env s₀ Z₀ H V s' o fl) E s
noncomputable def Xs (C : Cx) (A : Around) (env : Env) (s₀ : Shared) (Z₀ : Addr → Prop) (E : Value → Shared → Prop) (Γ : Tab) (st : Stmt) (Post : Out → Prop) : Prop :=
  ∀ H V s, St C A env s₀ Z₀ H V Γ s → wpAny C.M A (exec st env) (fun fl s' => Same s s' ∧ ∃ o, Post o ∧ OutOk C A env s₀ Z₀ H V s' o fl) E s

section
variable {C : Cx} {A : Around} {env : Env} {s₀ : Shared} {Z₀ : Addr → Prop} {E : Value → Shared → Prop} {Γ : Tab} {Post : Out → Prop} {st : Stmt} {rest : List Stmt} {e : Expr} {μ : Bool} {d : PyData}

noncomputable def seqP (C : Cx) (A : Around) (env : Env) (s₀ : Shared) (Z₀ : Addr → Prop) (E : Value → Shared → Prop) (rest : List Stmt) (Post : Out → Prop) : Out → Prop
  | .next Γ' => Ex C A env s₀ Z₀ E Γ' rest Post
  | o => Post o

theorem ex_nil (h : Post (.next Γ)) : Ex C A env s₀ Z₀ E Γ [] Post := fun H V s S => wpAny_execs_nil ⟨Same.refl s, _, h, S⟩
theorem ex_cons (h : Xs C A env s₀ Z₀ E Γ st (seqP C A env s₀ Z₀ E rest Post)) : Ex C A env s₀ Z₀ E Γ (st :: rest) Post := fun H V s S =>
  wpAny_execs_cons (wpAny_mono (h H V s S) (fun fl s' ⟨sm, o, p, ok⟩ => by
    cases fl with
    | next =>
      cases o with
      | next Γ' => exact wpAny_mono (p H V s' ok) (fun fl s'' ⟨sm', o, p, ok⟩ => ⟨sm.trans sm', o, p, ok⟩) fun _ _ x => x
      | _ => exact ok.elim
    | brk => cases o <;> first | exact ok.elim | exact ⟨sm, _, p, ok⟩
    | cont => cases o <;> first | exact ok.elim | exact ⟨sm, _, p, ok⟩
    | ret v => cases o <;> first | exact ok.elim | exact ⟨sm, _, p, ok⟩) fun _ _ x => x)
theorem Ex.mono {ss : List Stmt} {Post' : Out → Prop} (h : Ex C A env s₀ Z₀ E Γ ss Post) (hp : ∀ o, Post o → Post' o) : Ex C A env s₀ Z₀ E Γ ss Post' := fun H V s S =>
  wpAny_mono (h H V s S) (fun fl s' ⟨sm, o, p, ok⟩ => ⟨sm, o, hp o p, ok⟩) fun _ _ x => x

theorem ex_sub {Γ' : Tab} {ss : List Stmt} (hs : ∀ x e, Γ'.lookup x = some e → Γ.lookup x = some e) (h : Ex C A env s₀ Z₀ E Γ' ss Post) : Ex C A env s₀ Z₀ E Γ ss Post := fun H V s S =>
  h H V s (let ⟨ss, Z, m, S⟩ := S; ⟨ss, Z, m, S.sub hs⟩)
theorem ex_freeze {x : Str} {ds : List PyData} {ss : List Stmt} (l : Γ.lookup x = some (.own ds)) (h : Ex C A env s₀ Z₀ E ((x, .fz (.list ds)) :: Γ) ss Post) : Ex C A env s₀ Z₀ E Γ ss Post := fun H V s S => h H V s (S.freeze l)

theorem xs_break {pos : Pos} (h : Post (.brk Γ)) : Xs C A env s₀ Z₀ E Γ (.Break pos) Post := fun H V s S _ _ _ => ⟨Same.refl s, _, h, S⟩

theorem xs_return {pos : Pos} (h : Ev C A env Γ e true d) (hp : Post (.ret d)) : Xs C A env s₀ Z₀ E Γ (.Return (some e) pos) Post := fun H V s ⟨ss, Z, m, S⟩ =>
  wpAny_Return_some (h.go S.i fun v s' k I' r => ⟨k.toSame, _, hp, S.keep.trans k.ext, Rd.reZ (fun a o _ q => (S.z0 a q).1) r⟩)
theorem xs_returnOwn {pos p : Pos} {x : Str} {ds : List PyData} (hx : isVar env x = true) (l : Γ.lookup x = some (.own ds)) (hp : Post (.own ds)) : Xs C A env s₀ Z₀ E Γ (.Return (some (.Name x p)) pos) Post := fun H V s ⟨ss, Z, m, S⟩ => by
  obtain ⟨h1, h2, h3⟩ := isVar_spec hx
  have he := S.i.ents x _ l
  cases hv : m x with
  | none => rw [hv] at he; exact he.elim
  | some v =>
    rw [hv] at he
    obtain ⟨a, vs, n, rfl, e, z, r⟩ := he
    refine wpAny_Return_some (loadVar S.i h1 hv ⟨Same.refl s, _, hp, S.keep, a, vs, n, rfl, (S.ow x ds a l hv).1, e, r.reZ fun b o _ q => ?_⟩ h2 h3)
    rcases q with q | rfl
    · exact (S.z0 b q).1
    · exact z

theorem xs_if {test : Expr} {body orelse : List Stmt} {pos : Pos} {b : Bool} (h : Cd C A env Γ test b) (h₁ : b = true → Ex C A env s₀ Z₀ E Γ body Post) (h₂ : b = false → Ex C A env s₀ Z₀ E Γ orelse Post) :
    Xs C A env s₀ Z₀ E Γ (.If test body orelse pos) Post := fun H V s ⟨ss, Z, m, S⟩ =>
  wpAny_If (h.go S.i fun s' k I' => by
    cases b with
    | true => exact wpAny_mono (h₁ rfl H V s' ⟨ss.trans k.toSame, Z, m, S.ext k.ext⟩) (fun fl s'' ⟨sm, r⟩ => ⟨k.toSame.trans sm, r⟩) fun _ _ x => x
    | false => exact wpAny_mono (h₂ rfl H V s' ⟨ss.trans k.toSame, Z, m, S.ext k.ext⟩) (fun fl s'' ⟨sm, r⟩ => ⟨k.toSame.trans sm, r⟩) fun _ _ x => x)

noncomputable def As (C : Cx) (A : Around) (env : Env) (s₀ : Shared) (Z₀ : Addr → Prop) (E : Value → Shared → Prop) (Γ : Tab) (t : Expr) (d : PyData) (Γ' : Tab) : Prop :=
  ∀ H V s v, St C A env s₀ Z₀ H ((v, d) :: V) Γ s → wpAny C.M A (assign t env v) (fun _ s' => Same s s' ∧ St C A env s₀ Z₀ H V Γ' s') E s
theorem StW.dropV {C : Cx} {A : Around} {env : Env} {h₀ : Heap} {Z₀ : Addr → Prop} {H : List (Addr × Obj)} {V V' : List (Value × PyData)} {Γ : Tab} {h : Heap} {Z : Addr → Prop} {m : Str → Option Value} (S : StW C A env h₀ Z₀ H V Γ h Z m) (hv : ∀ p ∈ V', p ∈ V) : StW C A env h₀ Z₀ H V' Γ h Z m :=
  { S with vs := fun p hp => S.vs p (hv p hp) }
theorem StW.addV {C : Cx} {A : Around} {env : Env} {h₀ : Heap} {Z₀ : Addr → Prop} {H : List (Addr × Obj)} {V V' : List (Value × PyData)} {Γ : Tab} {h : Heap} {Z : Addr → Prop} {m : Str → Option Value} (S : StW C A env h₀ Z₀ H V Γ h Z m) (hv : ∀ p ∈ V', Rd C.prog C.w Z h p.1 p.2) : StW C A env h₀ Z₀ H (V' ++ V) Γ h Z m :=
  { S with vs := fun p hp => (List.mem_append.mp hp).elim (hv p) (S.vs p) }
theorem StW.dropH {C : Cx} {A : Around} {env : Env} {h₀ : Heap} {Z₀ : Addr → Prop} {H H' : List (Addr × Obj)} {V : List (Value × PyData)} {Γ : Tab} {h : Heap} {Z : Addr → Prop} {m : Str → Option Value} (S : StW C A env h₀ Z₀ H V Γ h Z m) (hv : ∀ p ∈ H', p ∈ H) : StW C A env h₀ Z₀ H' V Γ h Z m :=
  { S with hs := fun p hp => S.hs p (hv p hp) }

theorem as_name {x : Str} {p : Pos} (hx : isLoc env x = true) (hO : Owned env s₀.heap x) : As C A env s₀ Z₀ E Γ (.Name x p) d ((x, .fz d) :: Γ) := fun H V s v ⟨ss, Z, m, S⟩ =>
  wpAny_assign_Name (S.storeFz hx hO (S.vs _ List.mem_cons_self) fun h' tk S' => ⟨⟨h', tk, rfl⟩, ss.trans ⟨h', tk, rfl⟩, Z, _, S'.dropV fun p hp => List.mem_cons_of_mem _ hp⟩)

theorem xs_assign {x : Str} {p pos : Pos} (h : Ev C A env Γ e true d) (hx : isLoc env x = true) (hO : Owned env s₀.heap x) (hs : swapsWith e (some (.Name x p)) pos.line env = pure false) (hp : Post (.next ((x, .fz d) :: Γ))) :
    Xs C A env s₀ Z₀ E Γ (.Assign [.Name x p] e pos) Post := fun H V s ⟨ss, Z, m, S⟩ =>
  wpAny_Assign_Name (h.go S.i fun v s' k I' r => (S.ext k.ext).storeFz hx hO r fun h' tk S' => ⟨k.toSame.trans ⟨h', tk, rfl⟩, _, hp, ss.trans (k.toSame.trans ⟨h', tk, rfl⟩), Z, _, S'⟩) hs

theorem xs_new {x : Str} {p q pos : Pos} (hx : isLoc env x = true) (hO : Owned env s₀.heap x) (hp : Post (.next ((x, .own []) :: Γ))) : Xs C A env s₀ Z₀ E Γ (.Assign [.Name x p] (.List [] q) pos) Post := fun H V s ⟨ss, Z, m, S⟩ => by
  refine wpAny_Assign_Name (List_ (Calls.spliced_nil (wpAny_newList ?_ (by decide)))) rfl
  have hnone : s.heap.get? s.heap.objs.size = none := Heap.get?_none_of_le (Nat.le_refl _)
  have hno : s₀.heap.get? s.heap.objs.size = none := by
    cases e : s₀.heap.get? s.heap.objs.size with
    | none => rfl
    | some o => obtain ⟨o', q, _⟩ := S.keep.stays e; rw [hnone] at q; cases q
  have S' := S.grow (listO #[] 0) rfl
  refine S'.store (s := { s with heap := s.heap.push (listO #[] 0) }) (en := .own []) hx hO (fun h' hk => ⟨s.heap.objs.size, #[], 0, rfl, hk _ _ (.inr ⟨_, _, rfl⟩) (Heap.get?_push_size _ rfl), .inr rfl, .nil⟩) (fun ds q b hb => ?_) fun h' tk S'' => ⟨⟨h', tk, rfl⟩, _, hp, ss.trans ⟨h', tk, rfl⟩, _, _, S''⟩
  cases hb
  refine ⟨hno, fun y es hy l e => ?_⟩
  have := S.i.ents y _ l
  rw [e] at this
  obtain ⟨a, vs, n, e1, e2, _⟩ := this
  cases e1; rw [hnone] at e2; cases e2

theorem xs_append {x : Str} {p ap cp pos : Pos} {ds : List PyData} (hx : isVar env x = true) (l : Γ.lookup x = some (.own ds)) (hsz : ds.length ≤ sizeLine) (h : Ev C A env Γ e true d) (hn : notStar e = true) (hline : (ap.endLine == cp.line) = true)
    (hi : interactive env = false) (hp : Post (.next ((x, .own (ds ++ [d])) :: Γ))) : Xs C A env s₀ Z₀ E Γ (.Expr (.Call (.Attribute (.Name x p) "append" ap) [e] [] cp) pos) Post := fun H V s ⟨ss, Z, m, S⟩ => by
  obtain ⟨h1, h2, h3⟩ := isVar_spec hx
  have he := S.i.ents x _ l
  cases hv : m x with
  | none => rw [hv] at he; exact he.elim
  | some v =>
    refine wpAny_Expr ?_ hi rfl
    refine Call_method1 rfl (by rw [starEach_cons hn]; rfl) hline (loadVar S.i h1 hv ?_ h2 h3)
    rw [hv] at he
    obtain ⟨a, vs, n, rfl, e, z, r⟩ := he
    refine ⟨"list", "list.append", F.plainAttrs_list, F.slot_list_append, F.type_list_append, ⟨_, e, rfl⟩, fun b hb => by cases hb; exact ⟨_, e, rfl⟩, P.append_list (h.go S.i fun u s' k I' r' => ?_)⟩
    obtain ⟨a', items, n', e1, e2, e3, q⟩ := (S.ext k.ext).append (E := E) (s := s') (Q := fun v s'' => match v with | .ref _ => False | _ => Same s s'' ∧ ∃ o, Post o ∧ OutOk C A env s₀ Z₀ H V s'' o .next) l hv hsz r' fun a h' _ S' => ⟨k.toSame.trans ⟨h', _, rfl⟩, _, hp, ss.trans (k.toSame.trans ⟨h', _, rfl⟩), Z, m, S'⟩
    cases e1
    exact ⟨items, n', e2, e3, q⟩
end
end

section
set_option autoImplicit false
set_option linter.unusedVariables false
open PySem PyProof.Rows

structure Wk (C : Cx) (A : Around) (I : Addr) (X : List (Addr × Obj)) (V : List (Value × PyData)) (n : Nat) (dat : Nat → PyData) (O : Nat → Obj → Prop) : Prop where
  fld : ∀ i o, O i o → ∃ vs, o.data = .fields vs
  cls : ∀ i o, O i o → o.cls = .type "list_iterator" ∨ o.cls = .type "tuple_iterator" ∨ o.cls = .type "range_iterator"
  item : ∀ i (s : Shared) o (Q : Option Value → Shared → Prop) (E : Value → Shared → Prop), i < n → s.heap.get? I = some o → O i o → (∀ p ∈ X, s.heap.get? p.1 = some p.2) →
    (∀ v h' tk o', (∀ Z h, (∀ p ∈ V, Rd C.prog C.w Z h p.1 p.2) → Rd C.prog C.w Z h v (dat i)) → O (i + 1) o' → h'.get? I = some o' → Heap.ExtBut I s.heap h' → Q (some v) { s with heap := h', toks := tk }) →
    wpAny C.M A (pyNext (.ref I)) Q E s
  done : ∀ (s : Shared) o (Q : Option Value → Shared → Prop) (E : Value → Shared → Prop), s.heap.get? I = some o → O n o → (∀ p ∈ X, s.heap.get? p.1 = some p.2) →
    (∀ h' tk, Heap.ExtBut I s.heap h' → Q none { s with heap := h', toks := tk }) → wpAny C.M A (pyNext (.ref I)) Q E s
  self : ∀ i (s : Shared) o (Q : Value → Shared → Prop) (E : Value → Shared → Prop), s.heap.get? I = some o → O i o → Q (.ref I) s → wpAny C.M A (pyIter (.ref I)) Q E s

theorem Wk.clsF {C : Cx} {A : Around} {I : Addr} {X : List (Addr × Obj)} {V : List (Value × PyData)} {n : Nat} {dat : Nat → PyData} {O : Nat → Obj → Prop} (W : Wk C A I X V n dat O) (i : Nat) (o : Obj) (h : O i o) : o.cls ≠ .type "frame" := by
  rcases W.cls i o h with q | q | q <;> rw [q] <;> decide
noncomputable def Src (C : Cx) (A : Around) (env : Env) (Γ : Tab) (iter : Expr) (n : Nat) (dat : Nat → PyData) : Prop :=
  ∀ E (s : Shared) m Z₀ Z (Q : Value → Shared → Prop), In C A env Z₀ Z Γ m s.heap →
    (∀ (s₁ : Shared) X V O o, Kp A s s₁ → o.isFreed = false → O 0 o → Wk C A s₁.heap.objs.size X V n dat O → (∀ p ∈ X, s₁.heap.get? p.1 = some p.2 ∧ ¬ Z p.1 ∧ p.2.cls ≠ .type "frame") → (∀ p ∈ V, Rd C.prog C.w Z s₁.heap p.1 p.2) →
      Q (.ref s₁.heap.objs.size) { s₁ with heap := s₁.heap.push o }) →
    wpAny C.M A (eval iter env) (fun x s₁ => wpAny C.M A (pyIter x) Q E s₁) E s

section
variable {C : Cx} {A : Around} {env : Env} {Γ : Tab} {e : Expr} {μ : Bool} {d : PyData}

theorem zip_mem {vs : List Value} {ds : List PyData} {Z : Addr → Prop} {h : Heap} (r : Rds C.prog C.w Z h vs ds) : ∀ p ∈ vs.zip ds, Rd C.prog C.w Z h p.1 p.2 := by
  induction vs generalizing ds with
  | nil => intro p hp; cases hp
  | cons v vs ih =>
    cases r with
    | cons a b =>
      intro p hp
      rcases List.mem_cons.mp hp with rfl | hp
      · exact a
      · exact ih b p hp
theorem zip_get {vs : List Value} {ds : List PyData} {i : Nat} {v : Value} {d : PyData} (hv : vs[i]? = some v) (hd : ds[i]? = some d) : (v, d) ∈ vs.zip ds := by
  refine List.mem_of_getElem? (i := i) ?_
  rw [List.getElem?_zip_eq_some]
  exact ⟨hv, hd⟩

theorem wk_list {l I : Addr} {vs : Array Value} {n : Nat} {ds : List PyData} (hh : A.handled = none) (hne : l ≠ I) (hlen : vs.size = ds.length) :
    Wk C A I [(l, listO vs n)] (vs.toList.zip ds) ds.length (fun i => ds.getD i .none) (fun i o => o.cls = .type "list_iterator" ∧ o.data = .fields #[.ref l, .int i 0]) where
  fld := fun i o h => ⟨_, h.2⟩
  cls := fun i o h => .inl h.1
  item := fun i s o Q E hi ho hO hX k => by
    have hl : s.heap.IsList l vs := ⟨_, hX _ List.mem_cons_self, rfl, _, rfl⟩
    have hv : i < vs.size := by omega
    refine wpAny_pyNext_list_item (i := i) (x := vs[i]) ⟨o, ho, hO.1, hO.2⟩ hl (by simp [hv]) fun h' hit sb => ?_
    obtain ⟨o', ho', hc, hd⟩ := hit
    refine k _ h' s.toks o' (fun Z h hV => hV (_, _) (zip_get (i := i) ?_ ?_)) ⟨hc, hd⟩ ho' sb.extBut
    · simp [hv]
    · simp [List.getElem?_eq_getElem hi]
  done := fun s o Q E ho hO hX k => by
    have hl : s.heap.IsList l vs := ⟨_, hX _ List.mem_cons_self, rfl, _, rfl⟩
    exact wpAny_pyNext_list_end (i := ds.length) hh ⟨o, ho, hO.1, hO.2⟩ hl (by simp [hlen]) fun h' he => k h' s.toks he
  self := fun i s o Q E ho hO h => wpAny_pyIter_listiter (i := i) ⟨o, ho, hO.1, hO.2⟩ h

theorem src_list {ds : List PyData} (hh : A.handled = none) (h : Ev C A env Γ e true (.list ds)) : Src C A env Γ e ds.length (fun i => ds.getD i .none) := fun E s m Z₀ Z Q I k =>
  h.go I fun v s' kp I' r => by
    cases r with
    | @list a vs n _ he z q =>
      have hlen := q.length
      simp only [Array.length_toList] at hlen
      have hl : s'.heap.IsList a vs := ⟨_, he, rfl, _, rfl⟩
      exact wpAny_pyIter_list hl (k s' _ _ _ _ kp rfl ⟨rfl, rfl⟩ (wk_list (n := n) hh (Nat.ne_of_lt (Heap.lt_size he)) hlen) (fun p hp => by cases List.mem_singleton.mp hp; exact ⟨he, z, listO_cls⟩) (zip_mem q))

theorem wpAny_pyIter_tupiter {it t : Addr} {i : Nat} {s : Shared} {Q : Value → Shared → Prop} {E : Value → Shared → Prop} (hit : IsTupIter s.heap it t i) (h : Q (.ref it) s) : wpAny C.M A (pyIter (.ref it)) Q E s := by
  refine wpAny_pyIter_slot hit.typeIs F.slot_tuple_iterator_iter (wpAny_call_entry F.slot_tuple_iterator_iter hit.typeIs F.entry_tuple_iterator_iter ?_ (F.args_tuple_iterator_iter_1 _))
  show wpAny _ _ (ret (.ref it)) _ _ s
  exact wpAny_pure ⟨_, rfl, "tuple_iterator", _, hit.typeIs, slot_tupleiter_next.lookup, h⟩

theorem wk_tuple {l I : Addr} {vs : Array Value} {n : Nat} {ds : List PyData} (hh : A.handled = none) (hne : l ≠ I) (hlen : vs.size = ds.length) :
    Wk C A I [(l, tupO vs n)] (vs.toList.zip ds) ds.length (fun i => ds.getD i .none) (fun i o => o.cls = .type "tuple_iterator" ∧ o.data = .fields #[.ref l, .int i 0]) where
  fld := fun i o h => ⟨_, h.2⟩
  cls := fun i o h => .inr (.inl h.1)
  item := fun i s o Q E hi ho hO hX k => by
    have hl : IsTup s.heap l vs := ⟨_, hX _ List.mem_cons_self, rfl, _, rfl⟩
    have hv : i < vs.size := by omega
    refine next_tuple_item (i := i) (x := vs[i]) ⟨o, ho, hO.1, hO.2⟩ hl (by simp [hv]) fun h' hit sb => ?_
    obtain ⟨o', ho', hc, hd⟩ := hit
    refine k _ h' s.toks o' (fun Z h hV => hV (_, _) (zip_get (i := i) ?_ ?_)) ⟨hc, hd⟩ ho' sb.extBut
    · simp [hv]
    · simp [List.getElem?_eq_getElem hi]
  done := fun s o Q E ho hO hX k => by
    have hl : IsTup s.heap l vs := ⟨_, hX _ List.mem_cons_self, rfl, _, rfl⟩
    exact next_tuple_end (i := ds.length) hh ⟨o, ho, hO.1, hO.2⟩ hl (by simp [hlen]) fun h' he => k h' s.toks he
  self := fun i s o Q E ho hO h => wpAny_pyIter_tupiter (i := i) ⟨o, ho, hO.1, hO.2⟩ h
theorem src_tuple {ds : List PyData} (hh : A.handled = none) (h : Ev C A env Γ e true (.tuple ds)) : Src C A env Γ e ds.length (fun i => ds.getD i .none) := fun E s m Z₀ Z Q I k =>
  h.go I fun v s' kp I' r => by
    cases r with
    | @tuple a vs n _ he z q =>
      have hlen := q.length
      simp only [Array.length_toList] at hlen
      have hl : IsTup s'.heap a vs := ⟨_, he, rfl, _, rfl⟩
      exact iter_tuple hl (k s' _ _ _ _ kp rfl ⟨rfl, rfl⟩ (wk_tuple (n := n) hh (Nat.ne_of_lt (Heap.lt_size he)) hlen) (fun p hp => by cases List.mem_singleton.mp hp; exact ⟨he, z, tupO_cls⟩) (zip_mem q))

theorem wk_range {I : Addr} (hh : A.handled = none) (a : Int) (n : Nat) :
    Wk C A I [] [] n (fun i => .int (a + i)) (fun i o => o = { cls := .type "range_iterator", dict := none, data := .fields #[rawInt (a + i), rawInt ((n : Int) - i), rawInt 1], slots := #[] }) where
  fld := fun i o h => by subst h; exact ⟨_, rfl⟩
  cls := fun i o h => by subst h; exact .inr (.inr rfl)
  item := fun i s o Q E hi ho hO hX k => by
    subst hO
    refine wpAny_pyNext_range_item ho (by omega) fun h' hit sb => ?_
    refine k _ h' _ _ (fun Z h hV => .int _ _) rfl ?_ sb.extBut
    have e : (a + (i : Int) + 1) = a + ((i + 1 : Nat) : Int) := by omega
    have e' : ((n : Int) - (i : Int) - 1) = (n : Int) - ((i + 1 : Nat) : Int) := by omega
    rw [← e, ← e']; exact hit
  done := fun s o Q E ho hO hX k => by
    subst hO
    exact wpAny_pyNext_range_end hh ho (by omega) fun h' he => k h' s.toks he
  self := fun i s o Q E ho hO h => by subst hO; exact wpAny_pyIter_rangeiter ho h

theorem StW.iterDone {h₀ : Heap} {Z₀ : Addr → Prop} {H : List (Addr × Obj)} {V : List (Value × PyData)} {h h' : Heap} {Z : Addr → Prop} {m : Str → Option Value} {I : Addr} {o : Obj} (S : StW C A env h₀ Z₀ ((I, o) :: H) V Γ h Z m) (nI : h₀.get? I = none) (hf : ∃ vs, o.data = .fields vs)
    (hne : ∀ p ∈ H, p.1 ≠ I) (eb : Heap.ExtBut I h h') : StW C A env h₀ Z₀ H V Γ h' Z m := by
  obtain ⟨hI, zI, _⟩ := S.hs _ List.mem_cons_self
  have kz : ∀ b x, (∀ vs, x.data ≠ .fields vs) → h.get? b = some x → h'.get? b = some x := fun b x nf e => eb b x (by rintro rfl; obtain ⟨us, hus⟩ := hf; rw [hI] at e; cases e; exact nf us hus) e
  have keep' : Ext A h₀ h' := S.keep.mutOf nI fun b o hb e => eb b o hb e
  obtain ⟨vs, hvs⟩ := hf
  refine ⟨⟨S.i.fn, ⟨?_, fun x c ec => ?_, S.i.vars.hid⟩, fun x e l => ?_, S.b0.keep keep', ⟨fun b z => ?_, S.i.z.k⟩, S.i.fr.mut (fun b o hb e => eb b o hb e) fun o₂ es ep e2 q2 => (by rw [hI] at e2; cases e2; rw [hvs] at q2; cases q2), S.i.zc, S.i.cd⟩, S.b0, keep', S.z0, S.zl, S.nl, S.zc, S.cd, fun p hp => ?_, fun p hp => (S.vs p hp).keepD fun b x _ => kz b x, S.ow⟩
  · obtain ⟨ml, hn, hm⟩ := S.i.vars.loc
    refine ⟨ml, hn.extBut eb ?_, hm⟩
    rintro rfl
    exact zI S.zl
  · obtain ⟨x', hx, hd⟩ := S.i.vars.cel x c ec
    refine ⟨x', eb c x' ?_ hx, hd⟩
    rintro rfl
    exact zI (S.zc x _ ec)
  · have := S.i.ents x e l
    cases hv : m x with
    | none => rw [hv] at this; exact this
    | some v =>
      rw [hv] at this
      cases e with
      | fz d => exact Rd.keepD (fun b x _ => kz b x) this
      | bor d => exact Rd.keepD (fun b x _ => kz b x) this
      | own ds =>
        obtain ⟨a, us, n, rfl, e, z, r⟩ := this
        refine ⟨a, us, n, rfl, eb a _ ?_ e, z, r.keepD fun b x _ => kz b x⟩
        rintro rfl
        exact zI z
      | any => trivial
  · obtain ⟨x, e⟩ := S.i.z.st b z; exact ⟨x, eb b x (by rintro rfl; exact zI z) e⟩
  · obtain ⟨e, d⟩ := S.hs p (List.mem_cons_of_mem _ hp)
    exact ⟨eb _ _ (hne p hp) e, d⟩
theorem StW.iter {h₀ : Heap} {Z₀ : Addr → Prop} {H : List (Addr × Obj)} {V : List (Value × PyData)} {h h' : Heap} {Z : Addr → Prop} {m : Str → Option Value} {I : Addr} {o o' : Obj} (S : StW C A env h₀ Z₀ ((I, o) :: H) V Γ h Z m) (nI : h₀.get? I = none) (hf : ∃ vs, o.data = .fields vs)
    (hne : ∀ p ∈ H, p.1 ≠ I) (eb : Heap.ExtBut I h h') (ho' : h'.get? I = some o') (hc' : o'.cls ≠ .type "frame") : StW C A env h₀ Z₀ ((I, o') :: H) V Γ h' Z m := by
  have S' := S.iterDone nI hf hne eb
  refine { S' with hs := fun p hp => ?_ }
  rcases List.mem_cons.mp hp with rfl | hp
  · exact ⟨ho', (S.hs _ List.mem_cons_self).2.1, hc'⟩
  · exact S'.hs p hp

theorem letOwned {target : Expr} {I : Addr} {o : Obj} {v : Value} {s : Shared} {E : Value → Shared → Prop} {Q : Unit → Shared → Prop} (ho : s.heap.get? I = some o) (hc : o.cls = .type "list_iterator" ∨ o.cls = .type "tuple_iterator" ∨ o.cls = .type "range_iterator") (h : Q () s) :
    wpAny C.M A (letOwnedTupleGo target (.ref I) v) Q E s := by
  have key : ∀ (b : Sem Unit), (∀ a, v = .ref a → wpAny C.M A (do
      let o ← load I
      match o.cls, o.data with
      | .type n, .fields vs =>
        if ["enumerate", "zip", "dict_itemiterator", "dict_reverseitemiterator", "odict_iterator", "itertools.zip_longest", "itertools.pairwise"].contains n && vs[0]? == some (rawInt a) then
          rule "for.unpacks-the-owned-tuple"
          updateField I 0 .none
      | _, _ => pure ()) Q E s) := fun _ a _ => by
    refine wpAny_bind (wpAny_load ho ?_)
    rcases hc with hc | hc | hc <;> rw [hc] <;> cases hd : o.data <;> first
      | exact wpAny_pure h
      | (dsimp only; rw [if_neg (by simp [List.contains, List.elem])]; exact wpAny_pure h)
  unfold letOwnedTupleGo
  split
  · cases v with
    | ref a => exact key (pure ()) a rfl
    | _ => exact wpAny_pure h
  · cases v with
    | ref a => exact key (pure ()) a rfl
    | _ => exact wpAny_pure h
  · exact wpAny_pure h

section
variable {s₀ : Shared} {Z₀ : Addr → Prop} {E : Value → Shared → Prop} {Post : Out → Prop}

noncomputable abbrev inLoop (C : Cx) (A : Around) (env : Env) (E : Value → Shared → Prop) : Value → Shared → Prop := notedBy C.M A env fun e s' => cameBackBy C.M A env E e s'

noncomputable def turnP (J : Tab → Prop) (Post : Out → Prop) : Out → Prop
  | .next Γ => J Γ
  | .cont Γ => J Γ
  | .brk Γ => Post (.next Γ)
  | .ret d => Post (.ret d)
  | .own ds => Post (.own ds)

theorem xs_for {k n : Nat} {dat : Nat → PyData} {target iter : Expr} {body : List Stmt} {pos : Pos} (J : Nat → Tab → Prop) (src : Src C A env Γ iter n dat) (hs : ∀ x, foldedSetIterable iter env x = pure x) (h0 : J 0 Γ)
    (turn : ∀ i Γ', i < n → J i Γ' → ∃ Γ'', As C A env s₀ Z₀ (inLoop C A env E) Γ' target (dat i) Γ'' ∧ Ex C A env s₀ Z₀ (inLoop C A env E) Γ'' body (turnP (J (i + 1)) Post))
    (fin : ∀ Γ', J n Γ' → Post (.next Γ')) : Xs C A env s₀ Z₀ E Γ (.For target iter body [] pos) Post := fun H V s ⟨ss, Z, m, S⟩ => by
  refine wpAny_For (src E s m Z₀ Z _ S.i fun s₁ X V' O o kp hfr hO W hX hV => ?_) hs
  have hnone : s₁.heap.get? s₁.heap.objs.size = none := Heap.get?_none_of_le (Nat.le_refl _)
  have S₁ := S.ext kp.ext
  have nI : s₀.heap.get? s₁.heap.objs.size = none := by
    cases e : s₀.heap.get? s₁.heap.objs.size with
    | none => rfl
    | some x => obtain ⟨o', q, _⟩ := S₁.keep.stays e; rw [hnone] at q; cases q
  have hXI : ∀ p ∈ X ++ H, p.1 ≠ s₁.heap.objs.size := fun p hp q => by
    have e : s₁.heap.get? p.1 = some p.2 := (List.mem_append.mp hp).elim (fun hp => (hX p hp).1) fun hp => (S₁.hs p hp).1
    rw [q, hnone] at e; cases e
  generalize hI : s₁.heap.objs.size = I at *
  have S₂ : StW C A env s₀.heap Z₀ ((I, o) :: (X ++ H)) (V' ++ V) Γ (s₁.heap.push o) Z m := by
    have S₂ := (S₁.ext (Ext.push o)).addV (V' := V') fun p hp => (hV p hp).push o
    refine { S₂ with hs := fun p hp => ?_ }
    rcases List.mem_cons.mp hp with rfl | hp
    · refine ⟨?_, hI ▸ S₁.i.z.fresh, W.clsF _ _ hO⟩
      show (s₁.heap.push o).get? I = some o
      rw [← hI]; exact Heap.get?_push_size _ hfr
    · rcases List.mem_append.mp hp with hp | hp
      · exact ⟨Heap.get?_push_of_some _ (hX p hp).1, (hX p hp).2⟩
      · exact S₂.hs p hp
  refine codeAny_forLoop_any (fun kk s' => ∃ i Γ' o, i + kk = n ∧ J i Γ' ∧ Same s s' ∧ O i o ∧ St C A env s₀ Z₀ ((I, o) :: (X ++ H)) (V' ++ V) Γ' s') ?_ n ⟨0, Γ, o, by omega, h0, kp.toSame.trans ⟨_, _, rfl⟩, hO, ss.trans (kp.toSame.trans ⟨_, _, rfl⟩), Z, m, S₂⟩
  rintro kk s' ⟨i, Γ', o, hik, hJ, sm, hO, ss', Z', m', S'⟩
  have hIo := (S'.hs _ List.mem_cons_self).1
  have hXs : ∀ p ∈ X, s'.heap.get? p.1 = some p.2 := fun p hp => (S'.hs p (List.mem_cons_of_mem _ (List.mem_append_left _ hp))).1
  have out : ∀ {s' : Shared} {Γ' : Tab} {o : Obj}, St C A env s₀ Z₀ ((I, o) :: (X ++ H)) (V' ++ V) Γ' s' → St C A env s₀ Z₀ H V Γ' s' := fun ⟨ss, Z, m, S⟩ =>
    ⟨ss, Z, m, (S.dropH fun p hp => List.mem_cons_of_mem _ (List.mem_append_right _ hp)).dropV fun p hp => List.mem_append_right _ hp⟩
  by_cases hi : i < n
  · refine W.item i s' o _ _ hi hIo hO hXs fun v h' tk o' hv hO' ho' eb => ?_
    have S'' := S'.iter nI (W.fld i o hO) hXI eb ho' (W.clsF _ _ hO')
    have hcls := W.cls _ _ hO'
    refine letOwned (s := { s' with heap := h', toks := tk }) ho' hcls ?_
    obtain ⟨Γ'', as, ex⟩ := turn i Γ' hi hJ
    have rv := hv Z' h' fun p hp => S''.vs p (List.mem_append_left _ hp)
    refine wpAny_mono (as ((I, o') :: (X ++ H)) (V' ++ V) { s' with heap := h', toks := tk } v ⟨ss'.trans ⟨h', tk, rfl⟩, Z', m', S''.addV (V' := [(v, dat i)]) fun p hp => by cases List.mem_singleton.mp hp; exact rv⟩) (fun _ s₃ ⟨sm', S₃⟩ => ?_) fun _ _ x => x
    refine wpAny_mono (ex ((I, o') :: (X ++ H)) (V' ++ V) s₃ S₃) (fun fl s₄ ⟨sm'', ou, hp, ok⟩ => ?_) fun _ _ x => x
    have sm4 : Same s s₄ := sm.trans (Same.trans ⟨h', tk, rfl⟩ (sm'.trans sm''))
    cases fl with
    | next => cases ou <;> first | exact ok.elim | exact ⟨kk - 1, by omega, i + 1, _, o', by omega, hp, sm4, hO', ok⟩
    | cont => cases ou <;> first | exact ok.elim | exact ⟨kk - 1, by omega, i + 1, _, o', by omega, hp, sm4, hO', ok⟩
    | brk => cases ou <;> first | exact ok.elim | exact ⟨sm4, _, hp, out ok⟩
    | ret v => cases ou <;> first | exact ok.elim | exact ⟨sm4, _, hp, ok⟩
  · obtain rfl : i = n := by omega
    refine W.done s' o _ _ hIo hO hXs fun h' tk eb => ?_
    refine wpAny_execs_nil ⟨sm.trans ⟨h', tk, rfl⟩, _, fin Γ' hJ, ?_⟩
    have S'' := S'.iterDone nI (W.fld _ o hO) hXI eb
    exact ⟨ss'.trans ⟨h', tk, rfl⟩, Z', m', (S''.dropH fun p hp => List.mem_append_right _ hp).dropV fun p hp => List.mem_append_right _ hp⟩

theorem xs_while {test : Expr} {body : List Stmt} {pos : Pos} (J : Nat → Tab → Prop) (n : Nat) (h0 : J n Γ)
    (turn : ∀ n Γ', J n Γ' → ∃ b, Cd C A env Γ' test b ∧ (b = true → Ex C A env s₀ Z₀ (inLoop C A env E) Γ' body (turnP (fun Γ'' => ∃ m, m < n ∧ J m Γ'') Post)) ∧ (b = false → Post (.next Γ'))) :
    Xs C A env s₀ Z₀ E Γ (.While test body [] pos) Post := fun H V s S => by
  refine wpAny_While (codeAny_whileLoop (fun n s' => ∃ Γ', J n Γ' ∧ Same s s' ∧ St C A env s₀ Z₀ H V Γ' s') ?_ n ⟨Γ, h0, Same.refl s, S⟩)
  rintro n s' ⟨Γ', hJ, sm, ss, Z, m, S'⟩
  obtain ⟨b, hc, h1, h2⟩ := turn n Γ' hJ
  refine hc.go S'.i fun s₂ k I₂ => ?_
  cases b with
  | true =>
    refine wpAny_mono (h1 rfl H V s₂ ⟨ss.trans k.toSame, Z, m, S'.ext k.ext⟩) (fun fl s₃ ⟨sm', o, hp, ok⟩ => ?_) fun _ _ x => x
    have sm3 : Same s s₃ := sm.trans (k.toSame.trans sm')
    cases fl with
    | next => cases o <;> first | exact ok.elim | (obtain ⟨m', hm, hJ'⟩ := hp; exact ⟨m', hm, _, hJ', sm3, ok⟩)
    | cont => cases o <;> first | exact ok.elim | (obtain ⟨m', hm, hJ'⟩ := hp; exact ⟨m', hm, _, hJ', sm3, ok⟩)
    | brk => cases o <;> first | exact ok.elim | exact ⟨sm3, _, hp, ok⟩
    | ret v => cases o <;> first | exact ok.elim | exact ⟨sm3, _, hp, ok⟩
  | false => exact wpAny_execs_nil ⟨sm.trans k.toSame, _, h2 rfl, ss.trans k.toSame, Z, m, S'.ext k.ext⟩
end
end
end

section
set_option autoImplicit false
set_option linter.unusedVariables false
open PySem PyProof.Rows

section
variable {C : Cx} {A : Around} {env : Env} {Γ Γ₁ Γ₂ : Tab} {e e₁ e₂ : Expr} {μ μ₁ μ₂ : Bool} {d : PyData} {s₀ : Shared} {Z₀ : Addr → Prop} {E : Value → Shared → Prop} {Post : Out → Prop}

noncomputable def AsL (C : Cx) (A : Around) (env : Env) (s₀ : Shared) (Z₀ : Addr → Prop) (E : Value → Shared → Prop) (Γ : Tab) (ts : List Expr) (ds : List PyData) (Γ' : Tab) : Prop :=
  (assignEach ts env).findIdx? (·.1) = none ∧ (assignEach ts env).length = ds.length ∧
  ∀ H V s vs, vs.length = ds.length → St C A env s₀ Z₀ H (vs.zip ds ++ V) Γ s → wpAny C.M A (assignInOrder ((assignEach ts env).map (·.2)) vs) (fun _ s' => Same s s' ∧ St C A env s₀ Z₀ H V Γ' s') E s
theorem assignEach_cons {t : Expr} {ts : List Expr} (h : notStar t = true) : assignEach (t :: ts) env = (false, assign t env) :: assignEach ts env := by
  cases t <;> first | rfl | cases h
theorem asl_nil : AsL C A env s₀ Z₀ E Γ [] [] Γ := ⟨rfl, rfl, fun H V s vs hl S => by
  cases vs with
  | nil => exact assignInOrder_nil ⟨Same.refl s, S⟩
  | cons v vs => cases hl⟩
theorem asl_cons {t : Expr} {ts : List Expr} {ds : List PyData} (h : As C A env s₀ Z₀ E Γ t d Γ₁) (hs : AsL C A env s₀ Z₀ E Γ₁ ts ds Γ₂) (hn : notStar t = true) : AsL C A env s₀ Z₀ E Γ (t :: ts) (d :: ds) Γ₂ := by
  obtain ⟨h1, h2, h3⟩ := hs
  refine ⟨by rw [assignEach_cons hn]; simp [List.findIdx?_cons, h1], by rw [assignEach_cons hn]; simp [h2], fun H V s vs hl S => ?_⟩
  rw [assignEach_cons hn]
  cases vs with
  | nil => cases hl
  | cons v vs =>
    refine assignInOrder_cons (wpAny_mono (h H (vs.zip ds ++ V) s v S) (fun _ s' ⟨sm, S'⟩ => ?_) fun _ _ x => x)
    exact wpAny_mono (h3 H V s' vs (by simpa using hl) S') (fun _ s'' ⟨sm', S''⟩ => ⟨sm.trans sm', S''⟩) fun _ _ x => x

theorem as_tuple {n k : Nat} {ts : List Expr} {ds : List PyData} {p : Pos} (hA : OkA A n) (h : AsL C A env s₀ Z₀ E Γ ts ds Γ₁) : As C A env s₀ Z₀ E Γ (.Tuple ts k p) (.tuple ds) Γ₁ := fun H V s v ⟨ss, Z, m, S⟩ => by
  obtain ⟨h1, h2, h3⟩ := h
  have r := S.vs _ List.mem_cons_self
  cases r with
  | @tuple a vs n _ he z q =>
    have hlen := q.length
    simp only [Array.length_toList] at hlen
    have ht : IsTup s.heap a vs := ⟨_, he, rfl, _, rfl⟩
    refine assign_Tuple_tuple hA.hd ht (by rw [h2, hlen]) h1 fun h' eb => ?_
    have ex : Ext A s.heap h' := .of fun b o e => eb b o (Nat.ne_of_lt (Heap.lt_size e)) e
    have S' := (S.ext ex).addV (V' := vs.toList.zip ds) fun p hp => (zip_mem q p hp).keep ex
    refine wpAny_mono (h3 H V { s with heap := h' } vs.toList (by simpa using hlen) ⟨ss.trans ⟨h', _, rfl⟩, Z, m, S'.dropV fun p hp => ?_⟩) (fun _ s' ⟨sm, S''⟩ => ⟨Same.trans ⟨h', _, rfl⟩ sm, S''⟩) fun _ _ x => x
    rcases List.mem_append.mp hp with hp | hp
    · exact List.mem_append_left _ hp
    · exact List.mem_append_right _ (List.mem_cons_of_mem _ hp)

theorem xs_unpack {k : Nat} {ts : List Expr} {ds : List PyData} {tp pos : Pos} {n : Nat} (hA : OkA A n) (h : Ev C A env Γ e true (.tuple ds)) (has : AsL C A env s₀ Z₀ E Γ ts ds Γ₁)
    (hs : swapsWithSole [.Tuple ts k tp] e pos.line env = pure false) (hw : swappedStores [.Tuple ts k tp] e env = pure none) (hp : Post (.next Γ₁)) : Xs C A env s₀ Z₀ E Γ (.Assign [.Tuple ts k tp] e pos) Post := fun H V s ⟨ss, Z, m, S⟩ =>
  Assign_Tuple (h.go S.i fun v s' kp I' r => wpAny_mono (as_tuple hA has H V s' v ⟨ss.trans kp.toSame, Z, m, (S.ext kp.ext).addV (V' := [(v, .tuple ds)]) fun p hp => by cases List.mem_singleton.mp hp; exact r⟩)
    (fun _ s'' ⟨sm, S''⟩ => ⟨kp.toSame.trans sm, _, hp, S''⟩) fun _ _ x => x) hs hw

noncomputable def sliceD (ds : List PyData) (lo hi : Option Int) : List PyData := (ds.drop (lo.elim 0 (clipAt ds.length))).take (hi.elim ds.length (clipAt ds.length) - lo.elim 0 (clipAt ds.length))
noncomputable def EvO (C : Cx) (A : Around) (env : Env) (Γ : Tab) : Option Expr → Option Int → Prop
  | none, none => True
  | some e, some i => ∃ μ, Ev C A env Γ e μ (.int i)
  | _, _ => False
theorem EvO.go {x : Option Expr} {i : Option Int} (h : EvO C A env Γ x i) {s : Shared} {m : Str → Option Value} {Z₀ Z : Addr → Prop} (I : In C A env Z₀ Z Γ m s.heap) {Q : Value → Shared → Prop}
    (k : ∀ v s', Kp A s s' → In C A env Z₀ Z Γ m s'.heap → IsPart v i → Q v s') : wpAny C.M A (evalPart x env) Q E s := by
  cases x with
  | none =>
    cases i with
    | none => exact wpAny_pure (k _ s (Kp.refl s) I .none)
    | some i => exact h.elim
  | some e =>
    cases i with
    | none => exact h.elim
    | some i =>
      obtain ⟨μ, h⟩ := h
      exact h.go I fun v s' kp I' r => by cases r; exact k _ s' kp I' (.int _ _)

theorem ev_slice {lo hi : Option Expr} {i j : Option Int} {p pos : Pos} {ds : List PyData} (h : Ev C A env Γ e μ (.list ds)) (hlo : EvO C A env Γ lo i) (hhi : EvO C A env Γ hi j) (hz : ds.length ≤ sizeLine) :
    Ev C A env Γ (.Subscript e (.Slice lo hi none p) pos) μ (.list (sliceD ds i j)) := fun E s m Z₀ Z I =>
  Subscript_ (h.go I fun v s₁ k₁ I₁ r => wpAny_Slice (hlo.go I₁ fun l s₂ k₂ I₂ pl => hhi.go I₂ fun u s₃ k₃ I₃ pu => by
    rw [evalPart_none]
    refine wpAny_pure ?_
    have r₃ := r.keep (k₂.trans k₃).ext
    cases r₃ with
    | @list a vs n _ he z q =>
      have hlen := q.length
      simp only [Array.length_toList] at hlen
      obtain ⟨ops, ho⟩ := subscripted_ops (.Slice lo hi none p) (.ref a) (.ref s₃.heap.objs.size)
      have hl : (s₃.heap.push { cls := .type "slice", data := .fields #[l, u, .none] }).IsList a vs := ⟨_, Heap.get?_push_of_some _ he, rfl, _, rfl⟩
      refine tail_any (s := { s₃ with heap := s₃.heap.push { cls := .type "slice", data := .fields #[l, u, .none] } }) hl.typeIs slot_list_getitem.lookup (wpAny_getItem_list_slice hl (Heap.IsSliceOf.new ..) pl pu .none (by simp) ?_ (by omega)) ho
      refine ⟨((k₁.trans k₂).trans k₃).trans ((Kp.push s₃ _).trans (Kp.push _ _)), .list (n := 0) (Heap.get?_push_size _ rfl) ?_ ?_⟩
      · exact ((I₃.keep (Ext.push { cls := .type "slice", data := .fields #[l, u, .none] })).sel μ)
      · unfold sliceD
        rw [slicePick_plain, ← hlen]
        exact (((q.drop _).take _).push _).push _))
end
end

section
set_option autoImplicit false
set_option linter.unusedVariables false
open PySem PyProof.Rows

section
variable {C : Cx} {A : Around} {env : Env} {Γ Γ₁ Γ₂ : Tab} {e e₁ e₂ : Expr} {μ μ₁ μ₂ : Bool} {d : PyData} {h₀ : Heap} {Z₀ : Addr → Prop} {E : Value → Shared → Prop} {Post : Out → Prop}

noncomputable def isGlob (env : Env) (x : Str) : Bool := env.kindOf x == some .globalImplicit && !(x == ("__debug__" : Str))
theorem isGlob_spec {x : Str} (h : isGlob env x = true) : env.kindOf x = some .globalImplicit ∧ (x == ("__debug__" : Str)) = false := by
  unfold isGlob at h
  simp only [Bool.and_eq_true, Bool.not_eq_true', beq_iff_eq] at h
  exact h
theorem loadGlob {s : Shared} {m : Str → Option Value} {Z₀ Z : Addr → Prop} {x : Str} {v : Value} {pos : Pos} {Q : Value → Shared → Prop} (I : In C A env Z₀ Z Γ m s.heap) (hx : isGlob env x = true) (hm : C.mg x = some v) (h : Q v s) : wpAny C.M A (eval (.Name x pos) env) Q E s := by
  obtain ⟨h1, h2⟩ := isGlob_spec hx
  exact Calls.Name_function_global I.fn.kind h1 (Calls.loadGlobal_global (by rw [I.fn.glob]; exact I.base.g) hm h) h2
theorem loadBlt {s : Shared} {m : Str → Option Value} {Z₀ Z : Addr → Prop} {x : Str} {v : Value} {pos : Pos} {Q : Value → Shared → Prop} (I : In C A env Z₀ Z Γ m s.heap) (hx : isGlob env x = true) (hm : C.mg x = none) (hb : C.mb x = some v) (h : Q v s) : wpAny C.M A (eval (.Name x pos) env) Q E s := by
  obtain ⟨h1, h2⟩ := isGlob_spec hx
  exact Calls.Name_function_global I.fn.kind h1 (Calls.loadGlobal_builtin (by rw [I.fn.glob]; exact I.base.g) hm (by rw [I.fn.blt]; exact I.base.b) hb h) h2

noncomputable def TopD (C : Cx) (v : Value) (d : PyData) : Prop := ∀ h Z, (∀ a o, C.K.lookup a = some o → h.get? a = some o) → (∀ a, Z a → C.K.lookup a = none) → Rd C.prog C.w Z h v d
theorem In.zsel {m : Str → Option Value} {Z₀ Z : Addr → Prop} {h : Heap} (I : In C A env Z₀ Z Γ m h) (μ : Bool) : Zok C (Mine.sel μ Z) h := by
  cases μ with
  | true => exact I.z
  | false => exact ⟨fun _ q => q.elim, fun _ q => q.elim⟩
theorem ev_glob {x : Str} {v : Value} {pos : Pos} (hx : isGlob env x = true) (hm : C.mg x = some v) (r : TopD C v d) : Ev C A env Γ (.Name x pos) μ d := fun E s m Z₀ Z I =>
  loadGlob I hx hm ⟨Kp.refl s, r _ _ I.base.k (I.zsel μ).k⟩

theorem TopD.none : TopD C .none .none := fun _ _ _ _ => .none
theorem TopD.bool (b : Bool) : TopD C (.bool b) (.bool b) := fun _ _ _ _ => .bool b
theorem TopD.int (i : Int) (t : Tok) : TopD C (.int i t) (.int i) := fun _ _ _ _ => .int i t
theorem TopD.str (x : Str) (t : Tok) (h : PyData.strOk x = true) : TopD C (.str x t) (.str x) := fun _ _ _ _ => .str x t h
noncomputable def TopDs (C : Cx) (vs : List Value) (ds : List PyData) : Prop := ∀ h Z, (∀ a o, C.K.lookup a = some o → h.get? a = some o) → (∀ a, Z a → C.K.lookup a = none) → Rds C.prog C.w Z h vs ds
theorem TopDs.nil : TopDs C [] [] := fun _ _ _ _ => .nil
theorem TopDs.cons {v : Value} {vs : List Value} {ds : List PyData} (a : TopD C v d) (b : TopDs C vs ds) : TopDs C (v :: vs) (d :: ds) := fun h Z x y => .cons (a h Z x y) (b h Z x y)
theorem TopD.tuple {a : Addr} {vs : Array Value} {n : Nat} {ds : List PyData} (hk : C.K.lookup a = some (tupO vs n)) (r : TopDs C vs.toList ds) : TopD C (.ref a) (.tuple ds) := fun h Z x y =>
  .tuple (x _ _ hk) (fun q => by rw [y _ q] at hk; cases hk) (r h Z x y)
theorem TopD.list {a : Addr} {vs : Array Value} {n : Nat} {ds : List PyData} (hk : C.K.lookup a = some (listO vs n)) (r : TopDs C vs.toList ds) : TopD C (.ref a) (.list ds) := fun h Z x y =>
  .list (x _ _ hk) (fun q => by rw [y _ q] at hk; cases hk) (r h Z x y)

noncomputable def FnOk (C : Cx) (k : Nat) (f : Addr) (ds : List PyData) (d : PyData) : Prop :=
  ∀ A E s Z vs, OkA A k → FrOk A s.heap → Base C s.heap → Zok C Z s.heap → Rds C.prog C.w Z s.heap vs ds → wpAny C.M A (call (.ref f) vs []) (fun v s' => Kp A s s' ∧ Rd C.prog C.w Z s'.heap v d) E s

theorem starEach_any {es : List Expr} {pos : Pos} (h : es.all notStar = true) : (backTo pos (starEach es env)).any (·.1) = false := by
  induction es with
  | nil => rfl
  | cons e es ih =>
    simp only [List.all_cons, Bool.and_eq_true] at h
    rw [starEach_cons h.1]
    show (false || (backTo pos (starEach es env)).any (·.1)) = false
    rw [ih h.2]; rfl

theorem Evs.args {a : Expr} {es : List Expr} {ds : List PyData} {f : Value} {pos : Pos} {s : Shared} {m : Str → Option Value} {Z₀ Z : Addr → Prop} {Q : Args → Shared → Prop} (h : Evs C A env Γ (a :: es) μ ds) (hn : notStar a = true) (I : In C A env Z₀ Z Γ m s.heap)
    (k : ∀ vs s', Kp A s s' → In C A env Z₀ Z Γ m s'.heap → Rds C.prog C.w (sel μ Z) s'.heap vs ds → Q ⟨vs, []⟩ s') : wpAny C.M A (evalArgs f true (backTo pos (starEach (a :: es) env)) []) Q E s := by
  have := h.go (E := E) (pos := pos) I (Q := fun vs s' => Q ⟨vs, []⟩ s') k
  rw [starEach_cons hn] at this ⊢
  exact Calls.evalArgs_plain this

theorem ev_call {k : Nat} {x : Str} {f : Addr} {o : Obj} {fd : FuncData} {a : Expr} {es : List Expr} {ds : List PyData} {p pos : Pos} (hA : OkA A k) (hx : isGlob env x = true) (hm : C.mg x = some (.ref f)) (ho : C.K.lookup f = some o) (hf : o.data = .func fd)
    (ha : Evs C A env Γ (a :: es) μ ds) (hn : notStar a = true) (hfn : FnOk C k f ds d) : Ev C A env Γ (.Call (.Name x p) (a :: es) [] pos) μ d := fun E s m Z₀ Z I =>
  Call_Name rfl (loadGlob I hx hm (Calls.callWith_function (ha.args hn I fun vs s' kp I' r => ⟨⟨I'.base.k _ _ ho, hf⟩, by
    rw [List.nil_append]
    exact wpAny_mono (hfn A E s' (sel μ Z) vs hA I'.fr I'.base (I'.zsel μ) r) (fun v s'' ⟨kp', r'⟩ => ⟨kp.trans kp', r'⟩) fun _ _ x => x⟩)))

theorem bindL_not {kindOf : Str → Option NameKind} : ∀ {bs : List (Str × Value)} {m : Str → Option Value} {x : Str}, x ∉ bs.map (·.1) → bindL kindOf bs m x = m x
  | [], _, _, _ => rfl
  | (n, v) :: r, m, x, h => by
    simp only [List.map_cons, List.mem_cons, not_or] at h
    unfold bindL
    rw [bindL_not h.2]
    split
    · simp [h.1]
    · rfl
theorem bindC_not {kindOf : Str → Option NameKind} : ∀ {bs : List (Str × Value)} {m : Str → Option Value} {x : Str}, x ∉ bs.map (·.1) → bindC kindOf bs m x = m x
  | [], _, _, _ => rfl
  | (n, v) :: r, m, x, h => by
    simp only [List.map_cons, List.mem_cons, not_or] at h
    unfold bindC
    rw [bindC_not h.2]
    split
    · rfl
    · simp [h.1]
theorem bindL_at {kindOf : Str → Option NameKind} : ∀ {bs : List (Str × Value)} {m : Str → Option Value} {x : Str} {v : Value}, (bs.map (·.1)).Nodup → kindOf x = some .local → bs.lookup x = some v → bindL kindOf bs m x = some v
  | [], _, _, _, _, _, h => by cases h
  | (n, u) :: r, m, x, v, nd, hk, h => by
    simp only [List.map_cons, List.nodup_cons] at nd
    unfold bindL
    rw [List.lookup_cons] at h
    by_cases hx : x = n
    · subst hx
      simp only [beq_self_eq_true] at h
      cases h
      rw [bindL_not nd.1, if_pos hk]; simp
    · have : (x == n) = false := by simpa using hx
      rw [this] at h
      exact bindL_at nd.2 hk h
theorem bindC_at {kindOf : Str → Option NameKind} : ∀ {bs : List (Str × Value)} {m : Str → Option Value} {x : Str} {v : Value}, (bs.map (·.1)).Nodup → kindOf x ≠ some .local → bs.lookup x = some v → bindC kindOf bs m x = some v
  | [], _, _, _, _, _, h => by cases h
  | (n, u) :: r, m, x, v, nd, hk, h => by
    simp only [List.map_cons, List.nodup_cons] at nd
    unfold bindC
    rw [List.lookup_cons] at h
    by_cases hx : x = n
    · subst hx
      simp only [beq_self_eq_true] at h
      cases h
      rw [bindC_not nd.1, if_neg hk]; simp
    · have : (x == n) = false := by simpa using hx
      rw [this] at h
      exact bindC_at nd.2 hk h

theorem zip_ents {Z : Addr → Prop} {h : Heap} : ∀ {ps : List Str} {vs : List Value} {ds : List PyData} {x : Str} {e : Ent}, Rds C.prog C.w Z h vs ds → (ps.zip (ds.map Ent.fz)).lookup x = some e → ∃ v d, (ps.zip vs).lookup x = some v ∧ e = .fz d ∧ Rd C.prog C.w Z h v d
  | [], _, _, _, _, _, l => by simp at l
  | p :: ps, _, _, x, e, .nil, l => by simp at l
  | p :: ps, _, _, x, e, .cons (v := v) (d := d) a b, l => by
    simp only [List.map_cons, List.zip_cons_cons, List.lookup_cons] at l ⊢
    by_cases hx : x = p
    · have hb : (x == p) = true := by simpa using hx
      rw [hb] at l ⊢
      cases l
      exact ⟨v, d, rfl, rfl, a⟩
    · have hb : (x == p) = false := by simpa using hx
      rw [hb] at l ⊢
      exact zip_ents b l

structure FnDef (C : Cx) (f : Addr) (fd : FuncData) (ps : List Str) (body : List Stmt) : Prop where
  obj : ∃ o, C.K.lookup f = some o ∧ o.data = .func fd
  code : ∀ h, Base C h → h.CodeRec fd.code fd.qualname
  body : fd.body = .stmts body
  clo : fd.closure = []
  glob : fd.globals = mainGlobals
  blt : fd.builtins = builtinsNs
  bind : ∀ vs : List Value, vs.length = ps.length → bindArgs fd ⟨vs, []⟩ = pure (ps.zip vs)
  nd : ps.Nodup
  kinds : (ps.all fun x => fd.scope.names.lookup x == some .local || (fd.scope.names.lookup x == some .cell && ((cellsFrom 0 fd.scope.names []).lookup x).isSome)) = true
  cells : ((cellsFrom 0 fd.scope.names []).all fun p => fd.scope.names.lookup p.1 != some .local) = true
  co : fd.scope.isCoroutine = false
  gen : fd.scope.isGenerator = false
  kind : fd.scope.kind = .function
  acc : fd.scope.names.lookup (".acc" : Str) = none

theorem cellsFrom_keys : ∀ (names : List (Str × NameKind)) (a b : Nat) (acc acc' : List (Str × Addr)), acc.map (·.1) = acc'.map (·.1) → (cellsFrom a names acc).map (·.1) = (cellsFrom b names acc').map (·.1)
  | [], _, _, _, _, h => h
  | (n, k) :: r, a, b, acc, acc', h => by
    unfold cellsFrom
    split
    · exact cellsFrom_keys r _ _ _ _ (by simp [h])
    · exact cellsFrom_keys r _ _ _ _ h
theorem lookup_isSome_iff {α : Type} : ∀ {l : List (Str × α)} {x : Str}, (l.lookup x).isSome = true ↔ x ∈ l.map (·.1)
  | [], x => by simp
  | (k, v) :: r, x => by
    rw [List.lookup_cons]
    by_cases h : x = k
    · have hb : (x == k) = true := by simpa using h
      rw [hb]; simp [h]
    · have hb : (x == k) = false := by simpa using h
      rw [hb]
      show (r.lookup x).isSome = true ↔ _
      rw [lookup_isSome_iff]; simp [h]

theorem Ext.undeeper {A : Around} {env : Env} {h h' : Heap} (x : Ext (A.deeper env) h h') (hn : ∀ L, env.frame = some L → h.get? L = none) : Ext A h h' := fun b o e => by
  rcases x b o e with q | ⟨⟨l, hl, env', he, hf⟩, r⟩
  · exact .inl q
  · refine .inr ⟨?_, r⟩
    have hl' : A.frames.map (env :: ·) = some l := hl
    cases hA : A.frames with
    | none => rw [hA] at hl'; cases hl'
    | some l₀ =>
      rw [hA] at hl'
      cases hl'
      rcases List.mem_cons.mp he with rfl | he
      · rw [hn b hf] at e; cases e
      · exact ⟨l₀, hA, env', he, hf⟩
theorem frOk_call {A : Around} {env : Env} {s s₁ : Shared} {m : Str → Option Value} {A' : Around} (x : FrOk A s.heap) (k : Ext A' s.heap s₁.heap) (ic : s₁.heap.Ns env.locals m) (ifr : ∃ o, s₁.heap.get? env.locals = some o ∧ o.cls = .type "frame") (hf : env.frame = some env.locals) (hk : env.scope.kind = .function) : FrOk (A.deeper env) s₁.heap := by
  obtain ⟨l, hl, hx⟩ := x.keep k
  refine ⟨env :: l, by show A.frames.map (env :: ·) = _; rw [hl]; rfl, fun env' he => ?_⟩
  rcases List.mem_cons.mp he with rfl | he
  · obtain ⟨o, es, ep, ho, hd, _⟩ := ic
    obtain ⟨o', ho', hc'⟩ := ifr
    rw [ho] at ho'; cases ho'
    exact ⟨by rw [hk]; decide, _, o, hf, ho, hc', es, ep, hd⟩
  · exact hx env' he

theorem fn_run {k : Nat} {f : Addr} {fd : FuncData} {ps : List Str} {body : List Stmt} {ds : List PyData} (D : FnDef C f fd ps body) (hlen : ds.length = ps.length) {A : Around} {s : Shared} {Z : Addr → Prop} {vs : List Value} {R : Result → Shared → Prop}
    (hA : OkA A (k + 1)) (hfr : FrOk A s.heap) (B : Base C s.heap) (hz : Zok C Z s.heap) (r : Rds C.prog C.w Z s.heap vs ds)
    (hb : ∀ s₁, (∀ x, Owned (callEnvC fd s.heap.objs.size f) s.heap x) → St C (A.deeper (callEnvC fd s.heap.objs.size f)) (callEnvC fd s.heap.objs.size f) s Z [] [] (ps.zip (ds.map .fz)) s₁ →
      wpAny C.M (A.deeper (callEnvC fd s.heap.objs.size f)) (execs body (callEnvC fd s.heap.objs.size f)) (fun f s' => R (.ok (.ret (match f with | .ret v => v | _ => .none))) s')
        (fun e s' => wpAny C.M (A.deeper (callEnvC fd s.heap.objs.size f)) (leaving (callEnvC fd s.heap.objs.size f) e) (fun _ s'' => R (.error e) s'') (fun e' s'' => R (.error e') s'') s') s₁) :
    codeAny C.M A (.call (.ref f) ⟨vs, []⟩) R s := by
  obtain ⟨o, ho, hd⟩ := D.obj
  have hvl : vs.length = ps.length := by rw [r.length, hlen]
  have hkeys : (ps.zip vs).map (·.1) = ps := by
    rw [← List.unzip_fst, List.unzip_zip (by omega)]
  have hk2 : ∀ (n : Nat) (x : Str), ((cellsFrom n fd.scope.names []).lookup x).isSome = ((cellsFrom 0 fd.scope.names []).lookup x).isSome := fun n x => by
    rw [Bool.eq_iff_iff, lookup_isSome_iff, lookup_isSome_iff, cellsFrom_keys fd.scope.names n 0 [] [] rfl]
  refine callF (by have := hA.dp; omega) (B.k _ _ ho) hd B.lim (D.code _ B) D.body (D.bind vs hvl) D.clo (fun x hx => ?_) (fun s₁ x => ?_) D.co D.gen D.kind
  · have hm : x.1 ∈ ps := by rw [← hkeys]; exact List.mem_map_of_mem hx
    have := List.all_eq_true.mp D.kinds x.1 hm
    simp only [Bool.or_eq_true, Bool.and_eq_true, beq_iff_eq] at this
    rcases this with q | ⟨q, q'⟩
    · exact .inl q
    · exact .inr ⟨q, by rw [hk2]; exact q'⟩
  · obtain ⟨h₁, tk, rfl, keep⟩ := x.c.done
    have hL : (callEnvC fd s.heap.objs.size f).locals = s.heap.objs.size := rfl
    have hnew : ∀ a, s.heap.objs.size ≤ a → s.heap.get? a = none := fun a ha => Heap.get?_none_of_le ha
    have hreZ : ∀ a o, s.heap.get? a = some o → (Z a ∨ (s.heap.get? a = none ∧ ∃ o, h₁.get? a = some o)) → Z a := fun a o e q => q.elim id fun q => by rw [q.1] at e; cases e
    have keepE : Ext (A.deeper (callEnvC fd s.heap.objs.size f)) s.heap h₁ := .of keep
    have S : StW C (A.deeper (callEnvC fd s.heap.objs.size f)) (callEnvC fd s.heap.objs.size f) s.heap Z [] [] (ps.zip (ds.map .fz)) h₁ (fun a => Z a ∨ (s.heap.get? a = none ∧ ∃ o, h₁.get? a = some o))
        (fun y => if (callEnvC fd s.heap.objs.size f).kindOf y = some .local then bindL (callEnvC fd s.heap.objs.size f).kindOf (ps.zip vs) (fun _ => none) y else bindC (callEnvC fd s.heap.objs.size f).kindOf (ps.zip vs) (fun _ => none) y) := by
      have hns := x.c.toInCall.ns
      have zc' : ∀ y c, (callEnvC fd s.heap.objs.size f).cells.lookup y = some c → (Z c ∨ (s.heap.get? c = none ∧ ∃ o, h₁.get? c = some o)) := fun y c hc => by
        have ha := x.c.above y c (mem_of_lookup hc)
        have hn := hnew c (Nat.le_of_lt ha)
        obtain ⟨o, ho, _⟩ := x.c.cell y c hc
        exact .inr ⟨hn, o, ho⟩
      have cd' : ∀ y y' c, (callEnvC fd s.heap.objs.size f).cells.lookup y = some c → (callEnvC fd s.heap.objs.size f).cells.lookup y' = some c → y = y' := fun y y' c hc hc' => name_of_addr x.c.apart (mem_of_lookup hc) (mem_of_lookup hc')
      refine ⟨⟨⟨D.kind, D.glob, D.blt, D.acc⟩, ⟨⟨_, hns, fun y hy => by rw [if_pos hy]⟩, fun y c hc => ?_, fun v q => ?_⟩, fun y e l => ?_, B.keep keepE, ⟨fun a q => ?_, fun a q => ?_⟩, ?_, zc', cd'⟩, B, keepE, fun a q => ⟨.inl q, hz.st a q⟩, .inr ⟨hnew _ (Nat.le_refl _), ?_⟩, hnew _ (Nat.le_refl _), zc', cd', fun p hp => (nomatch hp), fun p hp => (nomatch hp), fun y es a l => ?_⟩
      · have hkl : ¬ (callEnvC fd s.heap.objs.size f).kindOf y = some .local := by
          have hy : y ∈ (cellsFrom 0 fd.scope.names []).map (·.1) := by
            rw [cellsFrom_keys fd.scope.names 0 (s.heap.objs.size + 1) [] [] rfl]
            exact List.mem_map_of_mem (f := (·.1)) (mem_of_lookup hc)
          obtain ⟨p, hp, rfl⟩ := List.mem_map.mp hy
          have := List.all_eq_true.mp D.cells p hp
          intro q
          have q' : fd.scope.names.lookup p.1 = some .local := q
          rw [q'] at this
          exact absurd this (by decide)
        rw [if_neg hkl]
        exact x.c.cell y c hc
      · have hna : (".acc" : Str) ∉ (ps.zip vs).map (·.1) := by
          rw [hkeys]
          intro hin
          have := List.all_eq_true.mp D.kinds _ hin
          rw [D.acc] at this
          simp at this
        have hk : ¬ (callEnvC fd s.heap.objs.size f).kindOf ".acc" = some .local := by
          intro q
          have q' : fd.scope.names.lookup (".acc" : Str) = some .local := q
          rw [D.acc] at q'; cases q'
        rw [if_neg hk, bindC_not hna] at q; cases q
      · obtain ⟨v, d', l', rfl, rd⟩ := zip_ents r l
        have nd : ((ps.zip vs).map (·.1)).Nodup := by rw [hkeys]; exact D.nd
        split
        · rename_i hk
          rw [bindL_at nd hk l']
          exact (rd.reZ hreZ).keep keepE
        · rename_i hk
          rw [bindC_at nd hk l']
          exact (rd.reZ hreZ).keep keepE
      · rcases q with q | q
        · obtain ⟨o, e⟩ := hz.st a q; exact ⟨o, keep _ _ e⟩
        · exact q.2
      · rcases q with q | q
        · exact hz.k a q
        · cases e : C.K.lookup a with
          | none => rfl
          | some o => have := B.k _ _ e; rw [q.1] at this; cases this
      · exact frOk_call (s := s) (s₁ := { s with heap := h₁, toks := tk }) hfr keepE x.c.toInCall.ns x.fr rfl D.kind
      · obtain ⟨o, _, _, ho, _⟩ := hns; exact ⟨o, ho⟩
      · obtain ⟨v, d', l', q, _⟩ := zip_ents r l
        cases q
    exact hb { s with heap := h₁, toks := tk } (fun y c hc => hnew c (Nat.le_of_lt (x.c.above y c (mem_of_lookup hc)))) ⟨⟨h₁, tk, rfl⟩, _, _, S⟩

theorem fn_intro {k : Nat} {f : Addr} {fd : FuncData} {ps : List Str} {body : List Stmt} {ds : List PyData} (D : FnDef C f fd ps body) (hlen : ds.length = ps.length)
    (hb : ∀ A L s₀ Z₀ E, OkA A k → (∀ x, Owned (callEnvC fd L f) s₀.heap x) → (∃ outer, A.frames = some (callEnvC fd L f :: outer)) → Ex C A (callEnvC fd L f) s₀ Z₀ E (ps.zip (ds.map .fz)) body (fun o => o = .ret d)) : FnOk C (k + 1) f ds d := fun A E s Z vs hA hfr B hz r => by
  refine wpAny_call (fn_run D hlen hA hfr B hz r fun s₁ hO S => ?_)
  have hf : ∃ outer, (A.deeper (callEnvC fd s.heap.objs.size f)).frames = some (callEnvC fd s.heap.objs.size f :: outer) := by
    obtain ⟨l, hl, _⟩ := hfr
    exact ⟨l, by show A.frames.map _ = _; rw [hl]; rfl⟩
  refine wpAny_mono (hb (A.deeper (callEnvC fd s.heap.objs.size f)) s.heap.objs.size s Z _ (hA.deeper _) hO hf [] [] s₁ S) (fun fl s' ⟨sm, ou, hp, ok⟩ => ?_) fun _ _ x => x
  subst hp
  cases fl with
  | ret v =>
    obtain ⟨ex, rd⟩ := ok
    obtain ⟨h', tk', rfl⟩ := S.1.trans sm
    exact ⟨⟨⟨h', tk', rfl⟩, ex.undeeper fun L hL => by cases hL; exact Heap.get?_none_of_le (Nat.le_refl _)⟩, rd⟩
  | _ => exact ok.elim
end
end

section
set_option autoImplicit false
set_option linter.unusedVariables false
open PySem PyProof.Rows

section
variable {C : Cx} {A : Around} {env : Env} {Γ Γ₁ Γ₂ : Tab} {e e₁ e₂ : Expr} {μ μ₁ μ₂ : Bool} {d d₁ d₂ : PyData} {h₀ : Heap} {Z₀ : Addr → Prop} {E : Value → Shared → Prop} {Post : Out → Prop}

structure Blt (C : Cx) (env : Env) (x : Str) (v : Value) : Prop where
  g : isGlob env x = true
  m : C.mg x = none
  b : C.mb x = some v

theorem callBlt {x : Str} {id : String} {a : Expr} {es : List Expr} {ds : List PyData} {p pos : Pos} {s : Shared} {m : Str → Option Value} {Z₀ Z : Addr → Prop} {Q : Value → Shared → Prop} (hb : Blt C env x (.builtin id)) (hn : (a :: es).all notStar = true) (ha : Evs C A env Γ (a :: es) μ ds) (I : In C A env Z₀ Z Γ m s.heap)
    (k : ∀ vs s', Kp A s s' → In C A env Z₀ Z Γ m s'.heap → Rds C.prog C.w (sel μ Z) s'.heap vs ds → wpAny C.M A (call (.builtin id) vs []) Q E s') : wpAny C.M A (eval (.Call (.Name x p) (a :: es) [] pos) env) Q E s := by
  refine Call_Name rfl (loadBlt I hb.g hb.m hb.b (Calls.callWith_builtin (starEach_any hn) (ha.args (by simp only [List.all_cons, Bool.and_eq_true] at hn; exact hn.1) I fun vs s' kp I' r => ?_)))
  rw [List.nil_append]; exact k vs s' kp I' r
theorem callTyp {x : Str} {T : String} {a : Expr} {es : List Expr} {ds : List PyData} {p pos : Pos} {s : Shared} {m : Str → Option Value} {Z₀ Z : Addr → Prop} {Q : Value → Shared → Prop} (hb : Blt C env x (.type T)) (hn : (a :: es).all notStar = true) (ha : Evs C A env Γ (a :: es) μ ds) (I : In C A env Z₀ Z Γ m s.heap)
    (k : ∀ vs s', Kp A s s' → In C A env Z₀ Z Γ m s'.heap → Rds C.prog C.w (sel μ Z) s'.heap vs ds → wpAny C.M A (call (.type T) vs []) Q E s') : wpAny C.M A (eval (.Call (.Name x p) (a :: es) [] pos) env) Q E s := by
  refine Call_Name rfl (loadBlt I hb.g hb.m hb.b (PyProof.Rows.callWith_type (starEach_any hn) (ha.args (by simp only [List.all_cons, Bool.and_eq_true] at hn; exact hn.1) I fun vs s' kp I' r => ?_)))
  rw [List.nil_append]; exact k vs s' kp I' r

noncomputable def lenD : PyData → Option Nat
  | .list ds | .tuple ds => some ds.length
  | .str x => some x.length
  | _ => none
theorem ev_len {x : Str} {p pos : Pos} {n : Nat} (hb : Blt C env x (.builtin "len")) (h : Ev C A env Γ e μ₁ d) (hn : notStar e = true) (hd : lenD d = some n) (hz : n ≤ sizeLine) : Ev C A env Γ (.Call (.Name x p) [e] [] pos) μ (.int n) := fun E s m Z₀ Z I => by
  refine callBlt hb (by simp [hn]) (evs_cons h evs_nil hn) I fun vs s' kp I' r => ?_
  have hz' : (n : Int) < 2 ^ 63 := by
    have : sizeLine = 16777216 := rfl
    omega
  cases r with
  | cons a b =>
    cases b
    cases a with
    | list he z q =>
      cases hd
      have hl := q.length
      simp only [Array.length_toList] at hl
      refine PyProof.Rows.len_list ⟨_, he, rfl, _, rfl⟩ (by rw [hl]; exact hz') ⟨kp.trans (Kp.tok _ _), ?_⟩
      rw [hl]; exact .int _ _
    | tuple he z q =>
      cases hd
      have hl := q.length
      simp only [Array.length_toList] at hl
      refine PyProof.Rows.len_tuple ⟨_, he, rfl, _, rfl⟩ (by rw [hl]; exact hz') ⟨kp.trans (Kp.tok _ _), ?_⟩
      rw [hl]; exact .int _ _
    | str y t hy =>
      cases hd
      exact P.len_str (by omega) ⟨kp.trans (Kp.tok _ _), .int _ _⟩
    | _ => cases hd

theorem src_range {x : Str} {p pos : Pos} {n : Nat} (hA : A.handled = none) (hb : Blt C env x (.type "range")) (h : Ev C A env Γ e μ (.int n)) (hn : notStar e = true) (hz : n ≤ sizeLine) : Src C A env Γ (.Call (.Name x p) [e] [] pos) n (fun i => .int i) := fun E s m Z₀ Z Q I k => by
  refine callTyp hb (by simp [hn]) (evs_cons h evs_nil hn) I fun vs s' kp I' r => ?_
  have hs : sizeLine = 16777216 := rfl
  cases r with
  | cons a b =>
    cases b
    cases a with
    | int i t =>
      refine call_range_1 ?_
      refine wpAny_pyIter_range (IsRange.new ..) (small_one (by omega) (by omega) (by omega) (by omega)) ?_
      have hsz : Builtin.Range.rangeSize 0 (n : Int) 1 = (n : Int) := by rw [rangeSize_one]; split <;> omega
      rw [hsz]
      have W := wk_range (C := C) (I := (s'.heap.push { cls := .type "range", data := .fields #[.int 0 s'.toks, .int n t, .int 1 (s'.toks + 1)] }).objs.size) hA 0 n
      have hd : (fun i : Nat => PyData.int (0 + (i : Int))) = fun i : Nat => PyData.int i := funext fun i => by rw [Int.zero_add]
      rw [hd] at W
      exact k { s' with heap := s'.heap.push { cls := .type "range", data := .fields #[.int 0 s'.toks, .int n t, .int 1 (s'.toks + 1)] }, toks := s'.toks + 1 + 1 } _ _ _ _ (kp.trans ⟨⟨_, _, rfl⟩, Ext.push _⟩) rfl (by simp) W (fun p hp => nomatch hp) fun p hp => nomatch hp
end
end

section
set_option autoImplicit false
set_option linter.unusedVariables false
open PySem PyProof.Rows
open Builtin Builtin.Str

theorem strOk_iff {x : Str} : PyData.strOk x = true ↔ ∀ c ∈ x.cps.toList, c < 0x110000 := by
  unfold PyData.strOk
  rw [← Array.all_toList, List.all_eq_true]
  simp
theorem strOk_empty : PyData.strOk Str.empty = true := by rw [strOk_iff]; intro c hc; exact absurd hc (by simp [Str.empty])
theorem strOk_ofString (x : String) : PyData.strOk (Str.ofString x) = true := by
  rw [strOk_iff, signs_ofString]
  intro c hc
  obtain ⟨ch, _, rfl⟩ := List.mem_map.mp hc
  have := ch.valid
  have h2 : ch.toNat = ch.val.toNat := rfl
  rcases this with h | ⟨_, h⟩
  · have : ch.val.toNat < 0xd800 := h
    omega
  · have : ch.val.toNat < 0x110000 := h
    omega
theorem cps_append (x y : Str) : (x ++ y).cps.toList = x.cps.toList ++ y.cps.toList := by
  rw [Str.cps_append, Array.toList_append]
theorem strOk_join_mem (sep : Str) : ∀ (ts : List Str), PyData.strOk (Str.join sep ts) = true → ∀ t ∈ ts, PyData.strOk t = true
  | [], _, _, h => nomatch h
  | [x], hx, t, h => by cases List.mem_singleton.mp h; exact hx
  | x :: y :: r, hx, t, h => by
    have e : Str.join sep (x :: y :: r) = x ++ sep ++ Str.join sep (y :: r) := rfl
    rw [strOk_iff, e, cps_append, cps_append] at hx
    rcases List.mem_cons.mp h with rfl | h
    · exact strOk_iff.mpr fun c hc => hx c (by simp [hc])
    · exact strOk_join_mem sep (y :: r) (strOk_iff.mpr fun c hc => hx c (by simp [hc])) t h
theorem strOk_join {sep : Str} (hs : PyData.strOk sep = true) : ∀ (ts : List Str), (∀ t ∈ ts, PyData.strOk t = true) → PyData.strOk (Str.join sep ts) = true
  | [], _ => strOk_empty
  | [x], h => h x List.mem_cons_self
  | x :: y :: r, h => by
    have e : Str.join sep (x :: y :: r) = x ++ sep ++ Str.join sep (y :: r) := rfl
    rw [e]
    exact strOk_append (strOk_append (h x List.mem_cons_self) hs) (strOk_join hs (y :: r) fun t ht => h t (List.mem_cons_of_mem _ ht))
theorem strOk_split {x y : Str} (hx : PyData.strOk x = true) : ∀ p ∈ Txt.split x y, PyData.strOk p = true :=
  strOk_join_mem y _ (by rw [StrLaws.join_split]; exact hx)

section
variable {C : Cx} {A : Around} {env : Env} {Γ Γ₁ Γ₂ : Tab} {e e₁ e₂ : Expr} {μ μ₁ μ₂ : Bool} {d d₁ d₂ : PyData}

theorem rds_strs {Z : Addr → Prop} {h : Heap} : ∀ {l : List (Str × Tok)}, (∀ p ∈ l, PyData.strOk p.1 = true) → Rds C.prog C.w Z h (strValues l) ((l.map (·.1)).map .str)
  | [], _ => .nil
  | (x, t) :: r, hl => .cons (.str x t (hl _ List.mem_cons_self)) (rds_strs fun p hp => hl p (List.mem_cons_of_mem _ hp))
theorem rds_strs_inv {Z : Addr → Prop} {h : Heap} : ∀ {vs : List Value} {ts : List Str}, Rds C.prog C.w Z h vs (ts.map .str) → ∃ l, vs = strValues l ∧ l.map (·.1) = ts ∧ ∀ t ∈ ts, PyData.strOk t = true
  | _, [], r => by cases r; exact ⟨[], rfl, rfl, fun _ h => nomatch h⟩
  | _, x :: ts, r => by
    cases r with
    | cons a b =>
      cases a with
      | str _ t hx =>
        obtain ⟨l, rfl, rfl, hl⟩ := rds_strs_inv b
        refine ⟨(x, t) :: l, rfl, rfl, fun u hu => ?_⟩
        rcases List.mem_cons.mp hu with rfl | hu
        · exact hx
        · exact hl u hu

theorem split_op {x y : Str} {t u : Tok} {s : Shared} {E : Value → Shared → Prop} {Q : Value → Shared → Prop} {Z : Addr → Prop} (hx : PyData.strOk x = true) (hy : 1 ≤ y.length) (hz : x.length < sizeLine) (nz : ¬ Z s.heap.objs.size)
    (k : ∀ v s', Kp A s s' → Rd C.prog C.w Z s'.heap v (.list ((Txt.split x y).map .str)) → Q v s') :
    ∃ S, Meets («str.split» ⟨[.str x t, .str y u], []⟩) S ∧ S A (wants Q E) s := by
  have hy' : (y.length == 0) = false := by simp; omega
  have hp : ∀ p ∈ Txt.split x y, PyData.strOk p = true := strOk_split hx
  have mk : ∀ (l : List (Str × Tok)) (tk : Nat), l.map (·.1) = Txt.split x y → Q (.ref s.heap.objs.size) { s with heap := s.heap.push { cls := .type "list", data := .seq (strValues l).toArray }, toks := tk } := fun l tk hl => by
    refine k _ _ ⟨⟨_, _, rfl⟩, Ext.push _⟩ (.list (n := 0) (Heap.get?_push_size _ rfl) nz ?_)
    rw [← hl]
    exact rds_strs fun p hp' => hp _ (by rw [← hl]; exact List.mem_map_of_mem hp')
  cases h1 : (decide (x.length < y.length) || decide (strKind x < strKind y))
  · cases hf : (occurrences x y 0 x.length (x.length + 1)).isEmpty
    · have he : Txt.split x y = partsBetween x (occurrences x y 0 x.length (x.length + 1)) y.length := (if_neg (ne_true_of_eq_false h1)).trans (if_neg (ne_true_of_eq_false hf))
      have hn : (partsBetween x (occurrences x y 0 x.length (x.length + 1)) y.length).length ≤ sizeLine := by
        rw [← he]
        have := split_weight x y hy
        omega
      refine ⟨_, meets_str_split_sep x y t u h1 hy' hf (Nat.le_of_lt hz) hn, ?_⟩
      show wants Q E _ { s with toks := _, heap := s.heap.push { cls := .type "list", data := .seq (strsFrom s.toks (partsBetween x (occurrences x y 0 x.length (x.length + 1)) y.length)).toArray } }
      rw [strsFrom_eq]
      exact mk (numbered s.toks _) _ ((numbered_texts _ _).trans he.symm)
    · exact ⟨_, meets_str_split_not_found x y t u h1 hy' hf, mk [(x, t)] s.toks ((if_neg (ne_true_of_eq_false h1)).trans (if_pos hf)).symm⟩
  · exact ⟨_, meets_str_split_cannot_occur x y t u h1, mk [(x, t)] s.toks (if_pos h1).symm⟩

theorem ev_split {ap cp : Pos} {x y : Str} (h₁ : Ev C A env Γ e₁ μ₁ (.str x)) (h₂ : Ev C A env Γ e₂ μ₂ (.str y)) (hb : attributeBase e₁ "split" env (eval e₁ env) = eval e₁ env) (hn : notStar e₂ = true) (hline : (ap.endLine == cp.line) = true) (hy : 1 ≤ y.length) (hz : x.length < sizeLine) :
    Ev C A env Γ (.Call (.Attribute e₁ "split" ap) [e₂] [] cp) μ (.list ((Txt.split x y).map .str)) := fun E s m Z₀ Z I => by
  refine Call_method1 hb (by rw [starEach_cons hn]; rfl) hline (h₁.go I fun v s₁ k₁ I₁ r₁ => ?_)
  cases r₁ with
  | str _ t hx =>
    refine ⟨"str", _, F.plainAttrs_str, F.slot_str_split, F.type_str_split, typeIs_str _ _ _, (fun _ e => nomatch e), method1_meets F.slot_str_split F.entry_str_split (h₂.go I₁ fun u s₂ k₂ I₂ r₂ => ?_)⟩
    cases r₂ with
    | str _ u _ => exact ⟨typeIs_str _ _ _, F.args_str_split_2 _ _, split_op hx hy hz (I₂.sel μ) fun v s' k r => ⟨(k₁.trans k₂).trans k, r⟩⟩

theorem ev_join {ap cp : Pos} {x : Str} {ts : List Str} (h₁ : Ev C A env Γ e₁ μ₁ (.str x)) (h₂ : Ev C A env Γ e₂ μ₂ (.list (ts.map .str))) (hb : attributeBase e₁ "join" env (eval e₁ env) = eval e₁ env) (hn : notStar e₂ = true) (hline : (ap.endLine == cp.line) = true)
    (hz : (ts.map (·.length)).sum + ts.length * x.length ≤ 16777216) : Ev C A env Γ (.Call (.Attribute e₁ "join" ap) [e₂] [] cp) μ (.str (Str.join x ts)) := fun E s m Z₀ Z I => by
  refine Call_method1 hb (by rw [starEach_cons hn]; rfl) hline (h₁.go I fun v s₁ k₁ I₁ r₁ => ?_)
  cases r₁ with
  | str _ t hx =>
    refine SB.join (h₂.go I₁ fun u s₂ k₂ I₂ r₂ => ?_)
    cases r₂ with
    | @list a vs n _ he z q =>
      obtain ⟨l, hv, hl, hok⟩ := rds_strs_inv q
      refine ⟨a, l, rfl, ?_, ts, hl, joinOk_of hz, fun t' k => ⟨(k₁.trans k₂).trans (Kp.tok _ _), ?_⟩⟩
      · rw [← hv]; exact ⟨_, he, rfl, _, rfl⟩
      · show Rd _ _ _ _ (.str (glued x ts) t') _
        rw [StrLaws.glued_eq_join]
        exact .str _ _ (strOk_join hx ts hok)

theorem ev_starts {ap cp : Pos} {x y : Str} (h₁ : Ev C A env Γ e₁ μ₁ (.str x)) (h₂ : Ev C A env Γ e₂ μ₂ (.str y)) (hb : attributeBase e₁ "startswith" env (eval e₁ env) = eval e₁ env) (hn : notStar e₂ = true) (hline : (ap.endLine == cp.line) = true) :
    Ev C A env Γ (.Call (.Attribute e₁ "startswith" ap) [e₂] [] cp) μ (.bool (Txt.startswith x y)) := fun E s m Z₀ Z I => by
  refine Call_method1 hb (by rw [starEach_cons hn]; rfl) hline (h₁.go I fun v s₁ k₁ I₁ r₁ => ?_)
  cases r₁ with
  | str _ t hx =>
    refine SB.startswith (h₂.go I₁ fun u s₂ k₂ I₂ r₂ => ?_)
    cases r₂ with
    | str _ u _ => exact ⟨y, u, rfl, k₁.trans k₂, .bool _⟩

noncomputable def EvT (C : Cx) (A : Around) (env : Env) (Γ : Tab) (e : Expr) (x : Str) : Prop := Ev C A env Γ e true (.str x)
noncomputable def EvTs (C : Cx) (A : Around) (env : Env) (Γ : Tab) : List Expr → List Str → Prop
  | [], [] => True
  | e :: es, x :: xs => EvT C A env Γ e x ∧ EvTs C A env Γ es xs
  | _, _ => False
noncomputable def catAll : Str → List Str → Str
  | acc, [] => acc
  | acc, x :: r => catAll (acc ++ x) r
theorem ev_fstr_go {E : Value → Shared → Prop} {m : Str → Option Value} {Z₀ Z : Addr → Prop} : ∀ {es : List Expr} {xs : List Str} {acc : Str} {s₀ s : Shared}, EvTs C A env Γ es xs → Kp A s₀ s → In C A env Z₀ Z Γ m s.heap → PyData.strOk acc = true → acc.length + (xs.map (·.length)).sum ≤ sizeLine →
    wpAny C.M A (joinParts acc (evalEach es env)) (fun v s' => Kp A s₀ s' ∧ Rd C.prog C.w (sel μ Z) s'.heap v (.str (catAll acc xs))) E s
  | [], [], acc, s₀, s, _, k, I, ha, hz => joinParts_nil ⟨k.trans (Kp.tok _ _), .str _ _ ha⟩ (by simpa using hz)
  | [], _ :: _, _, _, _, h, _, _, _, _ => h.elim
  | _ :: _, [], _, _, _, h, _, _, _, _ => h.elim
  | e :: es, x :: xs, acc, s₀, s, h, k, I, ha, hz => by
    show wpAny C.M A (joinParts acc (eval e env :: evalEach es env)) _ E s
    simp only [List.map_cons, List.sum_cons] at hz
    refine joinParts_cons (h.1.go I fun v s' k' I' r => ?_)
    cases r with
    | str _ t hx =>
      refine ⟨by rw [Str.length_append]; omega, ev_fstr_go h.2 (k.trans k') I' (strOk_append ha hx) (by rw [Str.length_append]; omega)⟩
theorem ev_fstr {e₁ e₂ : Expr} {es : List Expr} {xs : List Str} {pos : Pos} (h : EvTs C A env Γ (e₁ :: e₂ :: es) xs) (hz : (xs.map (·.length)).sum ≤ sizeLine) : Ev C A env Γ (.JoinedStr (e₁ :: e₂ :: es) pos) μ (.str (catAll Str.empty xs)) := fun E s m Z₀ Z I =>
  JoinedStr_many (ev_fstr_go h (Kp.refl s) I strOk_empty (by rw [show Str.empty.length = 0 from by decide, Nat.zero_add]; exact hz))
theorem ev_field_int {i : Int} {pos : Pos} (h : Ev C A env Γ e μ (.int i)) (hi : i.natAbs < 10 ^ 9) : EvT C A env Γ (.FormattedValue e (-1) none pos) (Str.ofString (toString i)) := fun E s m Z₀ Z I => by
  refine PyProof.Rows.FormattedValue_plain (h.go I fun v s' k I' r => ?_)
  cases r with
  | int _ t =>
    refine formatField_int_small ?_ ⟨k.trans (Kp.tok _ _), .str _ _ (strOk_ofString _)⟩
    rcases Nat.eq_zero_or_pos i.natAbs with h0 | h0
    · rw [h0]; decide
    · refine (Nat.log2_lt (by omega)).mpr (Nat.lt_of_lt_of_le hi ?_)
      exact Nat.le_trans (by decide : 10 ^ 9 ≤ 2 ^ 30) (Nat.pow_le_pow_right (n := 2) (i := 30) (j := 1920) (by omega) (by omega))
end
end

section
set_option autoImplicit false
set_option linter.unusedVariables false
open PySem
open Sem (wp)

theorem dropName_cls (name : Str) (o : Obj) : (Obj.dropName name o).cls = o.cls := by
  obtain ⟨c, d, dt, sl⟩ := o
  rw [Obj.dropName_eq]
  cases dt <;> simp only [Obj.dropNameByArray]
  split <;> rfl

theorem nsDel_cls {M : Model} {A : Around} {E : Value → Shared → Prop} {s : Shared} {a : Addr} {m : Str → Option Value} {name : Str} {Q : Bool → Shared → Prop} (hn : s.heap.Ns a m) (hs : (m name).isSome = true)
    (h : ∀ h' u, h'.Ns a (fun x => if x = name then u else m x) → Heap.SameBut a s.heap h' → (∀ o, s.heap.get? a = some o → ∃ o', h'.get? a = some o' ∧ o'.cls = o.cls) → Q true { s with heap := h' }) :
    wpAny M A (nsDel a name) Q E s := fun Γ p hΓ => by
  obtain ⟨o, es, ep, ho, hd, hk, hm⟩ := id hn
  have hany : es.any (·.refKey) = false := by
    rw [Array.any_eq_false']; intro e he; obtain ⟨n, t, h⟩ := hk e he; simp [DictEntry.refKey, h]
  have hsome : es.any (·.key.isStr name) = true := by
    rw [← hm name] at hs
    simp only [nsFind, findBy, Option.isSome_map, Array.find?_isSome] at hs
    obtain ⟨x, hx, hp⟩ := hs
    obtain ⟨i, hi, rfl⟩ := Array.mem_iff_getElem.mp hx
    exact Array.any_eq_true.mpr ⟨i, hi, hp⟩
  have hhas : nsHas name o = pure true := by
    rw [nsHas_eq]; unfold nsHasByArray; rw [hd]
    show (if (es.any fun x => x.key.isStr name) = true then _ else _) = _
    rw [if_pos hsome]
  have key : ∀ Q' : Bool → Pos → Shared → Prop, wp M Γ (nsDel a name) Q' (fun e _ s' => E e s') p s ↔ Q' true p { s with heap := s.heap.update a (Obj.dropName name) } := by
    intro Q'
    simp only [nsDel, Sem.wp_bind']
    rw [Sem.wp_loadPart_of M Γ _ p s (o := o) _ ho]
    simp only [hhas, Sem.wp_pure', if_true, Sem.wp_bind', Sem.wp_cmd_updatePart]
    simp [ho]
  have q := (key (fun _ _ s' => (∃ u, s'.heap.Ns a (fun x => if x = name then u else m x)) ∧ Heap.SameBut a s.heap s'.heap)).mp (wpAny_nsDel_keeps (E := E) hn (Q := fun _ s' => (∃ u, s'.heap.Ns a (fun x => if x = name then u else m x)) ∧ Heap.SameBut a s.heap s'.heap) (fun h' u h1 h2 => ⟨⟨u, h1⟩, h2⟩) Γ p hΓ)
  obtain ⟨⟨u, q1⟩, q2⟩ := q
  refine (key _).mpr (h _ u q1 q2 fun o' e => ?_)
  exact ⟨_, Heap.get?_update_self _ e (by
    obtain ⟨o₂, es₂, ep₂, ho₂, hd₂, _⟩ := q1
    have hf := (Heap.get?_some_iff.mp ho₂).2
    have hh : s.heap.objs[a]? = some o' := (Heap.get?_some_iff.mp e).1
    have hu : (s.heap.update a (Obj.dropName name)).objs[a]? = some (Obj.dropName name o') := by
      generalize s.heap = hp at hh
      obtain ⟨objs, l⟩ := hp
      simp only [Heap.update, Array.getElem?_modify, if_true]
      simp only at hh
      rw [hh]; rfl
    have hx := (Heap.get?_some_iff.mp ho₂).1
    rw [hu] at hx
    cases hx
    exact hf), dropName_cls _ _⟩
end

section
set_option autoImplicit false
set_option linter.unusedVariables false
set_option maxRecDepth 100000
open PySem PyProof.Rows PySem.W PySem.Builtin PySem.Builtin.Str PySem.Builtin.BaseException PySem.Builtin.Exceptions
open Sem (wp)

noncomputable abbrev bmE : List Value := [.type "Exception", .type "BaseException", .type "object"]

noncomputable def ExcAtK (K : List (Addr × Obj)) (x : Addr) : Prop := ∀ h : Heap, (∀ a o, K.lookup a = some o → h.get? a = some o) →
  ∃ nm q N bs hdct sn sub ab col dd k0 k1 k2 k3 k5 mN, h.get? x = some (excClassObj nm q x N bs bmE hdct sn sub ab col dd k0 k1 k2 k3 k5 "Exception.__new__") ∧ h.Ns N mN ∧ mN "__init__" = none ∧ mN "__str__" = none

section
variable {prog : Program} {w : World} {A : Around} {E : Value → Shared → Prop} {h : Heap} {g : Array GenState} {d : Drawn} {tk : Nat} {os : OsState}
  {nm q : Str} {C N e t0 : Addr} {bs bm bmB : List Value} {hdct : Bool} {sn : List Str} {sub : List Value} {ab : Bool} {col : Option Bool} {dd : Option Addr} {k0 k1 k2 k3 k5 : Option Value} {newId : String} {mN : Str → Option Value} {oe : Obj} {vs : Array Value}

theorem bexcArgs_any {M : Model} {items : List Value} {Q : Value × List Value → Shared → Prop} {s : Shared} (he : s.heap.get? e = some oe) (hd : oe.data = .fields vs) (h0 : vs[0]? = some (.ref t0)) (ht : s.heap.TupAt t0 items) (hq : Q (.ref t0, items) s) :
    wpAny M A (bexcArgs (.ref e)) Q E s := by
  obtain ⟨ot, k, hto, _, htd⟩ := ht
  unfold bexcArgs
  refine wpAny_bind (wpAny_field he hd h0 (wpAny_bind (wpAny_seqItems hto htd ?_)))
  have : items.toArray.toList = items := by simp
  show wpAny M A (pure (Value.ref t0, items.toArray.toList)) Q E s
  rw [this]; exact wpAny_pure hq

theorem bexcStr_any {m : Str} {u : Tok} {Q : Fin → Shared → Prop} {s : Shared} (he : s.heap.get? e = some oe) (hd : oe.data = .fields vs) (h0 : vs[0]? = some (.ref t0)) (ht : s.heap.TupAt t0 [.str m u]) (hq : Q (.done (.ret (.str m u))) s) :
    wpAny (model prog w) A (Builtin.«BaseException.__str__» ⟨[.ref e], []⟩) Q E s := by
  unfold Builtin.«BaseException.__str__»
  repeat (first | with_reducible refine bexcArgs_any he hd h0 ht ?_ | wp_step)
  exact hq

theorem check_str_own {M : Model} {Q : Unit → Shared → Prop} (hC : h.get? C = some (excClassObj nm q C N bs bmE hdct sn sub ab col dd k0 k1 k2 k3 k5 newId))
    (hx : h.get? e = some oe) (hc : oe.cls = .ref C) (hq : Q () ⟨h, g, d, tk, os⟩) : wpAny M A (checkBuiltinCall "BaseException.__str__" ⟨[.ref e], []⟩) Q E ⟨h, g, d, tk, os⟩ := by
  have hk : builtinKind "BaseException.__str__" = some .slot := by decide +kernel
  have hsplit : splitId "BaseException.__str__" = some ("BaseException", "__str__") := by decide +kernel
  have hcB : (Value.ref C :: bmE).contains (.type "BaseException") = true := by rw [List.contains_cons, F.excBase_Exception.hasBase, Bool.or_true]
  have ha := F.args_bexc_str (.ref e)
  simp only [checkBuiltinCall, hk, hsplit]
  refine wpAny_bind ?_
  · unfold isInstance
    repeat (first | (with_reducible refine wpAny_loadPart_at hx ?_; rw [hc]) | (with_reducible refine wpAny_isSubtype_exc hC ?_; rw [hcB]) | wp_step)
    exact hq

theorem call_str_own {m : Str} {u : Tok} {Q : Value → Shared → Prop} (hC : h.get? C = some (excClassObj nm q C N bs bmE hdct sn sub ab col dd k0 k1 k2 k3 k5 newId))
    (hx : h.get? e = some oe) (hc : oe.cls = .ref C) (hd : oe.data = .fields vs) (h0 : vs[0]? = some (.ref t0)) (ht : h.TupAt t0 [.str m u]) (hq : Q (.str m u) ⟨h, g, d, tk, os⟩) :
    wpAny (model prog w) A (call (.builtin "BaseException.__str__") [.ref e]) Q E ⟨h, g, d, tk, os⟩ :=
  wpAny_call (codeAny_call_builtin F.excStr_Exception.str.plain F.entry_bexc_str (check_str_own hC hx hc (bexcStr_any hx hd h0 ht hq)))

theorem strOf_own {m : Str} {u : Tok} {Q : Value → Shared → Prop} (hu : A.units < cLine) (hC : h.get? C = some (excClassObj nm q C N bs bmE hdct sn sub ab col dd k0 k1 k2 k3 k5 newId)) (hN : h.Ns N mN) (hms : mN "__str__" = none)
    (hx : h.get? e = some oe) (hc : oe.cls = .ref C) (hd : oe.data = .fields vs) (h0 : vs[0]? = some (.ref t0)) (ht : h.TupAt t0 [.str m u]) (hq : Q (.str m u) ⟨h, g, d, tk, os⟩) :
    wpAny (model prog w) A (Builtin.Str.strOf (.ref e)) Q E ⟨h, g, d, tk, os⟩ := by
  have hbind := F.excStr_Exception.str.bind (.ref e)
  unfold Builtin.Str.strOf callSpecial? specialOf
  repeat (first | with_reducible refine wpAny_cRoomFor hu ?_ | (with_reducible refine wpAny_loadPart_at hx ?_; rw [hc]) | (with_reducible refine wpAny_typeLookup_exc hC hN (B := "Exception") F.excBase_Exception.mroIs F.excStr_Exception.str.lookup ?_; rw [hms]) | with_reducible refine call_str_own hC hx hc hd h0 ht ?_ | wp_step)
  refine codeAny_call_builtin F.excStr_Exception.str.plain F.entry_bexc_str (check_str_own hC hx hc (bexcStr_any hx hd h0 ht ?_))
  repeat (first | with_reducible refine wpAny_isInstance (typeIs_str _ _ _) isSubtype_str_str ?_ | wp_step)
  exact hq

theorem str_of_own {m : Str} {u : Tok} {Q : Value → Shared → Prop} (hu : A.units + 2 < cLine) (hC : h.get? C = some (excClassObj nm q C N bs bmE hdct sn sub ab col dd k0 k1 k2 k3 k5 newId)) (hN : h.Ns N mN) (hms : mN "__str__" = none)
    (hx : h.get? e = some oe) (hc : oe.cls = .ref C) (hd : oe.data = .fields vs) (h0 : vs[0]? = some (.ref t0)) (ht : h.TupAt t0 [.str m u]) (hq : Q (.str m u) ⟨h, g, d, tk, os⟩) :
    wpAny (model prog w) A (call (.type "str") [.ref e]) Q E ⟨h, g, d, tk, os⟩ :=
  callType_new F.called_str (by decide) (F.typeCall_str_1 _) (F.newCall_str_1 _) (fun obj => F.args_object_init_2 obj _) F.entry_str_new
    (meets_str_new (S := fun A' R s' => A'.units + 1 < cLine ∧ s'.heap = h ∧ R (.ok (.ret (.str m u))) s')
      fun _ _ A' s' _ hq => strOf_own (A := A'.in1) hq.1 (hq.2.1 ▸ hC) (hq.2.1 ▸ hN) hms (hq.2.1 ▸ hx) hc hd h0 (hq.2.1 ▸ ht) hq.2.2)
    ⟨(show A.units + 1 + 1 < cLine from hu), rfl, typeIs_str _ _ _, hq⟩
end
end

section
set_option autoImplicit false
set_option linter.unusedVariables false
open PySem PyProof.Rows PySem.W

noncomputable def frs (A : Around) : List Addr := (A.frames.getD []).filterMap (·.frame)
theorem mem_frs {A : Around} {b : Addr} : b ∈ frs A ↔ isFrame A b := by
  unfold frs isFrame
  cases h : A.frames with
  | none => simp
  | some l => simp [List.mem_filterMap]
noncomputable abbrev bas (A : Around) (h₀ : Heap) : Heap := hideAll h₀ (frs A)

section
variable {A : Around} {h₀ h h' : Heap} {x e t : Addr} {msg : Str} {k : Option Value}

theorem bas_stays (x : Ext A h₀ h) : (bas A h₀).StaysIn h := fun b o q => by
  by_cases hb : b ∈ frs A
  · rw [hideAll_none _ hb] at q; cases q
  · rcases x b o (of_hideAll _ q) with r | ⟨f, _⟩
    · exact r
    · exact absurd (mem_frs.mpr f) hb
theorem frOk_fun {l : List Env} (f : FrOk A h) (hl : A.frames = some l) : h.FunFrames (bas A h₀) l := by
  obtain ⟨l', hl', hx⟩ := f
  rw [hl] at hl'; cases hl'
  have key : ∀ l₁ : List Env, (∀ env ∈ l₁, env ∈ l) → h.FunFrames (bas A h₀) l₁ := by
    intro l₁
    induction l₁ with
    | nil => intro _; trivial
    | cons env r ih =>
      intro hin
      obtain ⟨h1, L, o, h2, h3, h4, es, ep, h5⟩ := hx env (hin env List.mem_cons_self)
      exact ⟨h1, ⟨L, o, h2, hideAll_none _ (mem_frs.mpr ⟨l, hl, env, hin env List.mem_cons_self, h2⟩), h3, fun vs q => by rw [h5] at q; cases q⟩, ih fun e he => hin e (List.mem_cons_of_mem _ he)⟩
  exact key l fun _ h => h
theorem FrOk.noFields (f : FrOk A h) {b : Addr} (hb : isFrame A b) : ∃ o, h.get? b = some o ∧ o.cls = .type "frame" ∧ ∀ vs, o.data ≠ .fields vs := by
  obtain ⟨l, hl, hx⟩ := f
  obtain ⟨l', hl', env, he, hf⟩ := hb
  rw [hl] at hl'; cases hl'
  obtain ⟨h1, L, o, h2, h3, h4, es, ep, h5⟩ := hx env he
  rw [hf] at h2; cases h2
  exact ⟨o, h3, h4, fun vs q => by rw [h5] at q; cases q⟩
theorem ext_after (x : Ext A h₀ h) (f : FrOk A h) (st : (bas A h₀).StaysIn h') (us : h.UpToSlots h') : Ext A h₀ h' := fun b o e => by
  by_cases hb : b ∈ frs A
  · have hb' := mem_frs.mp hb
    obtain ⟨o', ho', hc', hn'⟩ := f.noFields hb'
    obtain ⟨sl, hs⟩ := us b o' ho' hn'
    rcases x b o e with r | ⟨_, c, sl', r⟩
    · rw [r] at ho'; cases ho'; exact .inr ⟨hb', hc', sl, hs⟩
    · rw [r] at ho'; cases ho'; exact .inr ⟨hb', c, sl, hs⟩
  · exact .inl (st b o (hideAll_get _ e hb))
theorem frOk_after (f : FrOk A h) (us : h.UpToSlots h') : FrOk A h' := by
  obtain ⟨l, hl, hx⟩ := f
  refine ⟨l, hl, fun env he => ?_⟩
  obtain ⟨h1, L, o, h2, h3, h4, es, ep, h5⟩ := hx env he
  obtain ⟨sl, hs⟩ := us L o h3 fun vs q => by rw [h5] at q; cases q
  exact ⟨h1, L, _, h2, hs, h4, es, ep, h5⟩

noncomputable def Trc (h₀ : Heap) (x e t : Addr) (h : Heap) : Option Value → Prop
  | none => ∃ oe vs, h.get? e = some oe ∧ oe.cls = .ref x ∧ oe.data = .fields vs ∧ vs[0]? = some (.ref t) ∧ vs[1]? = some .none
  | some fl => h.TracedAtW h₀ e (.ref x) (.ref t) fl

structure Fl (A : Around) (h₀ : Heap) (x : Addr) (msg : Str) (e : Addr) (h : Heap) (k : Option Value) : Prop where
  ext : Ext A h₀ h
  fr : FrOk A h
  ne : h₀.get? e = none
  ok : PyData.strOk msg = true
  tr : ∃ t u, h₀.get? t = none ∧ h.TupAt t [.str msg u] ∧ Trc h₀ x e t h k

theorem traced_out {fl : Value} (f : FrOk A h) (q : h.TracedAtW (bas A h₀) e (.ref x) (.ref t) fl) : h.TracedAtW h₀ e (.ref x) (.ref t) fl := by
  obtain ⟨oe, vs, T, oT, ts, he, hcls, hd, h1, hnT, hTe, hT, hdT, h3⟩ := q
  refine ⟨oe, vs, T, oT, ts, he, hcls, hd, h1, ?_, hTe, hT, hdT, h3⟩
  cases q : h₀.get? T with
  | none => rfl
  | some o =>
    by_cases hb : T ∈ frs A
    · obtain ⟨o', ho', _, hn'⟩ := f.noFields (mem_frs.mp hb)
      rw [hT] at ho'; cases ho'; exact absurd hdT (hn' ts)
    · rw [hideAll_get _ q hb] at hnT; cases hnT
theorem fresh_bas {b : Addr} (q : h₀.get? b = none) : (bas A h₀).get? b = none := by
  cases r : (bas A h₀).get? b with
  | none => rfl
  | some o => rw [of_hideAll _ r] at q; cases q
theorem traced_in {fl : Value} (q : h.TracedAtW h₀ e (.ref x) (.ref t) fl) : h.TracedAtW (bas A h₀) e (.ref x) (.ref t) fl := by
  obtain ⟨oe, vs, T, oT, ts, he, hcls, hd, h1, hnT, hTe, hT, hdT, h3⟩ := q
  exact ⟨oe, vs, T, oT, ts, he, hcls, hd, h1, fresh_bas hnT, hTe, hT, hdT, h3⟩
end

section
variable {M : Model} {A : Around} {E : Value → Shared → Prop} {s : Shared} {h₀ : Heap} {x e L : Addr} {msg : Str} {k : Option Value} {env : Env} {outer : List Env} {Q : Unit → Shared → Prop}

theorem Fl.note (F : Fl A h₀ x msg e s.heap k) (hfr : A.frames = some (env :: outer)) (hf : env.frame = some L) (hk : k = none ∨ k = some .none ∨ k = some (rawInt L))
    (hQ : ∀ h', Fl A h₀ x msg e h' (some (rawInt L)) → Q () { s with heap := h' }) : wpAny M A (noteFrame (.ref e) env) Q E s := by
  obtain ⟨ext, fr, ne, ok, t, u, nt, tup, tr⟩ := F
  have fin : ∀ h', Heap.NotedW (bas A h₀) (env :: outer) e (.ref x) (.ref t) (rawInt L) s.heap h' → Q () { s with heap := h' } := fun h' ⟨x1, x2, x3, x4⟩ => by
    have fr' := frOk_after fr x4
    exact hQ h' ⟨ext_after ext fr x1 x4, fr', ne, ok, t, u, nt, tup.of_slots x4, traced_out fr' x3⟩
  rcases hk with rfl | rfl | rfl
  · obtain ⟨oe, vs, he, hc, hd, h0, h1⟩ := tr
    unfold noteFrame
    simp only [hf]
    refine wpAny_bind (wpAny_field he hd h1 ?_)
    rw [if_neg (by decide)]
    exact wpAny_entryW hfr (frOk_fun fr hfr) hf he (bas_stays ext) (fresh_bas ne) hd (Array.getElem?_eq_some_iff.mp h1).1 h0 (hc ▸ fin)
  · exact wpAny_noteFrame_onW hfr (frOk_fun fr hfr) hf (traced_in (A := A) tr) (bas_stays ext) (fresh_bas ne) fin
  · exact wpAny_noteFrame_againW hf (traced_in (A := A) tr) (hQ s.heap ⟨ext, fr, ne, ok, t, u, nt, tup, tr⟩)

theorem Fl.flight {fl : Value} (f : Option Addr) (F : Fl A h₀ x msg e s.heap (some fl)) (hQ : ∀ h', Fl A h₀ x msg e h' (some (f.elim .none fun f => rawInt f)) → Q () { s with heap := h' }) :
    wpAny M A (setFlight (.ref e) f) Q E s := by
  obtain ⟨ext, fr, ne, ok, t, u, nt, tup, tr⟩ := F
  obtain ⟨oe, vs, T, oT, ts, he, hcls, hd, h1, hnT, hTe, hT, hdT, h3⟩ := tr
  have hsz3 : 3 < ts.size := (Array.getElem?_eq_some_iff.mp h3).1
  have other : ∀ b, b ≠ T → (s.heap.update T (Obj.mapFields (·.setIfInBounds 3 (f.elim Value.none fun f => rawInt f)))).get? b = s.heap.get? b :=
    fun b hb => Heap.get?_update_other _ _ (Ne.symm hb)
  have noRecord : ∀ b o, s.heap.get? b = some o → (∀ vs, o.data ≠ .fields vs) → b ≠ T := fun b o hb hnf q => by
    rw [q, hT] at hb; injection hb with hb; subst hb; exact hnf ts hdT
  have us : s.heap.UpToSlots (s.heap.update T (Obj.mapFields (·.setIfInBounds 3 (f.elim Value.none fun f => rawInt f)))) := fun b o hb hn => ⟨o.slots, (other b (noRecord b o hb hn)).trans hb⟩
  unfold setFlight
  refine wpAny_bind (wpAny_field he hd h1 ?_)
  rw [if_pos (show (Value.ref T != Value.none) = true from by simp)]
  refine wpAny_setField hT hdT hsz3 (hQ _ ⟨ext_after ext fr (fun b o hbo => (other b ?_).trans (bas_stays ext b o hbo)) us, frOk_after fr us, ne, ok, t, u, nt, tup.of_slots us, ?_⟩)
  · rintro rfl
    rw [fresh_bas hnT] at hbo; cases hbo
  · exact ⟨oe, vs, T, _, _, (other e (Ne.symm hTe)).trans he, hcls, hd, h1, hnT, hTe, Heap.get?_update_self _ hT (Obj.isFreed_of_fields (Obj.data_mapFields hdT _)), Obj.data_mapFields hdT _, by simp [hsz3]⟩

noncomputable def Ef (A : Around) (L : Addr) (s₀ : Shared) (x : Addr) (msg : Str) : Value → Shared → Prop :=
  fun ev s' => ∃ e k, ev = .ref e ∧ Same s₀ s' ∧ Fl A s₀.heap x msg e s'.heap k ∧ (k = none ∨ k = some .none ∨ k = some (rawInt L))
theorem Ef.pass {C : Cx} {s₀ : Shared} (hfr : A.frames = some (env :: outer)) (hf : env.frame = some L) {ev : Value} {s' : Shared} (h : Ef A L s₀ x msg ev s') : inLoop C A env (Ef A L s₀ x msg) ev s' := by
  obtain ⟨e, k, rfl, sm, F, hk⟩ := h
  refine F.note hfr hf hk fun h₁ F₁ => ?_
  obtain ⟨_, _, _, _, t, u, nt, tup, oe, vs, T, oT, ts, he, hcls, hd, h1, _⟩ := id F₁
  show wpAny _ _ _ _ _ _
  refine wpAny_bind (wpAny_field (s := { s' with heap := h₁ }) he hd h1 ?_)
  rw [if_neg (by simp)]
  rw [hf]
  exact F₁.flight (s := { s' with heap := h₁ }) (some L) fun h₂ F₂ => ⟨e, _, rfl, sm.trans ⟨h₂, _, rfl⟩, F₂, .inr (.inr rfl)⟩
end
end

section
set_option autoImplicit false
set_option linter.unusedVariables false
open PySem PyProof.Rows PySem.W

section
variable {C : Cx} {A : Around} {env : Env} {Γ Γ₁ Γ₂ : Tab} {e e₁ e₂ : Expr} {μ μ₁ μ₂ : Bool} {d : PyData} {s₀ : Shared} {Z₀ : Addr → Prop} {E : Value → Shared → Prop} {Post : Out → Prop} {x L : Addr} {msg : Str}

theorem xs_raise {k : Nat} {X : Str} {a : Expr} {np cpos pos : Pos} (hA : OkA A k) (hX : isGlob env X = true) (hm : C.mg X = some (.ref x)) (hx : ExcAtK C.K x) (ha : Ev C A env Γ a true (.str msg)) (hn : notStar a = true)
    (hE : ∀ ev s', Ef A L s₀ x msg ev s' → E ev s') : Xs C A env s₀ Z₀ E Γ (.Raise (some (.Call (.Name X np) [a] [] cpos)) none pos) Post := fun H V s ⟨ss, Z, m, S⟩ => by
  obtain ⟨nm, q, N, bs, hdct, sn, sub, ab, col, dd, k0, k1, k2, k3, k5, mN, hC, hN, hni, _⟩ := hx s.heap S.i.base.k
  refine wpAny_Raise_call_subT (C := x) (nm := nm) (q := q) (N := N) (bs := bs) (bm := bmE) (hdct := hdct) (sn := sn) (sub := sub) (ab := ab) (col := col) (dd := dd) (k0 := k0) (k1 := k1) (k2 := k2) (k3 := k3) (k5 := k5)
    F.excBase_Exception (mN := mN) (by decide) hA.hd (by rw [starEach_cons hn]; rfl) hni (loadGlob S.i hX hm ⟨rfl, ?_⟩)
  refine Evs.args (μ := true) (ds := [.str msg]) (evs_cons ha evs_nil hn) hn S.i fun vs s₂ kp I₂ r => ⟨rfl, ?_, ?_, kp.ext.ns hN, .base, fun h' e hx => ?_⟩
  · rw [show (Args.pos ⟨vs, []⟩) = vs from rfl, r.length]; show 1 ≤ sizeLine; decide
  · exact kp.ext.at hC (by show Value.type "type" ≠ _; decide)
  · cases r with
    | cons r₁ r₂ =>
      cases r₂
      cases r₁ with
      | str _ u hs =>
        refine hE _ _ ⟨e, none, rfl, ss.trans (kp.toSame.trans ⟨h', _, rfl⟩), ⟨(S.keep.trans kp.ext).trans (.of hx.keeps), (S.i.fr.keep kp.ext).keep (A' := A) (.of hx.keeps), ?_, hs, ?_⟩, .inl rfl⟩
        · cases q : s₀.heap.get? e with
          | none => rfl
          | some o => obtain ⟨o', q', _⟩ := (S.keep.trans kp.ext).stays q; rw [hx.new] at q'; cases q'
        · obtain ⟨t, he, htn, ht⟩ := hx.there
          refine ⟨t, u, ?_, ⟨_, _, ht, rfl, rfl⟩, _, _, he, rfl, rfl, rfl, rfl⟩
          cases q : s₀.heap.get? t with
          | none => rfl
          | some o => obtain ⟨o', q', _⟩ := (S.keep.trans kp.ext).stays q; rw [htn] at q'; cases q'

noncomputable def FnRz (C : Cx) (k : Nat) (f : Addr) (ds : List PyData) (x : Addr) (msg : Str) : Prop :=
  ∀ A E s Z vs, OkA A k → FrOk A s.heap → Base C s.heap → Zok C Z s.heap → Rds C.prog C.w Z s.heap vs ds →
    (∀ e s', Same s s' → Fl A s.heap x msg e s'.heap (some .none) → E (.ref e) s') → wpAny C.M A (call (.ref f) vs []) (fun _ _ => False) E s

theorem FrOk.undeeper {h : Heap} (x : FrOk (A.deeper env) h) : FrOk A h := by
  obtain ⟨l, hl, hx⟩ := x
  have hl' : A.frames.map (env :: ·) = some l := hl
  cases hA : A.frames with
  | none => rw [hA] at hl'; cases hl'
  | some l₀ =>
    rw [hA] at hl'; cases hl'
    exact ⟨l₀, hA, fun e he => hx e (List.mem_cons_of_mem _ he)⟩

theorem fnRz_intro {k : Nat} {f : Addr} {fd : FuncData} {ps : List Str} {body : List Stmt} {ds : List PyData} (D : FnDef C f fd ps body) (hlen : ds.length = ps.length)
    (hb : ∀ A L s₀ Z₀, OkA A k → (∀ x, Owned (callEnvC fd L f) s₀.heap x) → (∃ outer, A.frames = some (callEnvC fd L f :: outer)) → Ex C A (callEnvC fd L f) s₀ Z₀ (Ef A L s₀ x msg) (ps.zip (ds.map .fz)) body (fun _ => False)) : FnRz C (k + 1) f ds x msg := fun A E s Z vs hA hfr B hz r hE => by
  refine wpAny_call (fn_run D hlen hA hfr B hz r fun s₁ hO S => ?_)
  have hf : ∃ outer, (A.deeper (callEnvC fd s.heap.objs.size f)).frames = some (callEnvC fd s.heap.objs.size f :: outer) := by
    obtain ⟨l, hl, _⟩ := hfr
    exact ⟨l, by show A.frames.map _ = _; rw [hl]; rfl⟩
  refine wpAny_mono (hb (A.deeper (callEnvC fd s.heap.objs.size f)) s.heap.objs.size s Z (hA.deeper _) hO hf [] [] s₁ S) (fun fl s' ⟨_, _, hp, _⟩ => hp.elim) fun ev s' h => ?_
  obtain ⟨e, k, rfl, sm, F, hk⟩ := h
  obtain ⟨outer, hfr'⟩ := hf
  unfold leaving
  refine wpAny_bind (F.note hfr' rfl hk fun h₁ F₁ => F₁.flight (s := { s' with heap := h₁ }) none fun h₂ F₂ => ?_)
  refine hE e _ (sm.trans ⟨h₂, _, rfl⟩) ⟨F₂.ext.undeeper fun L hL => by cases hL; exact Heap.get?_none_of_le (Nat.le_refl _), F₂.fr.undeeper, F₂.ne, F₂.ok, F₂.tr⟩

theorem call_rz {k : Nat} {X : Str} {f : Addr} {o : Obj} {fd : FuncData} {a : Expr} {es : List Expr} {ds : List PyData} {p pos : Pos} {s : Shared} {m : Str → Option Value} {Z : Addr → Prop} {Q : Value → Shared → Prop} (hA : OkA A k) (hx : isGlob env X = true) (hm : C.mg X = some (.ref f)) (ho : C.K.lookup f = some o) (hf : o.data = .func fd)
    (ha : Evs C A env Γ (a :: es) μ ds) (hn : notStar a = true) (hfn : FnRz C k f ds x msg) (I : In C A env Z₀ Z Γ m s.heap)
    (hE : ∀ e s₂ s', Kp A s s₂ → Same s₂ s' → Fl A s₂.heap x msg e s'.heap (some .none) → E (.ref e) s') : wpAny C.M A (eval (.Call (.Name X p) (a :: es) [] pos) env) Q E s :=
  Call_Name rfl (loadGlob I hx hm (Calls.callWith_function (ha.args hn I fun vs s' kp I' r => ⟨⟨I'.base.k _ _ ho, hf⟩, by
    rw [List.nil_append]
    exact wpAny_mono (hfn A E s' (sel μ Z) vs hA I'.fr I'.base (I'.zsel μ) r fun e s'' sm F => hE e s' s'' kp sm F) (fun v s'' q => q.elim) fun _ _ x => x⟩)))

theorem In.mark {h : Heap} {m : Str → Option Value} {Z : Addr → Prop} (hv : Option Value) (I : In C A env Z₀ Z Γ m h) : In C (A.mark hv) env Z₀ Z Γ m h := ⟨I.fn, I.vars, I.ents, I.base, I.z, I.fr, I.zc, I.cd⟩
theorem Ext.mark {h h' : Heap} (hv : Option Value) (x : Ext A h h') : Ext (A.mark hv) h h' := x
theorem Ext.unmark {h h' : Heap} (hv : Option Value) (x : Ext (A.mark hv) h h') : Ext A h h' := x
theorem StW.mark {h₀ h : Heap} {m : Str → Option Value} {Z : Addr → Prop} {H : List (Addr × Obj)} {V : List (Value × PyData)} (hv : Option Value) (S : StW C A env h₀ Z₀ H V Γ h Z m) : StW C (A.mark hv) env h₀ Z₀ H V Γ h Z m :=
  ⟨S.i.mark hv, S.b0, S.keep, S.z0, S.zl, S.nl, S.zc, S.cd, S.hs, S.vs, S.ow⟩
theorem StW.unmark {h₀ h : Heap} {m : Str → Option Value} {Z : Addr → Prop} {H : List (Addr × Obj)} {V : List (Value × PyData)} (hv : Option Value) (S : StW C (A.mark hv) env h₀ Z₀ H V Γ h Z m) : StW C A env h₀ Z₀ H V Γ h Z m :=
  ⟨⟨S.i.fn, S.i.vars, S.i.ents, S.i.base, S.i.z, S.i.fr, S.i.zc, S.i.cd⟩, S.b0, S.keep, S.z0, S.zl, S.nl, S.zc, S.cd, S.hs, S.vs, S.ow⟩
theorem StW.addH {h₀ h : Heap} {m : Str → Option Value} {Z : Addr → Prop} {H H' : List (Addr × Obj)} {V : List (Value × PyData)} (S : StW C A env h₀ Z₀ H V Γ h Z m) (hh : ∀ p ∈ H', h.get? p.1 = some p.2 ∧ ¬ Z p.1 ∧ p.2.cls ≠ .type "frame") : StW C A env h₀ Z₀ (H' ++ H) V Γ h Z m :=
  { S with hs := fun p hp => (List.mem_append.mp hp).elim (hh p) (S.hs p) }

noncomputable def IsE (H : List (Addr × Obj)) (x : Addr) (msg : Str) (e : Addr) : Prop :=
  ∃ t oe ot vs u k, (e, oe) ∈ H ∧ (t, ot) ∈ H ∧ oe.cls = .ref x ∧ oe.data = .fields vs ∧ vs[0]? = some (.ref t) ∧ ot.cls = .type "tuple" ∧ ot.data = .seq #[.str msg u] k ∧ PyData.strOk msg = true

noncomputable def Su (C : Cx) (A : Around) (env : Env) (n : Str) (x : Addr) (msg : Str) (Γ : Tab) (ss : List Stmt) (Γ' : Tab) : Prop :=
  ∀ E h₀ Z₀ H V Z m s e, StW C A env h₀ Z₀ H V Γ s.heap Z m → (∀ x c, env.cells.lookup x = some c → h₀.get? c = none) → m n = some (.ref e) → IsE H x msg e →
    wpAny C.M A (execs ss env) (fun fl s' => fl = .next ∧ Same s s' ∧ ∃ m', StW C A env h₀ Z₀ H V Γ' s'.heap Z m') E s
theorem su_nil {n : Str} : Su C A env n x msg Γ [] Γ := fun E h₀ Z₀ H V Z m s e S oc hn he => wpAny_execs_nil ⟨rfl, Same.refl s, m, S⟩
theorem su_str {k : Nat} {n y f : Str} {rest : List Stmt} {Γ' : Tab} {p pos q r cp : Pos} (hu : A.units + 200 < cLine) (hx : ExcAtK C.K x) (hb : Blt C env f (.type "str")) (hv : isVar env n = true) (hy : isLoc env y = true) (hs : swapsWith (.Call (.Name f q) [.Name n r] [] cp) (some (.Name y p)) pos.line env = pure false) (hne : n ≠ y)
    (hr : Su C A env n x msg ((y, .fz (.str msg)) :: Γ) rest Γ') :
    Su C A env n x msg Γ (.Assign [.Name y p] (.Call (.Name f q) [.Name n r] [] cp) pos :: rest) Γ' := fun E h₀ Z₀ H V Z m s e S oc hn he => by
  obtain ⟨h1, h2, h3⟩ := isVar_spec hv
  obtain ⟨t, oe, ot, vs, u, kk, hE, hT, hc, hd, h0, htc, htd, hok⟩ := id he
  have gE := (S.hs _ hE).1
  have gT := (S.hs _ hT).1
  obtain ⟨nm, q', N, bs, hdct, sn, sub, ab, col, dd, k0, k1, k2, k3, k5, mN, hC, hN, hni, hstr⟩ := hx s.heap S.i.base.k
  refine wpAny_execs_cons (wpAny_Assign_Name ?_ hs)
  refine Call_Name rfl (loadBlt S.i hb.g hb.m hb.b (PyProof.Rows.callWith_type (starEach_any (by rfl)) ?_))
  refine Calls.evalArgs_plain (Calls.spliced_cons (loadVar S.i h1 hn (Calls.spliced_nil ?_) h2 h3))
  obtain ⟨hp, g, dr, tk, os⟩ := s
  refine str_of_own (by omega) hC hN hstr gE hc hd h0 ⟨ot, kk, gT, htc, htd⟩ ?_
  exact S.storeFz hy (oc y) (.str msg u hok) fun h' tk' S' => wpAny_mono (hr E h₀ Z₀ H V Z _ ⟨h', g, dr, tk', os⟩ e S' oc (by simp [upd, hne, hn]) he) (fun fl s'' ⟨hf, sm, r⟩ => ⟨hf, Same.trans ⟨h', tk', rfl⟩ sm, r⟩) fun _ _ x => x
end
end

section
set_option autoImplicit false
set_option linter.unusedVariables false
open PySem PyProof.Rows PySem.W

section
variable {C : Cx} {A : Around} {env : Env} {Γ Γ₁ Γ₂ : Tab} {e e₁ e₂ : Expr} {μ μ₁ μ₂ : Bool} {d : PyData} {s₀ : Shared} {Z₀ : Addr → Prop} {E : Value → Shared → Prop} {Post : Out → Prop} {x L : Addr} {msg : Str}

noncomputable def dropT (n : Str) (Γ : Tab) : Tab := Γ.filter fun p => !(p.1 == n)
theorem dropT_eq {n : Str} : ∀ {Γ : Tab}, (dropT n Γ).lookup n = none
  | [] => rfl
  | (k, v) :: r => by
    unfold dropT
    rw [List.filter_cons]
    by_cases h : k = n
    · have : (k == n) = true := by simpa using h
      simp only [this, Bool.not_true]
      exact dropT_eq (Γ := r)
    · have : (k == n) = false := by simpa using h
      have h' : (n == k) = false := by simpa using fun q : n = k => h q.symm
      simp only [this, Bool.not_false, if_true, List.lookup_cons, h']
      exact dropT_eq (Γ := r)
theorem dropT_ne {n y : Str} (hy : y ≠ n) : ∀ {Γ : Tab}, (dropT n Γ).lookup y = Γ.lookup y
  | [] => rfl
  | (k, v) :: r => by
    unfold dropT
    rw [List.filter_cons]
    by_cases h : k = n
    · have : (k == n) = true := by simpa using h
      have h' : (y == k) = false := by subst h; simpa using hy
      simp only [this, Bool.not_true, List.lookup_cons, h']
      exact dropT_ne hy (Γ := r)
    · have : (k == n) = false := by simpa using h
      simp only [this, Bool.not_false, if_true, List.lookup_cons]
      cases y == k with
      | true => rfl
      | false => exact dropT_ne hy (Γ := r)

theorem StW.gone {h₀ h h' : Heap} {m : Str → Option Value} {Z : Addr → Prop} {H : List (Addr × Obj)} {V : List (Value × PyData)} {n : Str} {u : Option Value} {ml : Str → Option Value} (S : StW C A env h₀ Z₀ H V Γ h Z m) (hk : env.kindOf n = some .local) (hc : env.cells.lookup n = none)
    (hm : ∀ y, env.kindOf y = some .local → ml y = m y) (hn : h.Ns env.locals ml) (hn' : h'.Ns env.locals (fun y => if y = n then u else ml y)) (sb : Heap.SameBut env.locals h h') (hcls : ∀ o, h.get? env.locals = some o → ∃ o', h'.get? env.locals = some o' ∧ o'.cls = o.cls) :
    StW C A env h₀ Z₀ H V (dropT n Γ) h' Z (fun y => if y = n then u else m y) := by
  obtain ⟨oL, esL, epL, hoL, hdL, _⟩ := id hn
  obtain ⟨oL', esL', epL', hoL', hdL', _⟩ := id hn'
  have n0 : ¬ Z₀ env.locals := fun q => by obtain ⟨_, o, e⟩ := S.z0 _ q; rw [S.nl] at e; cases e
  have kz : ∀ b o, ¬ Z b → h.get? b = some o → h'.get? b = some o := fun b o nz e => (sb.2 b (by rintro rfl; exact nz S.zl)).trans e
  have keep' : Ext A h₀ h' := S.keep.mutOf S.nl fun b o hb e => (sb.2 b hb).trans e
  have fr' : FrOk A h' := S.i.fr.mut (fun b o hb e => (sb.2 b hb).trans e) fun o₂ es₂ ep₂ e2 _ => by obtain ⟨o₃, q1, q2⟩ := hcls o₂ e2; rw [hoL'] at q1; cases q1; exact ⟨oL', hoL', q2, esL', epL', hdL'⟩
  have hlk : ∀ y en, (dropT n Γ).lookup y = some en → y ≠ n ∧ Γ.lookup y = some en := fun y en l => by
    by_cases hy : y = n
    · subst hy; rw [dropT_eq] at l; cases l
    · exact ⟨hy, by rwa [dropT_ne hy] at l⟩
  refine ⟨⟨S.i.fn, ⟨⟨_, hn', fun y hy => ?_⟩, fun y c hyc => ?_, fun v q => S.i.vars.hid v (by have hx' : n ≠ ".acc" := (by rintro rfl; rw [S.i.fn.acc] at hk; cases hk); simpa [Ne.symm hx'] using q)⟩, fun y en l => ?_, S.b0.keep keep', ⟨fun b z => ?_, S.i.z.k⟩, fr', S.i.zc, S.i.cd⟩, S.b0, keep', S.z0, S.zl, S.nl, S.zc, S.cd, fun p hp => ?_, fun p hp => (S.vs p hp).keepZ kz, fun y ds b l eb => ?_⟩
  · by_cases hyn : y = n <;> simp [hyn, hm y hy]
  · have hyn : y ≠ n := by rintro rfl; rw [hc] at hyc; cases hyc
    simp only [if_neg hyn]
    refine (S.i.vars.cel y c hyc).sameBut sb ?_
    rintro rfl
    obtain ⟨o', ho', hd'⟩ := S.i.vars.cel y _ hyc
    rw [hoL] at ho'; cases ho'; rw [hdL] at hd'; cases hd'
  · obtain ⟨hyn, l⟩ := hlk y en l
    simp only [if_neg hyn]
    refine entOk_mut S.zl n0 sb (fun ds b e1 e2 e3 => ?_) (S.i.ents y en l)
    subst e1 e3
    have := S.i.ents y _ l
    rw [e2] at this
    obtain ⟨b, vs, k, e1, e2, _⟩ := this
    cases e1; rw [hoL] at e2; cases e2; cases hdL
  · by_cases hb : b = env.locals
    · subst hb; exact ⟨_, hoL'⟩
    · obtain ⟨o, e⟩ := S.i.z.st b z
      exact ⟨o, (sb.2 b hb).trans e⟩
  · obtain ⟨e, d⟩ := S.hs p hp
    exact ⟨(sb.2 p.1 fun (q : p.1 = env.locals) => d.1 (by rw [q]; exact S.zl)).trans e, d⟩
  · obtain ⟨hyn, l⟩ := hlk y _ l
    simp only [if_neg hyn] at eb
    obtain ⟨q1, q2⟩ := S.ow y ds b l eb
    refine ⟨q1, fun y' es l' e' => ?_⟩
    obtain ⟨hyn', l'⟩ := hlk y' _ l'
    simp only [if_neg hyn'] at e'
    exact q2 y' es l' e'

theorem xs_try_ok {body : List Stmt} {hd : ExceptHandler} {hs : List ExceptHandler} {pos : Pos} (h : ∀ E', Ex C A env s₀ Z₀ E' Γ body Post) : Xs C A env s₀ Z₀ E Γ (.Try body (hd :: hs) [] [] pos) Post := fun H V s S =>
  wpAny_Try_except (wpAny_mono (h _ H V s S) (fun fl s' q => by
    cases fl with
    | next => exact wpAny_execs_nil q
    | _ => exact q) fun _ _ x => x)

theorem xs_try_rz {k : Nat} {X F n g : Str} {f : Addr} {o : Obj} {fd : FuncData} {a : Expr} {es : List Expr} {ds : List PyData} {p p' pos tpos hpos np gp : Pos} {b₀ : Stmt} {suite : List Stmt} {hs : List ExceptHandler} (hA : OkA A k)
    (hfr : ∃ outer, A.frames = some (env :: outer)) (hL : env.frame = some L) (hx : isGlob env F = true) (hm : C.mg F = some (.ref f)) (ho : C.K.lookup f = some o) (hf : o.data = .func fd)
    (ha : Evs C A env Γ (a :: es) μ ds) (hn : notStar a = true) (hfn : FnRz C k f ds x msg)
    (hsw : swapsWith (.Call (.Name F p) (a :: es) [] p') (some (.Name g gp)) pos.line env = pure false)
    (hX : isGlob env X = true) (hmX : C.mg X = some (.ref x)) (hxc : ExcAtK C.K x) (hnl : isLoc env n = true) (hO : ∀ y, Owned env s₀.heap y) (hkn : env.kindOf n = some .local)
    (hsu : ∀ A', A'.units = A.units → Su C A' env n x msg ((n, .any) :: Γ) (b₀ :: suite) Γ₁) (hp : Post (.next (dropT n Γ₁))) :
    Xs C A env s₀ Z₀ E Γ (.Try [.Assign [.Name g gp] (.Call (.Name F p) (a :: es) [] p') pos] (.ExceptHandler (some (.Name X np)) (some n) (b₀ :: suite) hpos :: hs) [] [] tpos) Post := fun H V s ⟨ss, Z, m, S⟩ => by
  obtain ⟨outer, hfr⟩ := hfr
  have hcn : env.cells.lookup n = none := by
    unfold isLoc at hnl
    rw [hkn] at hnl
    simpa using hnl
  refine wpAny_Try_except (wpAny_execs_cons (wpAny_Assign_Name (call_rz hA hx hm ho hf ha hn hfn S.i fun e s₂ s' kp sm F₀ => ?_) hsw))
  have S₂ := S.ext kp.ext
  refine F₀.note hfr hL (.inr (.inl rfl)) fun h₁ F₁ => ?_
  refine F₁.flight (s := { s' with heap := h₁ }) none fun h₂ F₂ => ?_
  have I₂ := (S₂.i.keep F₂.ext).mark (some (.ref e))
  obtain ⟨nm, q', N, bs, hdct, sn, sub, ab, col, dd, k0, k1, k2, k3, k5, mN, hC, hN, hni, hstr⟩ := hxc h₂ I₂.base.k
  obtain ⟨t, u, nt, tup, oe, vs, T, oT, ts, he, ⟨hcls, h0⟩, hd, h1, _⟩ := F₂.tr
  refine wpAny_handleBy_cons (codeAny_handlers_test (loadGlob (s := { s' with heap := h₂ }) I₂ hX hmX ?_)) (by intro q; cases q)
  refine wpAny_excMatches_sub_self hC he hcls (by decide) (codeAny_handlers_suite_as ?_)
  have F₂' : Fl (A.mark (some (.ref e))) s₂.heap x msg e h₂ (some .none) := ⟨F₂.ext, F₂.fr, F₂.ne, F₂.ok, F₂.tr⟩
  refine F₂'.flight (s := { s' with heap := h₂ }) none fun h₃ F₃ => ?_
  obtain ⟨t, u, nt, tup, oe, vs, T, oT, ts, he, ⟨hcls, h0⟩, hd, h1, _⟩ := F₃.tr
  obtain ⟨ot, kt, hot, hotc, hotd⟩ := tup
  have S₃ : StW C (A.mark (some (.ref e))) env s₀.heap Z₀ ([(e, oe), (t, ot)] ++ H) V Γ h₃ Z m := by
    refine ((S₂.mark (some (.ref e))).ext F₃.ext).addH fun p hp => ?_
    have nz : ∀ b, s₂.heap.get? b = none → ¬ Z b := fun b q z => by obtain ⟨o, q'⟩ := S₂.i.z.st b z; rw [q] at q'; cases q'
    rcases List.mem_cons.mp hp with rfl | hp
    · exact ⟨he, nz _ F₃.ne, by show oe.cls ≠ _; rw [hcls]; intro q; cases q⟩
    · cases List.mem_singleton.mp hp
      exact ⟨hot, nz _ nt, by show ot.cls ≠ _; rw [hotc]; decide⟩
  refine S₃.store (s := { s' with heap := h₃ }) (en := .any) hnl (hO n) (fun h' hk => trivial) (fun ds q => by cases q) fun h₄ tk₄ S₄ => ?_
  refine wpAny_mono (hsu (A.mark (some (.ref e))) rfl _ s₀.heap Z₀ _ V Z _ { s' with heap := h₄, toks := tk₄ } e S₄ hO (by simp [upd]) ⟨t, oe, ot, vs, u, kt, by simp, by simp, hcls, hd, h0, hotc, hotd, F₃.ok⟩) (fun fl s₅ ⟨hfl, sm₅, m₅, S₅⟩ => ?_) fun _ _ x => x
  subst hfl
  have S₆ := S₅.unmark (some (.ref e))
  have ss₅ : Same s s₅ := kp.toSame.trans (sm.trans (Same.trans ⟨h₄, tk₄, rfl⟩ sm₅))
  refine wpAny_bind (wpAny_bindName (S₆.store (en := .fz .none) hnl (hO n) (fun h' hk => .none) (fun ds q => by cases q) fun h₇ tk₇ S₇ => ?_))
  unfold unbindBehindTheSuite
  refine wpAny_onRaise ?_
  unfold unbindName
  refine wpAny_bind (wpAny_point (wpAny_bind ?_))
  unfold deleteName
  have hpk : (env.scope.kind == .class || (env.scope.kind == .module && env.locals != env.globals)) = false := by rw [S.i.fn.kind]; rfl
  simp only [hkn, hpk]
  rw [if_neg (by decide)]
  obtain ⟨ml, hn₇, hm₇⟩ := S₇.i.vars.loc
  have hml : ml n = some .none := by rw [hm₇ n hkn]; simp [upd]
  refine wpAny_bind (nsDel_cls hn₇ (by rw [hml]; rfl) fun h₈ u hn₈ sb₈ hcls₈ => ?_)
  simp only [Bool.not_true, Bool.false_eq_true, if_false]
  refine wpAny_pure (wpAny_point ?_)
  have S₈ := S₇.gone (n := n) hkn hcn hm₇ hn₇ hn₈ sb₈ hcls₈
  have S₉ := (S₈.dropH (H' := H) fun p hp => List.mem_append_right _ hp).sub (Γ' := dropT n Γ₁) fun y en l => by
    by_cases hy : y = n
    · subst hy; rw [dropT_eq] at l; cases l
    · rw [dropT_ne hy] at l ⊢
      rw [lookup_cons_ne hy]; exact l
  exact ⟨ss₅.trans ⟨h₈, tk₇, rfl⟩, _, hp, ss.trans (ss₅.trans ⟨h₈, tk₇, rfl⟩), Z, _, S₉⟩

theorem fn_any {k : Nat} {f : Addr} {fd : FuncData} {ps : List Str} {body : List Stmt} {ds : List PyData} (D : FnDef C f fd ps body) (hlen : ds.length = ps.length) {Ret : PyData → Prop} {Rz : Str → Prop}
    (hb : ∀ A L s₀ Z₀ E, OkA A k → (∀ x, Owned (callEnvC fd L f) s₀.heap x) → (∃ outer, A.frames = some (callEnvC fd L f :: outer)) → (∀ msg, Rz msg → ∀ ev s', Ef A L s₀ x msg ev s' → E ev s') →
      (∀ msg, Rz msg → ∀ ev s', Ef A L s₀ x msg ev s' → inLoop C A (callEnvC fd L f) E ev s') → Ex C A (callEnvC fd L f) s₀ Z₀ E (ps.zip (ds.map .fz)) body (fun o => ∃ d, Ret d ∧ o = .ret d)) :
    (∀ d, (∀ d', Ret d' → d' = d) → (∀ msg, ¬ Rz msg) → FnOk C (k + 1) f ds d) ∧ (∀ msg, (∀ d, ¬ Ret d) → (∀ msg', Rz msg' → msg' = msg) → FnRz C (k + 1) f ds x msg) := by
  refine ⟨fun d h1 h2 => fn_intro D hlen fun A L s₀ Z₀ E hA hO hF => ?_, fun msg h1 h2 => fnRz_intro D hlen fun A L s₀ Z₀ hA hO hF => ?_⟩
  · exact (hb A L s₀ Z₀ E hA hO hF (fun m q => (h2 m q).elim) (fun m q => (h2 m q).elim)).mono fun o ⟨d', q, e⟩ => by rw [e, h1 d' q]
  · obtain ⟨outer, hF'⟩ := hF
    exact (hb A L s₀ Z₀ _ hA hO ⟨outer, hF'⟩ (fun m q ev s' r => by rw [h2 m q] at r; exact r) (fun m q ev s' r => by rw [h2 m q] at r; exact Ef.pass hF' rfl r)).mono fun o ⟨d', q, e⟩ => (h1 d' q).elim
end
end

section
set_option autoImplicit false
set_option linter.unusedVariables false
open PySem PyProof.Rows PySem.W

section
variable {C : Cx} {A : Around} {env : Env} {Γ Γ₁ Γ₂ : Tab} {e e₁ e₂ : Expr} {μ μ₁ μ₂ : Bool} {d d₁ d₂ : PyData} {s₀ : Shared} {Z₀ : Addr → Prop} {E : Value → Shared → Prop} {Post : Out → Prop} {x L : Addr} {msg : Str}

noncomputable def isNoneD : PyData → Bool
  | .none => true
  | _ => false
noncomputable def isD (op : CmpOp) (d₁ d₂ : PyData) : Option Bool :=
  match op, d₁, d₂ with
  | .Is, .bool a, .bool b => some (a == b)
  | .IsNot, .bool a, .bool b => some (!(a == b))
  | .Is, d, .none => some (isNoneD d)
  | .IsNot, d, .none => some (!isNoneD d)
  | _, _, _ => none
theorem beq_vbool (a b : Bool) : (Value.bool a == Value.bool b) = (a == b) := by cases a <;> cases b <;> rfl
theorem is_op {op : CmpOp} {s : Shared} {v₁ v₂ : Value} {Z₁ Z₂ : Addr → Prop} {Q : Value → Shared → Prop} {b : Bool} (r₁ : Rd C.prog C.w Z₁ s.heap v₁ d₁) (r₂ : Rd C.prog C.w Z₂ s.heap v₂ d₂)
    (hd : isD op d₁ d₂ = some b) (k : Q (.bool b) s) : wpAny C.M A (compareOp op v₁ v₂) Q E s := by
  unfold isD at hd
  split at hd
  · cases r₁ with | bool a => cases r₂ with | bool b' => cases hd; exact wpAny_is_plain rfl (by rw [beq_vbool]; exact k)
  · cases r₁ with | bool a => cases r₂ with | bool b' => cases hd; exact wpAny_isNot_plain rfl (by rw [beq_vbool]; exact k)
  · cases r₂; cases hd; cases r₁ <;> exact wpAny_is_plain rfl k
  · cases r₂; cases hd; cases r₁ <;> exact wpAny_isNot_plain rfl k
  · cases hd
theorem cd_is {op : CmpOp} {pos : Pos} {b : Bool} (h₁ : Ev C A env Γ e₁ μ₁ d₁) (h₂ : Ev C A env Γ e₂ μ₂ d₂) (hd : isD op d₁ d₂ = some b) (hm : behindInMarks op e₂ = false) : Cd C A env Γ (.Compare e₁ [op] [e₂] pos) b := fun E s m Z₀ Z I =>
  wpAny_isTrue_Compare1 (h₁.go2 h₂ I fun _ _ s' k I' r₁ r₂ => is_op r₁ r₂ hd (wpAny_truthy_bool ⟨k, rfl⟩)) hm
end
end

section
set_option autoImplicit false
set_option linter.unusedVariables false
open PySem PyProof.Rows PySem.W

noncomputable def innerK (elt : Expr) (gens : List Comprehension) (scope : Scope) (pos : Pos) (dep : Nat) (it acc : Value) (env : Env) : Sem Fin :=
  match gens[dep + 1]? with
  | some g' => do
    let x ← eval g'.iter env
    standAt g'.iter.pos
    if (g'.is_async != 0) = true then do
      let x ← foldedIterable g'.iter x
      let l ← holding [x] (if (g'.is_async != 0) = true then asyncIter x else pyIter x)
      let _ ← runOwn (.compStart (.ListComp elt gens scope pos) (dep + 1) l acc env) env
      again (.compLoop (.ListComp elt gens scope pos) dep it acc env)
    else do
      let x ← foldedSetIterable g'.iter env x
      let l ← holding [x] (if (g'.is_async != 0) = true then asyncIter x else pyIter x)
      let _ ← runOwn (.compStart (.ListComp elt gens scope pos) (dep + 1) l acc env) env
      again (.compLoop (.ListComp elt gens scope pos) dep it acc env)
  | none => do
    (do let l ← eval elt env; let _ ← call (.builtin "list.append") [acc, l]; pure ())
    again (.compLoop (.ListComp elt gens scope pos) dep it acc env)

noncomputable abbrev testsOf (ifs : List Expr) (env : Env) (r : Bool) : Sem Bool :=
  forIn ifs r fun c r => if r = true then do let ok ← isTrue c env (eval c env); pure (ForInStep.yield ok) else pure (ForInStep.yield r)

theorem compTurn_eq {elt target iter : Expr} {ifs : List Expr} {gens : List Comprehension} {scope : Scope} {pos : Pos} {dep : Nat} {it acc : Value} {env : Env} (hg : gens[dep]? = some ⟨target, iter, ifs, 0⟩) :
    compTurn (.ListComp elt gens scope pos) dep it acc env = (standAt iter.pos >>= fun _ => pyNext it >>= fun r => match r with
      | none => pure (.done .next)
      | some v => letOwnedTupleGo target it v >>= fun _ => assign target env v >>= fun _ => testsOf ifs env true >>= fun ok =>
        if ok = true then innerK elt gens scope pos dep it acc env else again (.compLoop (.ListComp elt gens scope pos) dep it acc env)) := by
  unfold compTurn innerK
  simp only [hg, bne_self_eq_false, Bool.false_eq_true, if_false]
  rfl

section
variable {C : Cx} {A : Around} {env cenv : Env} {Γ Γ₁ Γ₂ : Tab} {e e₁ e₂ : Expr} {μ μ₁ μ₂ : Bool} {d d₁ d₂ : PyData} {s₀ : Shared} {Z₀ : Addr → Prop} {E : Value → Shared → Prop}

noncomputable def Cds (C : Cx) (A : Around) (env : Env) (Γ : Tab) : List Expr → Bool → Prop
  | [], b => b = true
  | c :: cs, b => ∃ b₁, Cd C A env Γ c b₁ ∧ (b₁ = true → Cds C A env Γ cs b) ∧ (b₁ = false → b = false)
theorem tests_false {M : Model} : ∀ {ifs : List Expr} {s : Shared} {Q : Bool → Shared → Prop}, Q false s → wpAny M A (testsOf ifs env false) Q E s
  | [], s, Q, h => wpAny_pure h
  | c :: cs, s, Q, h => by
    unfold testsOf
    rw [List.forIn_cons]
    exact wpAny_bind (wpAny_pure (tests_false h))
theorem Cds.go : ∀ {ifs : List Expr} {b : Bool} (h : Cds C A env Γ ifs b) {s : Shared} {m : Str → Option Value} {Z₀ Z : Addr → Prop} (I : In C A env Z₀ Z Γ m s.heap) {Q : Bool → Shared → Prop}
    (k : ∀ s', Kp A s s' → In C A env Z₀ Z Γ m s'.heap → Q b s'), wpAny C.M A (testsOf ifs env true) Q E s
  | [], b, h, s, m, Z₀, Z, I, Q, k => by cases h; exact wpAny_pure (k s (Kp.refl s) I)
  | c :: cs, b, h, s, m, Z₀, Z, I, Q, k => by
    obtain ⟨b₁, h₁, h2, h3⟩ := h
    unfold testsOf
    rw [List.forIn_cons]
    refine wpAny_bind ?_
    rw [if_pos rfl]
    refine wpAny_bind (h₁.go I fun s' kp I' => wpAny_pure ?_)
    cases b₁ with
    | false => cases h3 rfl; exact tests_false (k s' kp I')
    | true => exact Cds.go (h2 rfl) I' fun s'' kp' I'' => k s'' (kp.trans kp') I''

noncomputable def Inn (C : Cx) (A : Around) (cenv : Env) (s₀ : Shared) (Z₀ : Addr → Prop) (elt : Expr) (gens : List Comprehension) (scope : Scope) (pos : Pos) (dep : Nat) (Γ : Tab) (out : List PyData) : Prop :=
  ∀ (E : Value → Shared → Prop) (Q : Fin → Shared → Prop) H V s ds it, Γ.lookup (".acc" : Str) = some (.own ds) → ds.length + out.length ≤ sizeLine → St C A cenv s₀ Z₀ H V Γ s →
    (∀ s', Same s s' → St C A cenv s₀ Z₀ H V ((".acc", .own (ds ++ out)) :: Γ) s' → wpAny C.M A (again (.compLoop (.ListComp elt gens scope pos) dep it (.ref (cenv.locals - 1)) cenv)) Q E s') →
    wpAny C.M A (innerK elt gens scope pos dep it (.ref (cenv.locals - 1)) cenv) Q E s

theorem inn_emit {elt : Expr} {gens : List Comprehension} {scope : Scope} {pos : Pos} {dep : Nat} (hg : gens[dep + 1]? = none) (h : Ev C A cenv Γ elt true d) : Inn C A cenv s₀ Z₀ elt gens scope pos dep Γ [d] := fun E Q H V s ds it l hsz ⟨ss, Z, m, S⟩ k => by
  unfold innerK
  rw [hg]
  refine wpAny_bind (wpAny_bind (h.go S.i fun v s' kp I' r => ?_))
  have he := S.i.ents _ _ l
  cases hv : m ".acc" with
  | none => rw [hv] at he; exact he.elim
  | some u =>
    obtain ⟨a, items, n, e1, e2, e3, q⟩ := (S.ext kp.ext).append (E := E) (s := s') (Q := fun _ s'' => wpAny C.M A (again (.compLoop (.ListComp elt gens scope pos) dep it (.ref (cenv.locals - 1)) cenv)) Q E s'') l hv (by simp only [List.length_cons, List.length_nil] at hsz; omega) r
      fun a h' _ S' => k { s' with heap := h' } (kp.toSame.trans ⟨h', _, rfl⟩) ⟨ss.trans (kp.toSame.trans ⟨h', _, rfl⟩), _, _, S'⟩
    have e4 := S.i.vars.hid u hv
    rw [e1] at e4; cases e4
    refine wpAny_bind (wpAny_call_entry slot_list_append (T := "list") ⟨_, e3, rfl⟩ entry_list_append ?_ (args_list_append _ _))
    show wpAny _ _ (updateSeq (cenv.locals - 1) (·.push v) >>= fun _ => ret .none) _ _ s'
    exact wpAny_bind (wpAny_updateSeq e3 rfl (wpAny_pure ⟨.none, rfl, wpAny_pure q⟩))

theorem flat_succ (outs : Nat → List PyData) (i : Nat) : (List.range (i + 1)).flatMap outs = (List.range i).flatMap outs ++ outs i := by
  rw [List.range_succ, List.flatMap_append]; simp
theorem flat_le (outs : Nat → List PyData) {i n : Nat} (h : i ≤ n) : ((List.range i).flatMap outs).length ≤ ((List.range n).flatMap outs).length := by
  induction n with
  | zero => have : i = 0 := by omega
            subst this; exact Nat.le_refl _
  | succ n ih =>
    rcases Nat.lt_or_ge i (n + 1) with q | q
    · have := ih (by omega)
      rw [flat_succ, List.length_append]; omega
    · have : i = n + 1 := by omega
      subst this; exact Nat.le_refl _

theorem comp_loop {elt target iter : Expr} {ifs : List Expr} {gens : List Comprehension} {scope : Scope} {pos : Pos} {dep n : Nat} {dat : Nat → PyData} {I : Addr} {X : List (Addr × Obj)} {V' : List (Value × PyData)} {O : Nat → Obj → Prop} {o : Obj} {R : Result → Shared → Prop}
    {H : List (Addr × Obj)} {V : List (Value × PyData)} {s : Shared} {ds₀ : List PyData} (hg : gens[dep]? = some ⟨target, iter, ifs, 0⟩) (W : Wk C A I X V' n dat O) (hO : O 0 o) (outs : Nat → List PyData) (Γc : Tab) (nI : s₀.heap.get? I = none) (hXI : ∀ p ∈ X ++ H, p.1 ≠ I)
    (hsz : ds₀.length + ((List.range n).flatMap outs).length ≤ sizeLine)
    (turn : ∀ i ds E, i < n → ∃ Γ'' b, As C A cenv s₀ Z₀ E ((".acc", .own ds) :: Γc) target (dat i) Γ'' ∧ Γ''.lookup (".acc" : Str) = some (.own ds) ∧ (∀ (x : Str) e, x ≠ ".acc" → Γc.lookup x = some e → Γ''.lookup x = some e) ∧ Cds C A cenv Γ'' ifs b ∧
      (b = false → outs i = []) ∧ (b = true → Inn C A cenv s₀ Z₀ elt gens scope pos dep Γ'' (outs i)))
    (S : St C A cenv s₀ Z₀ ((I, o) :: (X ++ H)) (V' ++ V) ((".acc", .own ds₀) :: Γc) s)
    (fin : ∀ s', Same s s' → St C A cenv s₀ Z₀ H V ((".acc", .own (ds₀ ++ (List.range n).flatMap outs)) :: Γc) s' → R (.ok .next) s') :
    codeAny C.M A (.compLoop (.ListComp elt gens scope pos) dep (.ref I) (.ref (cenv.locals - 1)) cenv) R s := by
  refine codeAny_loop rfl (fun kk s' => ∃ i o, i + kk = n ∧ Same s s' ∧ O i o ∧ St C A cenv s₀ Z₀ ((I, o) :: (X ++ H)) (V' ++ V) ((".acc", .own (ds₀ ++ (List.range i).flatMap outs)) :: Γc) s') ?_ n ⟨0, o, by omega, Same.refl s, hO, by simpa using S⟩
  rintro kk s' ⟨i, o, hik, sm, hO, ss', Z', m', S'⟩
  show wpAny _ A ((compTurn (.ListComp elt gens scope pos) dep (.ref I) (.ref (cenv.locals - 1)) cenv).onRaise (fun x => do noteFrame x cenv; theTreesLotGoes x)) _ _ s'
  refine wpAny_noted ?_
  rw [compTurn_eq hg]
  refine wpAny_bind (wpAny_standAt (wpAny_bind ?_))
  have hIo := (S'.hs _ List.mem_cons_self).1
  have hXs : ∀ p ∈ X, s'.heap.get? p.1 = some p.2 := fun p hp => (S'.hs p (List.mem_cons_of_mem _ (List.mem_append_left _ hp))).1
  by_cases hi : i < n
  · refine W.item i s' o _ _ hi hIo hO hXs fun v h' tk o' hv hO' ho' eb => ?_
    have S'' := S'.iter nI (W.fld i o hO) hXI eb ho' (W.clsF _ _ hO')
    have hcls := W.cls _ _ hO'
    refine wpAny_bind (letOwned (s := { s' with heap := h', toks := tk }) ho' hcls ?_)
    obtain ⟨Γ'', b, as, hacc, hsub, hc, hf, ht⟩ := turn i (ds₀ ++ (List.range i).flatMap outs) _ hi
    have rv := hv Z' h' fun p hp => S''.vs p (List.mem_append_left _ hp)
    refine wpAny_bind (wpAny_mono (as ((I, o') :: (X ++ H)) (V' ++ V) { s' with heap := h', toks := tk } v ⟨ss'.trans ⟨h', tk, rfl⟩, Z', m', S''.addV (V' := [(v, dat i)]) fun p hp => by cases List.mem_singleton.mp hp; exact rv⟩) (fun _ s₃ ⟨sm', S₃⟩ => ?_) fun _ _ x => x)
    obtain ⟨ss₃, Z₃, m₃, S₃⟩ := S₃
    refine wpAny_bind (hc.go S₃.i fun s₄ kp₄ I₄ => ?_)
    have S₄ : St C A cenv s₀ Z₀ ((I, o') :: (X ++ H)) (V' ++ V) Γ'' s₄ := ⟨ss₃.trans kp₄.toSame, _, _, S₃.ext kp₄.ext⟩
    have sm₄ : Same s s₄ := sm.trans (Same.trans ⟨h', tk, rfl⟩ (sm'.trans kp₄.toSame))
    have back : ∀ {s₅ : Shared} {ds : List PyData}, St C A cenv s₀ Z₀ ((I, o') :: (X ++ H)) (V' ++ V) ((".acc", .own ds) :: Γ'') s₅ → St C A cenv s₀ Z₀ ((I, o') :: (X ++ H)) (V' ++ V) ((".acc", .own ds) :: Γc) s₅ := fun ⟨ss, Z, m, S⟩ =>
      ⟨ss, Z, m, S.sub fun x e l => by
        by_cases hx : x = ".acc"
        · subst hx; rw [lookup_cons_eq] at l ⊢; exact l
        · rw [lookup_cons_ne hx] at l ⊢; exact hsub x e hx l⟩
    cases b with
    | false =>
      rw [if_neg (by decide)]
      refine wpAny_pure ⟨rfl, kk - 1, by omega, i + 1, o', by omega, sm₄, hO', ?_⟩
      rw [flat_succ, hf rfl, List.append_nil]
      refine back ?_
      obtain ⟨ss, Z, m, S⟩ := S₄
      exact ⟨ss, Z, m, S.sub fun x e l => by
        by_cases hx : x = ".acc"
        · subst hx; rw [lookup_cons_eq] at l; rw [hacc, l]
        · rwa [lookup_cons_ne hx] at l⟩
    | true =>
      rw [if_pos rfl]
      refine ht rfl _ _ _ _ s₄ _ _ hacc ?_ S₄ fun s₅ sm₅ S₅ => wpAny_pure ⟨rfl, kk - 1, by omega, i + 1, o', by omega, sm₄.trans sm₅, hO', ?_⟩
      · have := flat_le outs (i := i + 1) (n := n) hi
        rw [flat_succ, List.length_append] at this
        rw [List.length_append]; omega
      · rw [flat_succ, ← List.append_assoc]; exact back S₅
  · obtain rfl : i = n := by omega
    refine W.done s' o _ _ hIo hO hXs fun h' tk eb => wpAny_pure (fin _ (sm.trans ⟨h', tk, rfl⟩) ?_)
    have S'' := S'.iterDone nI (W.fld _ o hO) hXI eb
    exact ⟨ss'.trans ⟨h', tk, rfl⟩, Z', m', (S''.dropH fun p hp => List.mem_append_right _ hp).dropV fun p hp => List.mem_append_right _ hp⟩
end
end

section
set_option autoImplicit false
set_option linter.unusedVariables false
open PySem PyProof.Rows PySem.W

noncomputable def freesOf (env : Env) : List (Str × NameKind) → List (Str × Addr) → List (Str × Addr)
  | [], acc => acc
  | (n, k) :: r, acc => if k == .free then freesOf env r ((n, (env.cells.lookup n).getD 0) :: acc) else freesOf env r acc
theorem closureFor_eq {scope : Scope} {env : Env} (h : (scope.names.all fun p => p.2 != .free || (env.cells.lookup p.1).isSome) = true) : closureFor scope env = pure (freesOf env scope.names []) := by
  have key : ∀ (names : List (Str × NameKind)) (acc : List (Str × Addr)), (names.all fun p => p.2 != .free || (env.cells.lookup p.1).isSome) = true →
      (forIn names acc fun x cs => match x with | (name, kind) => if (kind == NameKind.free) = true then (do let a ← cellOf env name; pure (ForInStep.yield ((name, a) :: cs))) else pure (ForInStep.yield cs) : Sem (List (Str × Addr))) = pure (freesOf env names acc) := by
    intro names
    induction names with
    | nil => intro acc _; rfl
    | cons p r ih =>
      intro acc h
      obtain ⟨n, k⟩ := p
      simp only [List.all_cons, Bool.and_eq_true] at h
      have ih' := fun acc => ih acc h.2
      rw [List.forIn_cons]
      unfold freesOf
      dsimp only
      by_cases hk : (k == NameKind.free) = true
      · have hs : (env.cells.lookup n).isSome = true := by
          have := h.1
          simp only [bne, hk, Bool.not_true, Bool.false_or] at this
          exact this
        obtain ⟨c, hc⟩ := Option.isSome_iff_exists.mp hs
        have hcell : cellOf env n = pure c := by unfold cellOf; rw [hc]
        rw [if_pos hk, if_pos hk, hcell, hc]
        exact ih' _
      · rw [if_neg hk, if_neg hk]
        exact ih' _
  unfold closureFor
  show (forIn scope.names ([] : List (Str × Addr)) _ >>= fun cs => pure cs) = _
  rw [key _ _ h]
  rfl
theorem frees_mem {env : Env} : ∀ {names : List (Str × NameKind)} {acc : List (Str × Addr)} {x : Str} {c : Addr}, (names.all fun p => p.2 != .free || (env.cells.lookup p.1).isSome) = true → (x, c) ∈ freesOf env names acc →
    (x, c) ∈ acc ∨ ((x, NameKind.free) ∈ names ∧ env.cells.lookup x = some c)
  | [], _, _, _, _, h => .inl h
  | (n, k) :: r, acc, x, c, hall, h => by
    simp only [List.all_cons, Bool.and_eq_true] at hall
    unfold freesOf at h
    split at h
    · rename_i hk
      have hk' : k = .free := by simpa using hk
      subst hk'
      rcases frees_mem hall.2 h with q | q
      · rcases List.mem_cons.mp q with q | q
        · obtain ⟨rfl, rfl⟩ := Prod.mk.inj q
          refine .inr ⟨List.mem_cons_self, ?_⟩
          have hs : (env.cells.lookup x).isSome = true := by simpa using hall.1
          obtain ⟨c, hc⟩ := Option.isSome_iff_exists.mp hs
          rw [hc]; rfl
        · exact .inl q
      · exact .inr ⟨List.mem_cons_of_mem _ q.1, q.2⟩
    · rcases frees_mem hall.2 h with q | q
      · exact .inl q
      · exact .inr ⟨List.mem_cons_of_mem _ q.1, q.2⟩
theorem cellsFrom_app : ∀ (names : List (Str × NameKind)) (n : Nat) (a b : List (Str × Addr)), cellsFrom n names (a ++ b) = cellsFrom n names a ++ b
  | [], _, _, _ => rfl
  | (x, k) :: r, n, a, b => by
    unfold cellsFrom
    split
    · exact cellsFrom_app r (n + 1) ((x, n) :: a) b
    · exact cellsFrom_app r n a b
theorem cellsFrom_mem : ∀ (names : List (Str × NameKind)) (n : Nat) (acc : List (Str × Addr)) (x : Str) (c : Addr), (x, c) ∈ cellsFrom n names acc → (x, c) ∈ acc ∨ (x, NameKind.cell) ∈ names
  | [], _, _, _, _, h => .inl h
  | (y, k) :: r, n, acc, x, c, h => by
    unfold cellsFrom at h
    split at h
    · rename_i hk
      have hk' : k = .cell := by simpa using hk
      subst hk'
      rcases cellsFrom_mem r _ _ x c h with q | q
      · rcases List.mem_cons.mp q with q | q
        · obtain ⟨rfl, rfl⟩ := Prod.mk.inj q; exact .inr List.mem_cons_self
        · exact .inl q
      · exact .inr (List.mem_cons_of_mem _ q)
    · rcases cellsFrom_mem r _ _ x c h with q | q
      · exact .inl q
      · exact .inr (List.mem_cons_of_mem _ q)
theorem lookup_append {α : Type} {a b : List (Str × α)} {x : Str} {c : α} (h : (a ++ b).lookup x = some c) : a.lookup x = some c ∨ (a.lookup x = none ∧ b.lookup x = some c) := by
  rw [List.lookup_append] at h
  cases q : a.lookup x with
  | none => rw [q] at h; exact .inr ⟨rfl, h⟩
  | some v => rw [q] at h; exact .inl h

noncomputable def compEnv (scope : Scope) (env : Env) (L : Addr) : Env :=
  { scope := relabel scope env, locals := L, globals := env.globals, cells := cellsFrom (L + 1) scope.names (freesOf env scope.names []), qual := env.qual, func := none, code := env.code, frame := env.frame, builtins := env.builtins }

structure CompDef (scope : Scope) (env : Env) : Prop where
  free : (scope.names.all fun p => p.2 != .free || (env.cells.lookup p.1).isSome) = true
  kind : scope.kind = .function
  fn : (scope.names.all fun p => scope.names.lookup p.1 == some p.2) = true
  acc : scope.names.lookup (".acc" : Str) = none

theorem newCompEnv {M : Model} {A : Around} {E : Value → Shared → Prop} {s : Shared} {scope : Scope} {env : Env} {cl : List (Str × Addr)} {Q : Env → Shared → Prop}
    (h : Q { scope := scope, locals := s.heap.objs.size, globals := env.globals, cells := cellsFrom (s.heap.objs.size + 1) scope.names cl, qual := env.qual, func := none, code := env.code, frame := env.frame, builtins := env.builtins }
      { s with heap := pushCells (s.heap.push { cls := .type "dict", data := .dict #[] }) scope.names }) :
    wpAny M A (newFunctionEnv scope env.globals cl [] env.qual none .none (some env)) Q E s := by
  simp only [newFunctionEnv, Option.isSome_some, if_true]
  refine wpAny_bind (wpAny_alloc (wpAny_bind (wpAny_layCells _ (fun name kind cells => by cases hkc : kind == NameKind.cell <;> simp) _ _ _ _ ?_)))
  have hsz : (s.heap.push { cls := .type "dict", data := .dict #[] }).objs.size = s.heap.objs.size + 1 := Heap.size_push ..
  rw [hsz]
  exact wpAny_bind (wpAny_pure (wpAny_pure h))

theorem relabel_local {scope : Scope} {env : Env} {x : Str} (h : (relabel scope env).names.lookup x = some .local) : scope.names.lookup x = some .local := by
  unfold relabel at h
  simp only at h
  generalize scope.names = names at h ⊢
  induction names with
  | nil => cases h
  | cons p r ih =>
    obtain ⟨n, k⟩ := p
    rw [List.map_cons] at h
    by_cases hx : x = n
    · subst hx
      by_cases hc : (k == NameKind.free && env.scope.kind == .function && env.kindOf x == some .cell) = true
      · simp only [hc, if_true, List.lookup_cons, beq_self_eq_true] at h; cases h
      · simp only [hc, Bool.false_eq_true, if_false, List.lookup_cons, beq_self_eq_true] at h ⊢; exact h
    · have hb : (x == n) = false := by simpa using hx
      simp only [List.lookup_cons, hb]
      refine ih ?_
      by_cases hc : (k == NameKind.free && env.scope.kind == .function && env.kindOf n == some .cell) = true
      · simp only [hc, if_true, List.lookup_cons, hb] at h; exact h
      · simp only [hc, Bool.false_eq_true, if_false, List.lookup_cons, hb] at h; exact h
theorem relabel_none {scope : Scope} {env : Env} {x : Str} (h : scope.names.lookup x = none) : (relabel scope env).names.lookup x = none := by
  unfold relabel
  simp only
  generalize scope.names = names at h ⊢
  induction names with
  | nil => rfl
  | cons p r ih =>
    obtain ⟨n, k⟩ := p
    rw [List.map_cons]
    by_cases hx : x = n
    · subst hx; simp at h
    · have hb : (x == n) = false := by simpa using hx
      simp only [List.lookup_cons, hb] at h
      by_cases hc : (k == NameKind.free && env.scope.kind == .function && env.kindOf n == some .cell) = true
      · simp only [hc, if_true, List.lookup_cons, hb]; exact ih h
      · simp only [hc, Bool.false_eq_true, if_false, List.lookup_cons, hb]; exact ih h

noncomputable def capE : Ent → Ent
  | .fz d => .fz d
  | .bor d => .bor d
  | .own ds => .bor (.list ds)
  | .any => .any
noncomputable def capT (names : List (Str × NameKind)) (Γ : Tab) : Tab := names.filterMap fun p => if p.2 == .free then (Γ.lookup p.1).map fun e => (p.1, capE e) else none
theorem capT_lookup {Γ : Tab} : ∀ {names : List (Str × NameKind)} {x : Str} {e : Ent}, (capT names Γ).lookup x = some e → (x, NameKind.free) ∈ names ∧ ∃ e', Γ.lookup x = some e' ∧ e = capE e'
  | [], _, _, h => by cases h
  | (n, k) :: r, x, e, h => by
    unfold capT at h
    rw [List.filterMap_cons] at h
    have ih := @capT_lookup Γ r x e
    by_cases hk : (k == NameKind.free) = true
    · have hk' : k = .free := by simpa using hk
      subst hk'
      cases hl : Γ.lookup n with
      | none =>
        simp only [hk, if_true, hl, Option.map_none] at h
        exact ⟨List.mem_cons_of_mem _ (ih h).1, (ih h).2⟩
      | some e' =>
        simp only [hk, if_true, hl, Option.map_some, List.lookup_cons] at h
        by_cases hx : x = n
        · subst hx
          simp only [beq_self_eq_true] at h
          cases h
          exact ⟨List.mem_cons_self, e', hl, rfl⟩
        · have hb : (x == n) = false := by simpa using hx
          simp only [hb] at h
          exact ⟨List.mem_cons_of_mem _ (ih h).1, (ih h).2⟩
    · simp only [hk] at h
      exact ⟨List.mem_cons_of_mem _ (ih h).1, (ih h).2⟩
end

section
set_option autoImplicit false
set_option linter.unusedVariables false
open PySem PyProof.Rows PySem.W

section
variable {C : Cx} {A : Around} {env : Env} {Γ : Tab} {μ : Bool} {E : Value → Shared → Prop} {scope : Scope}

theorem CompDef.at {x : Str} {k : NameKind} (D : CompDef scope env) (h : (x, k) ∈ scope.names) : scope.names.lookup x = some k := by
  have := List.all_eq_true.mp D.fn _ h
  simpa using this
theorem compEnv_cells {L : Addr} : (compEnv scope env L).cells = cellsFrom (L + 1) scope.names [] ++ freesOf env scope.names [] := cellsFrom_app scope.names (L + 1) [] _

theorem CompDef.cellAt {L c : Addr} {x : Str} (D : CompDef scope env) (h : (compEnv scope env L).cells.lookup x = some c) :
    ((cellsFrom (L + 1) scope.names []).lookup x = some c ∧ scope.names.lookup x = some .cell) ∨ (env.cells.lookup x = some c ∧ scope.names.lookup x = some .free) := by
  rw [compEnv_cells] at h
  rcases lookup_append h with q | ⟨_, q⟩
  · rcases cellsFrom_mem _ _ _ _ _ (mem_of_lookup q) with r | r
    · cases r
    · exact .inl ⟨q, D.at r⟩
  · rcases frees_mem D.free (mem_of_lookup q) with r | ⟨r, r'⟩
    · cases r
    · exact .inr ⟨r', D.at r⟩

theorem CompDef.kindAcc {L : Addr} (D : CompDef scope env) : (compEnv scope env L).kindOf ".acc" = none := relabel_none D.acc

theorem compSt {m : Str → Option Value} {Z₀ Z : Addr → Prop} {s₁ : Shared} {o : Obj} {X : List (Addr × Obj)} {V : List (Value × PyData)} (D : CompDef scope env) (I : In C A env Z₀ Z Γ m s₁.heap) (hof : o.isFreed = false) (hoc : o.cls ≠ .type "frame")
    (hX : ∀ p ∈ X, s₁.heap.get? p.1 = some p.2 ∧ ¬ Z p.1 ∧ p.2.cls ≠ .type "frame") (hV : ∀ p ∈ V, Rd C.prog C.w Z s₁.heap p.1 p.2) :
    St C A (compEnv scope env (s₁.heap.objs.size + 2)) s₁ Z ((s₁.heap.objs.size, o) :: (X ++ [])) (V ++ []) ((".acc", .own []) :: capT scope.names Γ)
      { s₁ with heap := pushCells (((s₁.heap.push o).push (listO #[] 0)).push { cls := .type "dict", data := .dict #[] }) scope.names } := by
  have hk : ∀ b x, s₁.heap.get? b = some x → (pushCells (((s₁.heap.push o).push (listO #[] 0)).push { cls := .type "dict", data := .dict #[] }) scope.names).get? b = some x :=
    fun b x e => pushCells_keeps _ _ _ _ (Heap.get?_push_of_some _ (Heap.get?_push_of_some _ (Heap.get?_push_of_some _ e)))
  have sz1 : (s₁.heap.push o).objs.size = s₁.heap.objs.size + 1 := Heap.size_push ..
  have sz2 : ((s₁.heap.push o).push (listO #[] 0)).objs.size = s₁.heap.objs.size + 2 := by rw [Heap.size_push, sz1]
  have sz3 : (((s₁.heap.push o).push (listO #[] 0)).push { cls := .type "dict", data := .dict #[] }).objs.size = s₁.heap.objs.size + 3 := by rw [Heap.size_push, sz2]
  have gI : (pushCells (((s₁.heap.push o).push (listO #[] 0)).push { cls := .type "dict", data := .dict #[] }) scope.names).get? s₁.heap.objs.size = some o :=
    pushCells_keeps _ _ _ _ (Heap.get?_push_of_some _ (Heap.get?_push_of_some _ (Heap.get?_push_size _ hof)))
  have gA : (pushCells (((s₁.heap.push o).push (listO #[] 0)).push { cls := .type "dict", data := .dict #[] }) scope.names).get? (s₁.heap.objs.size + 1) = some (listO #[] 0) :=
    pushCells_keeps _ _ _ _ (Heap.get?_push_of_some _ (by rw [← sz1]; exact Heap.get?_push_size _ rfl))
  have gL : (((s₁.heap.push o).push (listO #[] 0)).push { cls := .type "dict", data := .dict #[] }).Ns (s₁.heap.objs.size + 2) (fun _ => none) := by
    rw [← sz2]; exact Heap.Ns.new _ (.type "dict")
  have gL' := gL.keeps (pushCells_keeps scope.names _)
  have ok := cellsFrom_ok scope.names (((s₁.heap.push o).push (listO #[] 0)).push { cls := .type "dict", data := .dict #[] }) (s₁.heap.objs.size + 3) [] ⟨fun _ _ hm => (nomatch hm), List.Pairwise.nil⟩ (by rw [sz3]; exact Nat.le_refl _)
  rw [sz3] at ok
  generalize hh : pushCells (((s₁.heap.push o).push (listO #[] 0)).push { cls := .type "dict", data := .dict #[] }) scope.names = h₄ at hk gI gA gL' ok ⊢
  generalize hN : s₁.heap.objs.size = N at *
  have hnew : ∀ a : Nat, N ≤ a → s₁.heap.get? a = none := fun a ha => Heap.get?_none_of_le (by rw [hN]; exact ha)
  have hlt : ∀ (a : Nat) x, s₁.heap.get? a = some x → a < N := fun a x e => hN ▸ Heap.lt_size e
  have ext : Ext A s₁.heap h₄ := .of hk
  let Zc : Addr → Prop := fun (a : Nat) => Z a ∨ (N + 1 ≤ a ∧ ∃ x, h₄.get? a = some x)
  have zlt : ∀ a : Nat, Z a → a < N := fun a z => let ⟨x, e⟩ := I.z.st a z; hlt a x e
  have hre : ∀ (a : Nat) x, s₁.heap.get? a = some x → Zc a → Z a := fun a x e q => q.elim id fun q => by have := hlt a x e; omega
  have hre2 : ∀ a x, s₁.heap.get? a = some x → (Zc a ∧ ¬ Z a) → False := fun a x e q => q.2 (hre a x e q.1)
  refine ⟨⟨h₄, _, rfl⟩, Zc, fun x => if x = ".acc" then some (.ref (N + 1)) else if scope.names.lookup x = some .free then m x else none, ?_⟩
  refine ⟨⟨⟨D.kind, I.fn.glob, I.fn.blt, D.kindAcc⟩, ⟨⟨_, gL', fun x hx => ?_⟩, fun x c hc => ?_, fun v hv => ?_⟩, fun x e l => ?_, I.base.keep ext, ⟨fun a z => ?_, fun a z => ?_⟩, I.fr.keep ext, ?zc, ?cd⟩, I.base, ext, fun a z => ⟨.inl z, I.z.st a z⟩, .inr ⟨by show N + 1 ≤ N + 2; omega, ?_⟩, hnew _ (by show N ≤ N + 2; omega), ?zc, ?cd,
    fun p hp => ?_, fun p hp => ?_, fun x ds a l e => ?_⟩
  case zc =>
    intro x c hc
    rcases D.cellAt hc with ⟨q, _⟩ | ⟨q, _⟩
    · obtain ⟨⟨x', e, _⟩, hlo⟩ := ok.empty _ _ (mem_of_lookup q)
      exact .inr ⟨by omega, x', e⟩
    · exact .inl (I.zc x c q)
  case cd =>
    intro x y c hc hc'
    rcases D.cellAt hc with ⟨q, _⟩ | ⟨q, _⟩ <;> rcases D.cellAt hc' with ⟨q', _⟩ | ⟨q', _⟩
    · exact name_of_addr ok.apart (mem_of_lookup q) (mem_of_lookup q')
    · have h1 := (ok.empty _ _ (mem_of_lookup q)).2
      have h2 := zlt _ (I.zc y c q')
      omega
    · have h1 := (ok.empty _ _ (mem_of_lookup q')).2
      have h2 := zlt _ (I.zc x c q)
      omega
    · exact I.cd x y c q q'
  · have hx' := relabel_local hx
    have hna : x ≠ ".acc" := by rintro rfl; rw [D.acc] at hx'; cases hx'
    rw [if_neg hna, if_neg (by rw [hx']; decide)]
  · rcases D.cellAt hc with ⟨q, hk'⟩ | ⟨q, hk'⟩
    · have hna : x ≠ ".acc" := by rintro rfl; rw [D.acc] at hk'; cases hk'
      rw [if_neg hna, if_neg (by rw [hk']; decide)]
      exact (ok.empty _ _ (mem_of_lookup q)).1
    · have hna : x ≠ ".acc" := by rintro rfl; rw [D.acc] at hk'; cases hk'
      rw [if_neg hna, if_pos hk']
      exact ext.cell (I.vars.cel x c q)
  · simp only [if_true] at hv
    cases hv
    rfl
  · by_cases hx : x = ".acc"
    · subst hx
      rw [lookup_cons_eq] at l; cases l
      simp only [if_true]
      exact ⟨N + 1, #[], 0, rfl, gA, .inr ⟨Nat.le_refl _, _, gA⟩, .nil⟩
    · rw [lookup_cons_ne hx] at l
      obtain ⟨hin, e', hl, rfl⟩ := capT_lookup l
      rw [if_neg hx, if_pos (D.at hin)]
      have := I.ents x e' hl
      cases hv : m x with
      | none => rw [hv] at this; exact this.elim
      | some v =>
        rw [hv] at this
        cases e' with
        | fz d => exact (Rd.reZ hre this).keep ext
        | bor d => exact (Rd.reZ (Z' := fun a => Zc a ∧ ¬ Z a) (fun a x e q => (hre2 a x e q).elim) this).keep ext
        | own ds =>
          obtain ⟨a, vs, n, rfl, e, z, r⟩ := this
          exact .list (ext.at e listO_cls) (fun q => q.2 z) ((r.reZ (Z' := fun a => Zc a ∧ ¬ Z a) fun a x e q => (hre2 a x e q).elim).keep ext)
        | any => trivial
  · rcases z with z | z
    · obtain ⟨x, e⟩ := I.z.st a z; exact ⟨x, hk _ _ e⟩
    · exact z.2
  · rcases z with z | z
    · exact I.z.k a z
    · cases e : C.K.lookup a with
      | none => rfl
      | some x => have := hlt _ _ (I.base.k _ _ e); omega
  · obtain ⟨x, _, _, e, _⟩ := gL'; exact ⟨x, e⟩
  · rw [List.append_nil] at hp
    rcases List.mem_cons.mp hp with rfl | hp
    · exact ⟨gI, fun q => q.elim (fun z => by have := zlt _ z; simp at this) fun q => by have := q.1; simp at this; omega, hoc⟩
    · obtain ⟨e, nz, c⟩ := hX p hp
      exact ⟨hk _ _ e, fun q => nz (hre _ _ e q), c⟩
  · rw [List.append_nil] at hp
    exact (Rd.reZ hre (hV p hp)).keep ext
  · have key : ∀ (y : Str) es, List.lookup y (((".acc" : Str), Ent.own []) :: capT scope.names Γ) = some (.own es) → y = ".acc" := fun y es l => by
      by_cases hy : y = ".acc"
      · exact hy
      · rw [lookup_cons_ne hy] at l
        obtain ⟨_, e', _, q⟩ := capT_lookup l
        cases e' <;> cases q
    have hx := key x ds l
    subst hx
    simp only [if_true] at e
    cases e
    exact ⟨hnew _ (Nat.le_succ _), fun y es l' e' => key y es l'⟩
end
end

section
set_option autoImplicit false
set_option linter.unusedVariables false
open PySem PyProof.Rows PySem.W

section
variable {C : Cx} {A : Around} {env : Env} {Γ : Tab} {μ : Bool} {E : Value → Shared → Prop} {scope : Scope}

noncomputable def Turn (C : Cx) (A : Around) (scope : Scope) (env : Env) (Γc : Tab) (target : Expr) (ifs : List Expr) (elt : Expr) (gens : List Comprehension) (pos : Pos) (dep : Nat) (L : Addr) (s₀ : Shared) (Z₀ : Addr → Prop) (d : PyData) (out : List PyData) : Prop :=
  ∀ ds E, ∃ Γ'' b, As C A (compEnv scope env L) s₀ Z₀ E ((".acc", .own ds) :: Γc) target d Γ'' ∧ Γ''.lookup (".acc" : Str) = some (.own ds) ∧ (∀ (x : Str) e, x ≠ ".acc" → Γc.lookup x = some e → Γ''.lookup x = some e) ∧
    Cds C A (compEnv scope env L) Γ'' ifs b ∧ (b = false → out = []) ∧ (b = true → Inn C A (compEnv scope env L) s₀ Z₀ elt gens scope pos dep Γ'' out)
noncomputable abbrev OwnC (scope : Scope) (env : Env) (L : Addr) (s₀ : Shared) : Prop := ∀ x : Str, (scope.names.lookup x == some .free) = false → Owned (compEnv scope env L) s₀.heap x

theorem comp_run {use : Option (Value → Sem Unit)} {elt target iter : Expr} {ifs : List Expr} {gens : List Comprehension} {pos p : Pos} {n : Nat} {dat : Nat → PyData} {s : Shared} {m : Str → Option Value} {Z₀ Z : Addr → Prop} {Q : Value → Shared → Prop} (D : CompDef scope env)
    (src : Src C A env Γ iter n dat) (hs : ∀ x, foldedSetIterable iter env x = pure x) (outs : Nat → List PyData) (hsz : ((List.range n).flatMap outs).length ≤ sizeLine)
    (turn : ∀ L s₀ Z₀ i, OwnC scope env L s₀ → i < n → Turn C A scope env (capT scope.names Γ) target ifs elt (⟨target, iter, ifs, 0⟩ :: gens) pos 0 L s₀ Z₀ (dat i) (outs i))
    (I : In C A env Z₀ Z Γ m s.heap)
    (k : ∀ acc L s' vs j ml, Same s s' → Ext A s.heap s'.heap → s.heap.get? acc = none → s.heap.get? L = none → acc ≠ L → s'.heap.Ns L ml → s'.heap.get? acc = some (listO vs j) →
      Rds C.prog C.w (fun a => Z a ∨ a = L ∨ a = acc) s'.heap vs.toList ((List.range n).flatMap outs) → compPost C.M A E use Q (.ref acc) L (.ok .next) s') :
    wpAny C.M A (comprehension (.ListComp elt (⟨target, iter, ifs, 0⟩ :: gens) scope pos) scope env p (newList []) false (eval iter env) use) Q E s := by
  refine wpAny_comprehension_free (g := ⟨target, iter, ifs, 0⟩) (gs := gens) rfl hs (closureFor_eq D.free) D.kind (fun x hx hl => by have := D.at (x := x.1) (k := x.2) hx; rwa [hl] at this) (src E s m Z₀ Z _ I fun s₁ X V O o kp hof hO W hX hV => ?_)
  have sz1 : (s₁.heap.push o).objs.size = s₁.heap.objs.size + 1 := Heap.size_push ..
  have sz2 : ((s₁.heap.push o).push (listO #[] 0)).objs.size = s₁.heap.objs.size + 2 := by rw [Heap.size_push, sz1]
  refine wpAny_newList (newCompEnv ?_) (by decide)
  show codeAny C.M A (.compStart _ 0 (.ref s₁.heap.objs.size) (.ref (s₁.heap.push o).objs.size) (compEnv scope env ((s₁.heap.push o).push (listO #[] 0)).objs.size)) (compPost C.M A E use Q (.ref (s₁.heap.push o).objs.size) ((s₁.heap.push o).push (listO #[] 0)).objs.size)
    { s₁ with heap := pushCells (((s₁.heap.push o).push (listO #[] 0)).push { cls := .type "dict", data := .dict #[] }) scope.names }
  rw [sz1, sz2]
  have S := compSt (Γ := Γ) D (I.keep kp.ext) hof (W.clsF _ _ hO) hX hV
  have hnone : ∀ a : Nat, s₁.heap.objs.size ≤ a → s₁.heap.get? a = none := fun a ha => Heap.get?_none_of_le ha
  have hnone0 : ∀ a : Nat, s₁.heap.objs.size ≤ a → s.heap.get? a = none := fun a ha => by
    cases q : s.heap.get? a with
    | none => rfl
    | some x => obtain ⟨x', q', _⟩ := kp.ext.stays q; rw [hnone a ha] at q'; cases q'
  have hXI : ∀ p ∈ X ++ ([] : List (Addr × Obj)), p.1 ≠ s₁.heap.objs.size := fun p hp q => by
    rw [List.append_nil] at hp
    have e := (hX p hp).1
    rw [q, hnone _ (Nat.le_refl _)] at e; cases e
  have own : OwnC scope env (s₁.heap.objs.size + 2) s₁ := fun x hx c hc => by
    rcases D.cellAt hc with ⟨q, _⟩ | ⟨q, hk⟩
    · have ok := cellsFrom_ok scope.names (((s₁.heap.push o).push (listO #[] 0)).push { cls := .type "dict", data := .dict #[] }) (s₁.heap.objs.size + 3) [] ⟨fun _ _ hm => (nomatch hm), List.Pairwise.nil⟩ (by rw [Heap.size_push, sz2]; exact Nat.le_refl _)
      rw [Heap.size_push, sz2] at ok
      exact hnone c (by have h : (s₁.heap.objs.size + 3 : Nat) ≤ c := (ok.empty _ _ (mem_of_lookup q)).2; omega)
    · rw [hk] at hx; exact absurd hx (by decide)
  have loop := comp_loop (elt := elt) (gens := ⟨target, iter, ifs, 0⟩ :: gens) (scope := scope) (pos := pos) (dep := 0) (R := compPost C.M A E use Q (.ref (s₁.heap.objs.size + 1)) (s₁.heap.objs.size + 2)) (hg := rfl) W hO outs (capT scope.names Γ) (hnone _ (Nat.le_refl _)) hXI (by simpa using hsz)
    (fun i ds E hi => turn _ s₁ Z i own hi ds E) S (fun s' sm S' => by
      obtain ⟨_, Z', m', S'⟩ := S'
      obtain ⟨ml, hn, _⟩ := S'.i.vars.loc
      have he := S'.i.ents _ _ lookup_cons_eq
      cases hv : m' ".acc" with
      | none => rw [hv] at he; exact he.elim
      | some u =>
        have hu := S'.i.vars.hid u hv
        rw [hv] at he
        obtain ⟨a, vs, k', e1, e2, z, r⟩ := he
        rw [e1] at hu
        have ha : a = s₁.heap.objs.size + 1 := by cases hu; rfl
        subst ha
        rw [List.nil_append] at r
        refine k _ _ s' vs k' ml (kp.toSame.trans (Same.trans ⟨_, _, rfl⟩ sm)) (kp.ext.trans S'.keep) (hnone0 _ (Nat.le_succ _)) (hnone0 _ (by omega)) (fun q => by have : s₁.heap.objs.size + 1 = s₁.heap.objs.size + 2 := q; omega) hn e2 (r.reZ fun b x _ q => ?_)
        rcases q with q | rfl | rfl
        · exact (S'.z0 b q).1
        · exact S'.zl
        · exact z)
  refine codeAny_compStart_list loop (W.self 0 _ o _ _ ?_ hO loop)
  have := (S.2.choose_spec.choose_spec.hs _ List.mem_cons_self).1
  exact this

theorem ev_comp {elt target iter : Expr} {ifs : List Expr} {gens : List Comprehension} {pos : Pos} {n : Nat} {dat : Nat → PyData} (D : CompDef scope env)
    (src : Src C A env Γ iter n dat) (hs : ∀ x, foldedSetIterable iter env x = pure x) (outs : Nat → List PyData) (hsz : ((List.range n).flatMap outs).length ≤ sizeLine)
    (turn : ∀ L s₀ Z₀ i, OwnC scope env L s₀ → i < n → Turn C A scope env (capT scope.names Γ) target ifs elt (⟨target, iter, ifs, 0⟩ :: gens) pos 0 L s₀ Z₀ (dat i) (outs i)) :
    Ev C A env Γ (.ListComp elt (⟨target, iter, ifs, 0⟩ :: gens) scope pos) μ (.list ((List.range n).flatMap outs)) := fun E s m Z₀ Z I => by
  rw [eval_ListComp]
  refine comp_run (use := none) D src hs outs hsz turn I fun acc L s' vs k ml sm ex na nl hne hn ha r => ⟨ml, hn, fun h' sb => ?_⟩
  refine ⟨⟨sm.trans ⟨h', _, rfl⟩, ex.mutOf nl fun b o hb e => (sb.2 b hb).trans e⟩, ?_⟩
  have hz : ¬ sel μ Z acc := fun q => by
    cases μ with
    | true => obtain ⟨x, e⟩ := I.z.st acc q; rw [na] at e; cases e
    | false => exact q
  refine .list ((sb.2 acc hne).trans ha) hz ?_
  have r' : Rds C.prog C.w (fun a => Z a ∨ a = L ∨ a = acc) h' vs.toList ((List.range n).flatMap outs) := r.keepZ fun b o nz e => (sb.2 b (by rintro rfl; exact nz (.inr (.inl rfl)))).trans e
  refine r'.reZ fun a x _ q => ?_
  cases μ with
  | true => exact .inl q
  | false => exact q.elim

theorem codeAny_compStart_gen {M : Model} {prog : Program} {w : World} {R : Result → Shared → Prop} {s : Shared} {elt target iter : Expr} {ifs : List Expr} {gens : List Comprehension} {pos : Pos} {dep : Nat} {it acc : Value} {cenv : Env} (hg : gens[dep]? = some ⟨target, iter, ifs, 0⟩)
    (h0 : codeAny (model prog w) A (.compLoop (.ListComp elt gens scope pos) dep it acc cenv) R s)
    (h : wpAny (model prog w) A (pyIter it) (fun it' s' => codeAny (model prog w) A (.compLoop (.ListComp elt gens scope pos) dep it' acc cenv) R s') (notedBy (model prog w) A cenv fun x s' => R (.error x) s') s) :
    codeAny (model prog w) A (.compStart (.ListComp elt gens scope pos) dep it acc cenv) R s := by
  refine codeAny_of_tree ?_
  show wpAny _ _ ((compStart (.ListComp elt gens scope pos) dep it acc cenv).onRaise (fun x => do noteFrame x cenv; standAt theWindowsPlace)) _ _ s
  refine wpAny_notedAt ?_
  unfold compStart
  have hc : (clausesOf (.ListComp elt gens scope pos))[dep]? = some ⟨target, iter, ifs, 0⟩ := hg
  rw [hc]
  show wpAny _ _ (ask >>= _) _ _ s
  refine wpAny_bind (wpAny_askSetting (wpAny_ite ?_))
  split
  · first
      | exact wpAny_bind (wpAny_pure (wpAny_pure (And.intro rfl h0)))
      | exact wpAny_pure (And.intro rfl h0)
  · first
      | exact wpAny_bind (wpAny_rule (wpAny_bind (wpAny_standAt (wpAny_bind (wpAny_mono h (fun it' s' h' => wpAny_pure (And.intro rfl h')) fun _ _ x => x)))))
      | (refine wpAny_bind (wpAny_rule ?_); show wpAny _ _ (standAt iter.pos >>= _) _ _ s; exact wpAny_bind (wpAny_standAt (wpAny_bind (wpAny_mono h (fun it' s' h' => wpAny_pure (And.intro rfl h')) fun _ _ x => x))))

theorem inn_nest {elt target iter : Expr} {ifs : List Expr} {gens : List Comprehension} {pos : Pos} {dep n : Nat} {dat : Nat → PyData} {L : Addr} {s₀ : Shared} {Z₀ : Addr → Prop} (hg : gens[dep + 1]? = some ⟨target, iter, ifs, 0⟩) (src : Src C A (compEnv scope env L) Γ iter n dat) (hs : ∀ x, foldedSetIterable iter (compEnv scope env L) x = pure x) (outs : Nat → List PyData)
    (Γc : Tab) (hc : ∀ (x : Str) e, x ≠ ".acc" → Γc.lookup x = some e → Γ.lookup x = some e) (hc' : ∀ (x : Str) e, x ≠ ".acc" → Γ.lookup x = some e → Γc.lookup x = some e)
    (turn : ∀ i, i < n → Turn C A scope env Γc target ifs elt gens pos (dep + 1) L s₀ Z₀ (dat i) (outs i)) :
    Inn C A (compEnv scope env L) s₀ Z₀ elt gens scope pos dep Γ ((List.range n).flatMap outs) := fun E Q H V s ds it l hsz ⟨ss, Z, m, S⟩ k => by
  unfold innerK
  rw [hg]
  simp only [bne_self_eq_false, Bool.false_eq_true, if_false]
  refine wpAny_bind (wpAny_mono (src E s m Z₀ Z (fun v s' => wpAny C.M A (runOwn (.compStart (.ListComp elt gens scope pos) (dep + 1) v (.ref ((compEnv scope env L).locals - 1)) (compEnv scope env L)) (compEnv scope env L)) (fun _ s'' => wpAny C.M A (again (.compLoop (.ListComp elt gens scope pos) dep it (.ref ((compEnv scope env L).locals - 1)) (compEnv scope env L))) Q E s'') E s') S.i ?_) (fun v s' q => ?_) fun _ _ x => x)
  · intro s₁ X V' O o kp hof hO W hX hV
    have hnone : ∀ a : Nat, s₁.heap.objs.size ≤ a → s₁.heap.get? a = none := fun a ha => Heap.get?_none_of_le ha
    have S₁ := S.ext kp.ext
    have nI : s₀.heap.get? s₁.heap.objs.size = none := by
      cases e : s₀.heap.get? s₁.heap.objs.size with
      | none => rfl
      | some x => obtain ⟨o', q, _⟩ := S₁.keep.stays e; rw [hnone _ (Nat.le_refl _)] at q; cases q
    have hXI : ∀ p ∈ X ++ H, p.1 ≠ s₁.heap.objs.size := fun p hp q => by
      have e : s₁.heap.get? p.1 = some p.2 := (List.mem_append.mp hp).elim (fun hp => (hX p hp).1) fun hp => (S₁.hs p hp).1
      rw [q, hnone _ (Nat.le_refl _)] at e; cases e
    have S₂ : St C A (compEnv scope env L) s₀ Z₀ ((s₁.heap.objs.size, o) :: (X ++ H)) (V' ++ V) ((".acc", .own ds) :: Γc) { s₁ with heap := s₁.heap.push o } := by
      refine ⟨ss.trans (kp.toSame.trans ⟨_, _, rfl⟩), Z, m, ?_⟩
      have S₂ := ((S₁.ext (Ext.push o)).addV (V' := V') fun p hp => (hV p hp).push o).sub (Γ' := (".acc", .own ds) :: Γc) fun x e lx => by
        by_cases hx : x = ".acc"
        · subst hx; rw [lookup_cons_eq] at lx; rw [l, lx]
        · rw [lookup_cons_ne hx] at lx; exact hc x e hx lx
      refine { S₂ with hs := fun p hp => ?_ }
      rcases List.mem_cons.mp hp with rfl | hp
      · exact ⟨Heap.get?_push_size _ hof, S₁.i.z.fresh, W.clsF _ _ hO⟩
      · rcases List.mem_append.mp hp with hp | hp
        · exact ⟨Heap.get?_push_of_some _ (hX p hp).1, (hX p hp).2⟩
        · exact S₂.hs p hp
    refine wpAny_runOwn (h := none) ?_
    have loop := comp_loop (elt := elt) (gens := gens) (scope := scope) (pos := pos) (dep := dep + 1) (R := fun r s' => match r with
        | .ok f => wpAny C.M A (again (.compLoop (.ListComp elt gens scope pos) dep it (.ref ((compEnv scope env L).locals - 1)) (compEnv scope env L))) Q E s'
        | .error e => cameBackBy C.M A (compEnv scope env L) E e s') (hg := hg) W hO outs Γc nI hXI hsz (fun i ds E hi => turn i hi ds E) S₂ (fun s' sm S' => by
      refine k s' (kp.toSame.trans (Same.trans ⟨_, _, rfl⟩ sm)) ?_
      obtain ⟨ss', Z', m', S'⟩ := S'
      exact ⟨ss', Z', m', S'.sub fun x e lx => by
        by_cases hx : x = ".acc"
        · subst hx; rw [lookup_cons_eq] at lx ⊢; exact lx
        · rw [lookup_cons_ne hx] at lx ⊢; exact hc' x e hx lx⟩)
    exact codeAny_compStart_gen (M := C.M) hg loop (W.self 0 _ o _ _ (Heap.get?_push_size _ hof) hO loop)
  · exact wpAny_bind (wpAny_standAt (wpAny_bind (wpAny_of_eq (hs v) (wpAny_bind (wpAny_holding (wpAny_mono q (fun v s' q => wpAny_bind q) fun _ _ x => x))))))
end
end

section
set_option autoImplicit false
set_option linter.unusedVariables false
open PySem PyProof.Rows PySem.W

section
variable {C : Cx} {A : Around} {env : Env} {Γ : Tab} {e e₁ e₂ : Expr} {μ : Bool} {d d₁ d₂ : PyData} {s₀ : Shared} {Z₀ : Addr → Prop} {E : Value → Shared → Prop}

theorem Ev.cast {d' : PyData} (h : Ev C A env Γ e μ d) (q : d = d') : Ev C A env Γ e μ d' := q ▸ h
theorem Cd.cast {b b' : Bool} (h : Cd C A env Γ e b) (q : b = b') : Cd C A env Γ e b' := q ▸ h
theorem Src.cast {n n' : Nat} {dat dat' : Nat → PyData} (h : Src C A env Γ e n dat) (q : n = n') (q' : dat = dat') : Src C A env Γ e n' dat' := q ▸ q' ▸ h

noncomputable def DOk (d : PyData) (n : Nat) : Prop := noDict d = true ∧ d.depth ≤ n
theorem DOk.flat (hf : flat d = true) : DOk d 0 := by
  cases d with
  | none => exact ⟨by simp [noDict], by simp [PyData.depth]⟩
  | bool b => exact ⟨by simp [noDict], by simp [PyData.depth]⟩
  | int i => exact ⟨by simp [noDict], by simp [PyData.depth]⟩
  | str s => exact ⟨by simp [noDict], by simp [PyData.depth]⟩
  | list xs => cases hf
  | tuple xs => cases hf
  | dict xs => cases hf
theorem marks_of {op : CmpOp} {e : Expr} (h : (op == .In || op == .NotIn) = false) : behindInMarks op e = false := by
  cases e <;> first | rfl | simp [behindInMarks, h]
theorem dOk_all {xs : List PyData} {n : Nat} (h : ∀ x ∈ xs, DOk x n) : noDict.noDicts xs = true ∧ PyData.depthAll xs ≤ n := by
  induction xs with
  | nil => exact ⟨by simp [noDict.noDicts], by simp [PyData.depthAll]⟩
  | cons x xs ih =>
    obtain ⟨h1, h2⟩ := h x List.mem_cons_self
    obtain ⟨i1, i2⟩ := ih fun y hy => h y (List.mem_cons_of_mem _ hy)
    refine ⟨by simp [noDict.noDicts, h1, i1], ?_⟩
    simp only [PyData.depthAll]; omega
theorem DOk.list {xs : List PyData} {n : Nat} (h : ∀ x ∈ xs, DOk x n) : DOk (.list xs) (n + 1) :=
  let ⟨a, b⟩ := dOk_all h; ⟨by simpa [noDict] using a, by simp only [PyData.depth]; omega⟩
theorem DOk.tuple {xs : List PyData} {n : Nat} (h : ∀ x ∈ xs, DOk x n) : DOk (.tuple xs) (n + 1) :=
  let ⟨a, b⟩ := dOk_all h; ⟨by simpa [noDict] using a, by simp only [PyData.depth]; omega⟩
theorem DOk.mono {n k : Nat} (h : DOk d n) (hk : n ≤ k) : DOk d k := ⟨h.1, by have := h.2; omega⟩

theorem eqv_int (a b : Int) : PyData.eqv (.int a) (.int b) = (a == b) := by first | rfl | (unfold PyData.eqv; rfl) | simp [PyData.eqv]
theorem eqv_str (a b : Str) : PyData.eqv (.str a) (.str b) = (a == b) := by first | rfl | simp [PyData.eqv]

theorem cmp_room {k : Nat} (n₁ : DOk d₁ k) (n₂ : DOk d₂ 100) (hk : k ≤ 100) : (noDict d₁ && noDict d₂ && decide (min d₁.depth d₂.depth ≤ 100)) = true := by
  have := n₁.2
  simp only [n₁.1, n₂.1, Bool.true_and, decide_eq_true_eq]; omega
theorem c_eq {n k : Nat} {pos : Pos} (hA : OkA A n) (h₁ : Ev C A env Γ e₁ false d₁) (h₂ : Ev C A env Γ e₂ false d₂) (n₁ : DOk d₁ k) (n₂ : DOk d₂ 100) (hk : k ≤ 100) : Cd C A env Γ (.Compare e₁ [.Eq] [e₂] pos) (PyData.eqv d₁ d₂) :=
  cd_cmp hA h₁ h₂ (if_pos (cmp_room n₁ n₂ hk)) (marks_of rfl)
theorem c_ne {n k : Nat} {pos : Pos} (hA : OkA A n) (h₁ : Ev C A env Γ e₁ false d₁) (h₂ : Ev C A env Γ e₂ false d₂) (n₁ : DOk d₁ k) (n₂ : DOk d₂ 100) (hk : k ≤ 100) : Cd C A env Γ (.Compare e₁ [.NotEq] [e₂] pos) (!PyData.eqv d₁ d₂) :=
  cd_cmp hA h₁ h₂ (if_pos (cmp_room n₁ n₂ hk)) (marks_of rfl)
theorem c_eqS {n : Nat} {pos : Pos} {a b : Str} (hA : OkA A n) (h₁ : Ev C A env Γ e₁ false (.str a)) (h₂ : Ev C A env Γ e₂ false (.str b)) : Cd C A env Γ (.Compare e₁ [.Eq] [e₂] pos) (a == b) :=
  (c_eq hA h₁ h₂ (DOk.flat rfl) ((DOk.flat rfl).mono (by omega)) (by omega)).cast (eqv_str a b)
theorem c_neS {n : Nat} {pos : Pos} {a b : Str} (hA : OkA A n) (h₁ : Ev C A env Γ e₁ false (.str a)) (h₂ : Ev C A env Γ e₂ false (.str b)) : Cd C A env Γ (.Compare e₁ [.NotEq] [e₂] pos) (!(a == b)) :=
  (c_ne hA h₁ h₂ (DOk.flat rfl) ((DOk.flat rfl).mono (by omega)) (by omega)).cast (by rw [eqv_str])
theorem c_eqI {n : Nat} {pos : Pos} {a b : Int} (hA : OkA A n) (h₁ : Ev C A env Γ e₁ false (.int a)) (h₂ : Ev C A env Γ e₂ false (.int b)) : Cd C A env Γ (.Compare e₁ [.Eq] [e₂] pos) (a == b) :=
  (c_eq hA h₁ h₂ (DOk.flat rfl) ((DOk.flat rfl).mono (by omega)) (by omega)).cast (eqv_int a b)
theorem c_lt {n : Nat} {pos : Pos} {a b : Int} (hA : OkA A n) (h₁ : Ev C A env Γ e₁ false (.int a)) (h₂ : Ev C A env Γ e₂ false (.int b)) : Cd C A env Γ (.Compare e₁ [.Lt] [e₂] pos) (decide (a < b)) := cd_cmp hA h₁ h₂ rfl (marks_of rfl)
theorem c_gt {n : Nat} {pos : Pos} {a b : Int} (hA : OkA A n) (h₁ : Ev C A env Γ e₁ false (.int a)) (h₂ : Ev C A env Γ e₂ false (.int b)) : Cd C A env Γ (.Compare e₁ [.Gt] [e₂] pos) (decide (b < a)) := cd_cmp hA h₁ h₂ rfl (marks_of rfl)
theorem c_ge {n : Nat} {pos : Pos} {a b : Int} (hA : OkA A n) (h₁ : Ev C A env Γ e₁ false (.int a)) (h₂ : Ev C A env Γ e₂ false (.int b)) : Cd C A env Γ (.Compare e₁ [.GtE] [e₂] pos) (decide (b ≤ a)) := cd_cmp hA h₁ h₂ rfl (marks_of rfl)
noncomputable def hasSub (y x : Str) : Bool := !(Builtin.Str.occurrences x y 0 x.length 1).isEmpty
theorem c_inS {n : Nat} {pos : Pos} {a b : Str} (hA : OkA A n) (h₁ : Ev C A env Γ e₁ false (.str a)) (h₂ : Ev C A env Γ e₂ false (.str b)) (hm : behindInMarks .In e₂ = false) : Cd C A env Γ (.Compare e₁ [.In] [e₂] pos) (hasSub a b) := cd_cmp hA h₁ h₂ rfl hm
theorem e_mod {pos : Pos} {a b : Int} (h₁ : Ev C A env Γ e₁ false (.int a)) (h₂ : Ev C A env Γ e₂ false (.int b)) (hb : b ≠ 0) : Ev C A env Γ (.BinOp e₁ .Mod e₂ pos) μ (.int (a.fmod b)) := ev_mod h₁ h₂ hb
theorem e_neg {pos : Pos} {a : Int} (h : Ev C A env Γ e false (.int a)) : Ev C A env Γ (.UnaryOp .USub e pos) μ (.int (-a)) := ev_neg h
theorem e_addI {pos : Pos} {a b : Int} (h₁ : Ev C A env Γ e₁ false (.int a)) (h₂ : Ev C A env Γ e₂ false (.int b)) : Ev C A env Γ (.BinOp e₁ .Add e₂ pos) μ (.int (a + b)) := (ev_add h₁ h₂ rfl trivial).ofFlat rfl
theorem e_addS {pos : Pos} {a b : Str} (h₁ : Ev C A env Γ e₁ false (.str a)) (h₂ : Ev C A env Γ e₂ false (.str b)) (hz : a.length + b.length ≤ sizeLine) : Ev C A env Γ (.BinOp e₁ .Add e₂ pos) μ (.str (a ++ b)) := (ev_add h₁ h₂ rfl hz).ofFlat rfl
theorem e_addL {pos : Pos} {a b : List PyData} (h₁ : Ev C A env Γ e₁ μ (.list a)) (h₂ : Ev C A env Γ e₂ μ (.list b)) (hz : a.length + b.length ≤ sizeLine) : Ev C A env Γ (.BinOp e₁ .Add e₂ pos) μ (.list (a ++ b)) := ev_add h₁ h₂ rfl hz
theorem e_len {x : Str} {p pos : Pos} {n : Nat} (hb : Blt C env x (.builtin "len")) (h : Ev C A env Γ e false d) (hn : notStar e = true) (hd : lenD d = some n) (hz : n ≤ sizeLine) : Ev C A env Γ (.Call (.Name x p) [e] [] pos) μ (.int n) := ev_len hb h hn hd hz
theorem e_item {pos : Pos} {ds : List PyData} {k : Int} (h₁ : Ev C A env Γ e₁ μ d₁) (h₂ : Ev C A env Γ e₂ false (.int k)) (hd : itemsD d₁ = some ds) (h0 : 0 ≤ k) (hk : k < 2 ^ 63) (hx : ds[k.toNat]? = some d) : Ev C A env Γ (.Subscript e₁ e₂ pos) μ d := ev_item h₁ h₂ hd h0 hk hx
theorem e_split {ap cp : Pos} {x y : Str} (h₁ : Ev C A env Γ e₁ false (.str x)) (h₂ : Ev C A env Γ e₂ false (.str y)) (hb : attributeBase e₁ "split" env (eval e₁ env) = eval e₁ env) (hn : notStar e₂ = true) (hline : (ap.endLine == cp.line) = true) (hy : 1 ≤ y.length) (hz : x.length < sizeLine) :
    Ev C A env Γ (.Call (.Attribute e₁ "split" ap) [e₂] [] cp) μ (.list ((Txt.split x y).map .str)) := ev_split h₁ h₂ hb hn hline hy hz
theorem e_join {ap cp : Pos} {x : Str} {ts : List Str} (h₁ : Ev C A env Γ e₁ false (.str x)) (h₂ : Ev C A env Γ e₂ false (.list (ts.map .str))) (hb : attributeBase e₁ "join" env (eval e₁ env) = eval e₁ env) (hn : notStar e₂ = true) (hline : (ap.endLine == cp.line) = true)
    (hz : (ts.map (·.length)).sum + ts.length * x.length ≤ 16777216) : Ev C A env Γ (.Call (.Attribute e₁ "join" ap) [e₂] [] cp) μ (.str (Str.join x ts)) := ev_join h₁ h₂ hb hn hline hz
theorem e_starts {ap cp : Pos} {x y : Str} (h₁ : Ev C A env Γ e₁ false (.str x)) (h₂ : Ev C A env Γ e₂ false (.str y)) (hb : attributeBase e₁ "startswith" env (eval e₁ env) = eval e₁ env) (hn : notStar e₂ = true) (hline : (ap.endLine == cp.line) = true) :
    Ev C A env Γ (.Call (.Attribute e₁ "startswith" ap) [e₂] [] cp) μ (.bool (Txt.startswith x y)) := ev_starts h₁ h₂ hb hn hline
theorem c_bool {b : Bool} (h : Ev C A env Γ e false (.bool b)) (he : ∀ whole : Sem Value, isTrue e env whole = (do let v ← whole; standAt e.pos; holding [v] (truthy v))) : Cd C A env Γ e b := cd_bool h he
theorem c_is {op : CmpOp} {pos : Pos} {b : Bool} (h₁ : Ev C A env Γ e₁ false d₁) (h₂ : Ev C A env Γ e₂ false d₂) (hd : isD op d₁ d₂ = some b) (hm : behindInMarks op e₂ = false) : Cd C A env Γ (.Compare e₁ [op] [e₂] pos) b := cd_is h₁ h₂ hd hm
theorem s_range {x : Str} {p pos : Pos} {n : Nat} (hA : A.handled = none) (hb : Blt C env x (.type "range")) (h : Ev C A env Γ e false (.int n)) (hn : notStar e = true) (hz : n ≤ sizeLine) : Src C A env Γ (.Call (.Name x p) [e] [] pos) n (fun i => .int i) := src_range hA hb h hn hz
theorem o_none : EvO C A env Γ none none := trivial
theorem o_some {i : Int} (h : Ev C A env Γ e false (.int i)) : EvO C A env Γ (some e) (some i) := ⟨false, h⟩
end
end

section
set_option autoImplicit false
set_option linter.unusedVariables false
open PySem PyProof.Rows PySem.W

theorem flat_get {α : Type} (f : α → List PyData) (l : List α) : (List.range l.length).flatMap (fun i => (l[i]?).elim [] f) = l.flatMap f := by
  induction l with
  | nil => rfl
  | cons a l ih =>
    rw [List.length_cons, List.range_succ_eq_map, List.flatMap_cons, List.flatMap_map, List.flatMap_cons]
    congr 1
theorem flat_one {α : Type} (f : α → PyData) (l : List α) : l.flatMap (fun a => [f a]) = l.map f := by
  induction l with
  | nil => rfl
  | cons a l ih => simp [ih]
theorem flat_if {α : Type} (p : α → Bool) (f : α → PyData) (l : List α) : l.flatMap (fun a => if p a then [f a] else []) = (l.filter p).map f := by
  induction l with
  | nil => rfl
  | cons a l ih =>
    rw [List.flatMap_cons, ih, List.filter_cons]
    cases p a <;> simp
theorem getD_map {α : Type} (f : α → PyData) {l : List α} {i : Nat} (h : i < l.length) : (l.map f).getD i .none = f l[i] := by
  rw [List.getD_eq_getElem?_getD, List.getElem?_map, List.getElem?_eq_getElem h]; rfl
theorem all_take_succ {α : Type} (p : α → Bool) {l : List α} {i : Nat} (h : i < l.length) : (l.take (i + 1)).all p = ((l.take i).all p && p l[i]) := by
  rw [List.take_add_one, List.getElem?_eq_getElem h, List.all_append]; simp
theorem all_false_of {α : Type} (p : α → Bool) {l : List α} {i : Nat} (h : i < l.length) (hp : p l[i] = false) : l.all p = false := by
  rw [List.all_eq_false]
  exact ⟨l[i], List.getElem_mem h, by simp [hp]⟩

section
variable {C : Cx} {A : Around} {scope : Scope} {env : Env} {Γ Γc : Tab} {target elt : Expr} {ifs : List Expr} {gens : List Comprehension} {pos : Pos} {dep : Nat} {L : Addr} {s₀ : Shared} {Z₀ : Addr → Prop} {d d₁ d₂ : PyData} {out : List PyData} {μ : Bool}

theorem turn_name {y : Str} {p : Pos} (b : Bool) (hy : isLoc (compEnv scope env L) y = true) (hO : Owned (compEnv scope env L) s₀.heap y) (hn : Γc.lookup y = none) (hna : (y == (".acc" : Str)) = false)
    (hc : ∀ ds, Cds C A (compEnv scope env L) ((y, .fz d) :: (".acc", .own ds) :: Γc) ifs b) (hf : b = false → out = [])
    (ht : ∀ ds, b = true → Inn C A (compEnv scope env L) s₀ Z₀ elt gens scope pos dep ((y, .fz d) :: (".acc", .own ds) :: Γc) out) :
    Turn C A scope env Γc (.Name y p) ifs elt gens pos dep L s₀ Z₀ d out := fun ds E => by
  have hna' : (".acc" : Str) ≠ y := by intro q; rw [q] at hna; simp at hna
  refine ⟨_, b, as_name hy hO, ?_, fun x e hx l => ?_, hc ds, hf, ht ds⟩
  · rw [lookup_cons_ne hna', lookup_cons_eq]
  · have hxy : x ≠ y := by rintro rfl; rw [hn] at l; cases l
    rw [lookup_cons_ne hxy, lookup_cons_ne hx]; exact l

theorem turn_pair {y z : Str} {p q r : Pos} {k n : Nat} (b : Bool) (hA : OkA A n) (hy : isLoc (compEnv scope env L) y = true) (hz : isLoc (compEnv scope env L) z = true) (hOy : Owned (compEnv scope env L) s₀.heap y) (hOz : Owned (compEnv scope env L) s₀.heap z)
    (hn : Γc.lookup y = none) (hn' : Γc.lookup z = none) (hna : (y == (".acc" : Str)) = false) (hnz : (z == (".acc" : Str)) = false)
    (hc : ∀ ds, Cds C A (compEnv scope env L) ((z, .fz d₂) :: (y, .fz d₁) :: (".acc", .own ds) :: Γc) ifs b) (hf : b = false → out = [])
    (ht : ∀ ds, b = true → Inn C A (compEnv scope env L) s₀ Z₀ elt gens scope pos dep ((z, .fz d₂) :: (y, .fz d₁) :: (".acc", .own ds) :: Γc) out) :
    Turn C A scope env Γc (.Tuple [.Name y p, .Name z q] k r) ifs elt gens pos dep L s₀ Z₀ (.tuple [d₁, d₂]) out := fun ds E => by
  have hna' : (".acc" : Str) ≠ y := by intro q; rw [q] at hna; simp at hna
  have hnz' : (".acc" : Str) ≠ z := by intro q; rw [q] at hnz; simp at hnz
  refine ⟨_, b, as_tuple hA (asl_cons (as_name hy hOy) (asl_cons (as_name hz hOz) asl_nil rfl) rfl), ?_, fun x e hx l => ?_, hc ds, hf, ht ds⟩
  · rw [lookup_cons_ne hnz', lookup_cons_ne hna', lookup_cons_eq]
  · have hxy : x ≠ y := by rintro rfl; rw [hn] at l; cases l
    have hxz : x ≠ z := by rintro rfl; rw [hn'] at l; cases l
    rw [lookup_cons_ne hxz, lookup_cons_ne hxy, lookup_cons_ne hx]; exact l

theorem e_comp {α : Type} {iter : Expr} (l : List α) (dat : α → PyData) (f : α → List PyData) (D : CompDef scope env) (src : Src C A env Γ iter l.length (fun i => (l.map dat).getD i .none)) (hs : ∀ x, foldedSetIterable iter env x = pure x) (hsz : (l.flatMap f).length ≤ sizeLine)
    (turn : ∀ L s₀ Z₀ a, OwnC scope env L s₀ → a ∈ l → Turn C A scope env (capT scope.names Γ) target ifs elt (⟨target, iter, ifs, 0⟩ :: gens) pos 0 L s₀ Z₀ (dat a) (f a)) :
    Ev C A env Γ (.ListComp elt (⟨target, iter, ifs, 0⟩ :: gens) scope pos) μ (.list (l.flatMap f)) := by
  have := ev_comp (μ := μ) (elt := elt) (target := target) (ifs := ifs) (gens := gens) (pos := pos) D src hs (fun i => (l[i]?).elim [] f) (by rw [flat_get]; exact hsz) fun L s₀ Z₀ i own hi => by
    rw [getD_map dat hi, List.getElem?_eq_getElem hi]
    exact turn L s₀ Z₀ l[i] own (List.getElem_mem hi)
  rwa [flat_get] at this
end

noncomputable def Has (Γ Γe : Tab) : Prop := ∀ x e, Γe.lookup x = some e → Γ.lookup x = some e
theorem Has.refl (Γ : Tab) : Has Γ Γ := fun _ _ h => h
theorem Has.nil (Γ : Tab) : Has Γ [] := fun _ _ h => by cases h
theorem Has.add {Γ Γe : Tab} {x : Str} {e : Ent} (h : Γ.lookup x = some e) (hs : Has Γ Γe) : Has Γ ((x, e) :: Γe) := fun y e' l => by
  by_cases hy : y = x
  · subst hy; rw [lookup_cons_eq] at l; rw [h, l]
  · rw [lookup_cons_ne hy] at l; exact hs y e' l
theorem Has.cons {Γ Γe : Tab} {x : Str} {e : Ent} (hs : Has Γ Γe) : Has ((x, e) :: Γ) ((x, e) :: Γe) := fun y e' l => by
  by_cases hy : y = x
  · subst hy; rw [lookup_cons_eq] at l ⊢; exact l
  · rw [lookup_cons_ne hy] at l ⊢; exact hs y e' l
theorem ex_has {C : Cx} {A : Around} {env : Env} {s₀ : Shared} {Z₀ : Addr → Prop} {E : Value → Shared → Prop} {Γ Γe : Tab} {ss : List Stmt} {Post : Out → Prop} (hs : Has Γ Γe) (h : Ex C A env s₀ Z₀ E Γe ss Post) : Ex C A env s₀ Z₀ E Γ ss Post := ex_sub hs h

noncomputable def joinP (J : Tab → Prop) (Post : Out → Prop) : Out → Prop
  | .next Γ => J Γ
  | o => Post o
theorem ex_join {C : Cx} {A : Around} {env : Env} {s₀ : Shared} {Z₀ : Addr → Prop} {E : Value → Shared → Prop} {Γ : Tab} {st : Stmt} {rest : List Stmt} {Post : Out → Prop} (J : Tab → Prop) (h : Xs C A env s₀ Z₀ E Γ st (joinP J Post)) (hr : ∀ Γ', J Γ' → Ex C A env s₀ Z₀ E Γ' rest Post) :
    Ex C A env s₀ Z₀ E Γ (st :: rest) Post :=
  ex_cons fun H V s S => wpAny_mono (h H V s S) (fun fl s' ⟨sm, o, p, ok⟩ => ⟨sm, o, by cases o <;> first | exact hr _ p | exact p, ok⟩) fun _ _ x => x
end

section
set_option autoImplicit false
set_option linter.unusedVariables false
set_option maxRecDepth 100000
open PySem PyProof.Rows
section
variable {prog : Program} {w : World} {A : Around} {E : Value → Shared → Prop} {h : Heap} {g : Array GenState} {d : Drawn} {t : Nat} {os : OsState} {a : Addr} {o : Obj}
theorem lk_list_keys : typeLookup (.type "list") "keys" = pure none := by rw [typeLookup_type, builtinLookup_eq_fast]; kernel_rfl
theorem lk_list_getattr : typeLookup (.type "list") "__getattr__" = pure none := by rw [typeLookup_type, builtinLookup_eq_fast]; kernel_rfl
theorem keys_entry_list {vs : Array Value} {n : Nat} {tk : Tok} {Q : Fin → Shared → Prop} (hA : A.handled = none) (hx : h.get? a = some (listO vs n)) (hq : ∀ h' tk e, Heap.NewAttrErr h h' e (.ref a) "keys" → E (.ref e) ⟨h', g, d, tk, os⟩) :
    wpAny (model prog w) A (Builtin.«object.__getattribute__» ⟨[.ref a, .str "keys" tk], []⟩) Q E ⟨h, g, d, t, os⟩ := by
  have hT : (⟨h, g, d, t, os⟩ : Shared).TypeIs (.ref a) "list" := ⟨_, hx, rfl⟩
  have f4 := lk_list_keys
  repeat (any_goals (first | assumption | wp_step))
  exact wpAny_raiseAttrError (s := ⟨h, g, d, t, os⟩) hA hq (attrMsg_fits (by decide +kernel) (by decide +kernel))
theorem keys_by_list {vs : Array Value} {n : Nat} {tk : Tok} {Q : Value → Shared → Prop} (hA : A.handled = none) (hx : h.get? a = some (listO vs n)) (hq : ∀ h' tk e, Heap.NewAttrErr h h' e (.ref a) "keys" → E (.ref e) ⟨h', g, d, tk, os⟩) :
    wpAny (model prog w) A (getAttrBy (.ref a) (.str "keys" tk) false) Q E ⟨h, g, d, t, os⟩ := by
  have hT : (⟨h, g, d, t, os⟩ : Shared).TypeIs (.ref a) "list" := ⟨_, hx, rfl⟩
  have f1 := sub_AttributeError
  have f2 := F.slot_list_getattribute.lookup
  have f3 := F.slot_list_getattribute.bind (.ref a)
  have f5 := lk_list_getattr
  repeat (any_goals (first | assumption | wp_step))
  refine codeAny_call_builtin F.slot_list_getattribute.plain F.entry_list_ga (F.slot_list_getattribute.check _ _ _ _ _ _ _ _ (show (⟨h, g, d, t, os⟩ : Shared).TypeIs (.ref a) "list" from ⟨_, hx, rfl⟩) (F.args_list_getattribute_2 _ _) (keys_entry_list hA hx fun h' tk' e hn => ?_))
  obtain ⟨t', u', he⟩ := hn.there
  show wpAny _ _ (getattributeRaised _ _ _ _ _ _ _) _ _ _
  unfold getattributeRaised
  repeat (any_goals (first | assumption | wp_step))
  exact hq _ _ _ hn
theorem keys_attr_list {vs : Array Value} {n : Nat} {Q : Option Value → Shared → Prop} (hA : A.handled = none) (hx : h.get? a = some (listO vs n)) (hq : ∀ h' tk, (∀ b o, h.get? b = some o → h'.get? b = some o) → Q none ⟨h', g, d, tk, os⟩) :
    wpAny (model prog w) A (getAttr? (.ref a) "keys") Q E ⟨h, g, d, t, os⟩ := by
  have f1 := sub_AttributeError
  unfold getAttr? getAttrBy?
  repeat (any_goals (first | assumption | (with_reducible refine keys_by_list hA hx fun h' tk' e hn => ?_) | wp_step))
  obtain ⟨t', u', he⟩ := hn.there
  repeat (any_goals (first | assumption | wp_step))
  exact hq _ _ hn.keeps
end
end

section
set_option autoImplicit false
set_option linter.unusedVariables false
set_option maxRecDepth 100000
open PySem PyProof.Rows

theorem entry_upd_loop : entryFor table "dict.update.loop" = some Builtin.«dict.update.loop» := entryFor_of_tree (by kernel_rfl)
theorem plain_upd_loop : plainId "dict.update.loop" = true := by decide +kernel

noncomputable def storeAll (kvs : List (Str × Value)) : List (Str × Value) → List (Str × Value)
  | [] => kvs
  | (k, v) :: r => storeAll (stored kvs k v) r

section
variable {prog : Program} {w : World} {A : Around} {E : Value → Shared → Prop}

theorem stored_len (kvs : List (Str × Value)) (k : Str) (v : Value) : (stored kvs k v).length ≤ kvs.length + 1 := by
  unfold stored
  split <;> simp

theorem upd_loop {D I l : Addr} {vs : Array Value} {n : Nat} {R : Result → Shared → Prop} (hA : A.handled = none) (hDI : D ≠ I) (hlI : l ≠ I) (hDl : D ≠ l) : ∀ (ps : List (Str × Value)) (i : Nat) (kvs : List (Str × Value)) (s : Shared),
    i + ps.length = vs.size → s.heap.IsListIter I l i → s.heap.get? l = some (listO vs n) → s.heap.DictOf (strKind prog w) D kvs → kvs.length + ps.length ≤ sizeLine →
    (∀ j (hj : j < ps.length), ∃ a m t, vs[i + j]? = some (.ref a) ∧ a ≠ D ∧ a ≠ I ∧ s.heap.get? a = some (tupO #[.str ps[j].1 t, ps[j].2] m)) →
    (∀ h' tk, h'.DictOf (strKind prog w) D (storeAll kvs ps) → (∀ b o, b ≠ D → b ≠ I → s.heap.get? b = some o → h'.get? b = some o) → R (.ok (.ret .none)) { s with heap := h', toks := tk }) →
    codeAny (model prog w) A (.builtin "dict.update.loop" ⟨[.ref D, .ref I, rawInt i, .none], []⟩) R s := by
  intro ps
  induction ps with
  | nil =>
    intro i kvs s hn hit hl hd hsz hps hR
    refine codeAny_builtin entry_upd_loop ?_
    rw [Around.under_plainId plain_upd_loop _]
    show wpAny _ A.in1 (pyNext (.ref I) >>= _) _ _ s
    refine wpAny_bind (wpAny_pyNext_list_end (i := i) hA hit (⟨_, hl, rfl, _, rfl⟩ : s.heap.IsList l vs) (by simp at hn; simp [hn]) fun h' he => ?_)
    show wpAny _ _ (Builtin.Dict.addKeywords D [] >>= _) _ _ _
    refine wpAny_bind (wpAny_pure (wpAny_pure ?_))
    exact hR h' s.toks (hd.extBut he hDI) fun b o _ hb e => he b o hb e
  | cons p ps ih =>
    intro i kvs s hn hit hl hd hsz hps hR
    obtain ⟨a, m, t, h1, h2, h3, h4⟩ := hps 0 (by simp)
    refine codeAny_builtin entry_upd_loop ?_
    rw [Around.under_plainId plain_upd_loop _]
    show wpAny _ A.in1 (pyNext (.ref I) >>= _) _ _ s
    refine wpAny_bind (wpAny_pyNext_list_item (i := i) hit (⟨_, hl, rfl, _, rfl⟩ : s.heap.IsList l vs) (x := .ref a) h1 fun h' hit' sb => ?_)
    have h4' : h'.get? a = some (tupO #[.str p.1 t, p.2] m) := (sb.2 a h3).trans h4
    have hd' := hd.extBut sb.extBut hDI
    have hT : ({ s with heap := h' } : Shared).TypeIs (.ref a) "tuple" := ⟨_, h4', rfl⟩
    refine wpAny_bind (wpAny_holding ?_)
    refine wpAny_bind ?_
    refine wpAny_tryCatch ?_
    unfold Builtin.Dict.pairItems
    refine wpAny_bind (wpAny_typeOf hT ?_)
    rw [if_pos (by decide)]
    refine wpAny_bind (wpAny_seqItems h4' rfl (wpAny_pure ?_))
    show wpAny _ _ (holding _ (dictSet D (.str p.1 t) p.2)) _ _ _
    refine wpAny_holding (wpAny_dictSet_pairs (s := { s with heap := h' }) (k := p.1) (strKind_is prog w p.1 t) hd' (fun h'' hd'' sb'' => ?_) (by simp only [List.length_cons] at hsz; omega))
    refine wpAny_pure ⟨plainId_quiet plain_upd_loop _, ?_⟩
    have hlen := stored_len kvs p.1 p.2
    have e : rawInt ((i : Int) + 1) = rawInt ((i + 1 : Nat) : Int) := rfl
    rw [e]
    refine ih (i + 1) (stored kvs p.1 p.2) { s with heap := h'', toks := s.toks + 1 } (by simp only [List.length_cons] at hn; omega) ?_ ((sb''.2 l (Ne.symm hDl)).trans ((sb.2 l hlI).trans hl)) hd'' (by simp only [List.length_cons] at hsz; omega) (fun j hj => ?_) fun h₃ tk₃ hd₃ hk₃ => ?_
    · obtain ⟨o, ho, r⟩ := hit'
      exact ⟨o, (sb''.2 I (Ne.symm hDI)).trans ho, r⟩
    · obtain ⟨a', m', t', q1, q2, q3, q4⟩ := hps (j + 1) (by simp; omega)
      refine ⟨a', m', t', by rw [show i + 1 + j = i + (j + 1) by omega]; exact q1, q2, q3, ?_⟩
      have q4' := (sb''.2 a' q2).trans ((sb.2 a' q3).trans q4)
      simpa using q4'
    · exact hR h₃ tk₃ hd₃ fun b o hb1 hb2 e => hk₃ b o hb1 hb2 ((sb''.2 b hb1).trans ((sb.2 b hb2).trans e))

theorem call_dict_pairs {l : Addr} {vs : Array Value} {n : Nat} {s : Shared} {Q : Value → Shared → Prop} (hA : A.handled = none) (ps : List (Str × Value)) (hl : s.heap.get? l = some (listO vs n)) (hn : ps.length = vs.size) (hsz : ps.length ≤ sizeLine)
    (hps : ∀ j (hj : j < ps.length), ∃ a m t, vs[j]? = some (.ref a) ∧ s.heap.get? a = some (tupO #[.str ps[j].1 t, ps[j].2] m))
    (h : ∀ h' tk, h'.DictOf (strKind prog w) s.heap.objs.size (storeAll [] ps) → (∀ b o, s.heap.get? b = some o → h'.get? b = some o) → Q (.ref s.heap.objs.size) { s with heap := h', toks := tk }) :
    wpAny (model prog w) A (call (.type "dict") [.ref l]) Q E s := by
  refine callType_codes (Q₁ := fun obj s₁ => obj = .ref s.heap.objs.size ∧ s₁ = { s with heap := s.heap.push { cls := .type "dict", data := .dict #[] } }) F.kt_called_dict (F.kt_typeCall_dict_1 _) F.entry_dict_init (kt_code_dict_new _ ⟨rfl, rfl⟩) ?_
  rintro obj s₁ ⟨rfl, rfl⟩
  have hnew : (s.heap.push { cls := .type "dict", data := .dict #[] }).DictOf (strKind prog w) s.heap.objs.size [] := Heap.DictOf.new s.heap
  have hl' : (s.heap.push { cls := .type "dict", data := .dict #[] }).get? l = some (listO vs n) := Heap.get?_push_of_some _ hl
  refine ⟨hnew.typeIs, F.args_dict_init_2 _ _, ?_⟩
  unfold Builtin.«dict.__init__»
  refine wpAny_bind ?_
  unfold Builtin.Dict.selfAndRest
  refine wpAny_bind (wpAny_notOrdered_dict hnew.typeIs ?_)
  show wpAny _ _ (pure (s.heap.objs.size, [Value.ref l])) _ _ _
  refine wpAny_pure ?_
  show wpAny _ _ (Builtin.Dict.updateFrom "dict.__init__" s.heap.objs.size (.ref l) [] .none) _ _ _
  unfold Builtin.Dict.updateFrom
  have hT : ({ s with heap := s.heap.push { cls := .type "dict", data := .dict #[] } } : Shared).TypeIs (.ref l) "list" := ⟨_, hl', rfl⟩
  refine wpAny_bind (wpAny_typeOf hT ?_)
  rw [if_pos (by decide)]
  refine wpAny_bind (keys_attr_list hA hl' fun h₁ tk₁ k₁ => ?_)
  rw [if_pos (show (none : Option Value).isNone = true from rfl)]
  refine wpAny_bind (wpAny_rule (wpAny_bind ?_))
  have hl₁ := k₁ _ _ hl'
  refine wpAny_pyIter_list (⟨_, hl₁, rfl, _, rfl⟩ : h₁.IsList l vs) (wpAny_pure ?_)
  have k01 : ∀ b o, s.heap.get? b = some o → h₁.get? b = some o := fun b o e => k₁ b o (Heap.get?_push_of_some _ e)
  have hsz₁ : s.heap.objs.size < h₁.objs.size := by
    have h0 : (s.heap.push { cls := .type "dict", data := .dict #[] }).get? s.heap.objs.size = some { cls := .type "dict", data := .dict #[] } := Heap.get?_push_size _ rfl
    exact Heap.lt_size (k₁ _ _ h0)
  have hll : l < s.heap.objs.size := Heap.lt_size hl
  have hd₁ : h₁.DictOf (strKind prog w) s.heap.objs.size [] := hnew.keep k₁
  refine ⟨plainId_quiet plain_upd_loop _, upd_loop (prog := prog) (w := w) (A := A.in1) (i := 0) (I := h₁.objs.size) (l := l) (vs := vs) (n := n) hA (Nat.ne_of_lt hsz₁) (Nat.ne_of_lt (Nat.lt_trans hll hsz₁)) (Nat.ne_of_gt hll) ps [] _ (by simpa using hn) ?_ (Heap.get?_push_of_some _ hl₁) (hd₁.push _) (by simpa using hsz) (fun j hj => ?_) fun h₂ tk₂ hd₂ k₂ => ?_⟩
  · exact ⟨_, Heap.get?_push_size _ rfl, rfl, rfl⟩
  · obtain ⟨a, m, t, q1, q2⟩ := hps j hj
    have qa : a < s.heap.objs.size := Heap.lt_size q2
    exact ⟨a, m, t, by simpa using q1, Nat.ne_of_lt qa, Nat.ne_of_lt (Nat.lt_trans qa hsz₁), Heap.get?_push_of_some _ (k01 _ _ q2)⟩
  · refine ⟨rfl, h h₂ tk₂ hd₂ fun b o e => k₂ b o ?_ ?_ (Heap.get?_push_of_some _ (k01 b o e))⟩
    · exact Nat.ne_of_lt (Heap.lt_size e)
    · exact Nat.ne_of_lt (Nat.lt_trans (Heap.lt_size e) hsz₁)
end
end

section
set_option autoImplicit false
set_option linter.unusedVariables false
set_option maxRecDepth 100000
open PySem PyProof.Rows

noncomputable def dD (kds : List (Str × PyData)) : PyData := .dict (kds.map fun p => (.str p.1, p.2))
noncomputable def storedD (kds : List (Str × PyData)) (k : Str) (d : PyData) : List (Str × PyData) :=
  if kds.any (fun kv => kv.1 = k) then kds.map (fun kv => if kv.1 = k then (kv.1, d) else kv) else kds ++ [(k, d)]
noncomputable def storeAllD (kds : List (Str × PyData)) : List (Str × PyData) → List (Str × PyData)
  | [] => kds
  | (k, d) :: r => storeAllD (storedD kds k d) r

section
variable {prog : Program} {w : World} {Z : Addr → Prop} {h : Heap}
inductive Kv (prog : Program) (w : World) (Z : Addr → Prop) (h : Heap) : List (Str × Value) → List (Str × PyData) → Prop
  | nil : Kv prog w Z h [] []
  | cons {k : Str} {v : Value} {d : PyData} {r : List (Str × Value)} {rd : List (Str × PyData)} : Rd prog w Z h v d → Kv prog w Z h r rd → Kv prog w Z h ((k, v) :: r) ((k, d) :: rd)
theorem Kv.keys {kvs : List (Str × Value)} {kds : List (Str × PyData)} (x : Kv prog w Z h kvs kds) : kvs.map (·.1) = kds.map (·.1) := by
  induction x with
  | nil => rfl
  | cons _ _ ih => simp [ih]
theorem Kv.length {kvs : List (Str × Value)} {kds : List (Str × PyData)} (x : Kv prog w Z h kvs kds) : kvs.length = kds.length := by
  have := congrArg List.length x.keys; simpa using this
theorem Kv.append {kvs us : List (Str × Value)} {kds es : List (Str × PyData)} (x : Kv prog w Z h kvs kds) (y : Kv prog w Z h us es) : Kv prog w Z h (kvs ++ us) (kds ++ es) := by
  induction x with
  | nil => exact y
  | cons a _ ih => exact .cons a ih
theorem Kv.any {kvs : List (Str × Value)} {kds : List (Str × PyData)} (x : Kv prog w Z h kvs kds) (k : Str) : (kvs.any fun kv => kv.1 = k) = (kds.any fun kv => kv.1 = k) := by
  induction x with
  | nil => rfl
  | cons _ _ ih => simp [ih]
theorem Kv.put {kvs : List (Str × Value)} {kds : List (Str × PyData)} (x : Kv prog w Z h kvs kds) {k : Str} {v : Value} {d : PyData} (r : Rd prog w Z h v d) :
    Kv prog w Z h (kvs.map fun kv => if kv.1 = k then (kv.1, v) else kv) (kds.map fun kv => if kv.1 = k then (kv.1, d) else kv) := by
  induction x with
  | nil => exact .nil
  | @cons k' _ _ _ _ a _ ih =>
    simp only [List.map_cons]
    by_cases hk : k' = k
    · simp only [hk, if_true]; exact .cons r ih
    · simp only [hk, if_false]; exact .cons a ih
theorem Kv.stored {kvs : List (Str × Value)} {kds : List (Str × PyData)} (x : Kv prog w Z h kvs kds) {k : Str} {v : Value} {d : PyData} (r : Rd prog w Z h v d) : Kv prog w Z h (PySem.stored kvs k v) (storedD kds k d) := by
  unfold PySem.stored storedD
  rw [x.any k]
  split
  · exact x.put r
  · exact x.append (.cons r .nil)
theorem Kv.storeAll {ps : List (Str × Value)} {pd : List (Str × PyData)} (y : Kv prog w Z h ps pd) : ∀ {kvs : List (Str × Value)} {kds : List (Str × PyData)}, Kv prog w Z h kvs kds → Kv prog w Z h (storeAll kvs ps) (storeAllD kds pd) := by
  induction y with
  | nil => intro _ _ x; exact x
  | cons a _ ih => intro _ _ x; exact ih (x.stored a)
theorem Kv.at {kvs : List (Str × Value)} {kds : List (Str × PyData)} (x : Kv prog w Z h kvs kds) {k : Str} {d : PyData} (hl : kds.lookup k = some d) : ∃ v, valueAt kvs k = some v ∧ Rd prog w Z h v d := by
  induction x with
  | nil => cases hl
  | @cons k' v _ _ _ a _ ih =>
    rw [List.lookup_cons] at hl
    unfold valueAt
    rw [List.find?_cons]
    by_cases hk : k = k'
    · subst hk
      simp only [beq_self_eq_true] at hl
      cases hl
      exact ⟨v, by simp, a⟩
    · have hb : (k == k') = false := by simpa using hk
      rw [hb] at hl
      have hk' : ¬ k' = k := fun q => hk q.symm
      simp only [hk', decide_false]
      exact ih hl
theorem Kv.none {kvs : List (Str × Value)} {kds : List (Str × PyData)} (x : Kv prog w Z h kvs kds) {k : Str} (hl : kds.lookup k = none) : valueAt kvs k = none := by
  induction x with
  | nil => rfl
  | @cons k' v _ _ _ a _ ih =>
    rw [List.lookup_cons] at hl
    unfold valueAt
    rw [List.find?_cons]
    by_cases hk : k = k'
    · subst hk; simp at hl
    · have hb : (k == k') = false := by simpa using hk
      rw [hb] at hl
      have hk' : ¬ k' = k := fun q => hk q.symm
      simp only [hk', decide_false]
      exact ih hl
theorem kv_of {kvs : List (Str × Value)} {ds : List PyData} : Rds prog w Z h (kvs.map (·.2)) ds → ∃ kds : List (Str × PyData), Kv prog w Z h kvs kds ∧ zipKv kvs ds = kds.map fun p => (.str p.1, p.2) := by
  induction kvs generalizing ds with
  | nil => intro r; cases r; exact ⟨[], .nil, rfl⟩
  | cons p r ih =>
    obtain ⟨k, v⟩ := p
    intro x
    cases x with
    | cons a b =>
      obtain ⟨kds, y, e⟩ := ih b
      exact ⟨(k, _) :: kds, .cons a y, by simp only [zipKv, e, List.map_cons]⟩
theorem Kv.rds {kvs : List (Str × Value)} {kds : List (Str × PyData)} (x : Kv prog w Z h kvs kds) : Rds prog w Z h (kvs.map (·.2)) (kds.map (·.2)) ∧ zipKv kvs (kds.map (·.2)) = kds.map fun p => (.str p.1, p.2) := by
  induction x with
  | nil => exact ⟨.nil, rfl⟩
  | cons a _ ih => exact ⟨.cons a ih.1, by simp only [List.map_cons, zipKv, ih.2]⟩
theorem kds_inj : ∀ {a b : List (Str × PyData)}, (a.map fun p => (PyData.str p.1, p.2)) = (b.map fun p => (PyData.str p.1, p.2)) → a = b
  | [], [], _ => rfl
  | [], _ :: _, h => by simp at h
  | _ :: _, [], h => by simp at h
  | (k, d) :: a, (k', d') :: b, h => by
    simp only [List.map_cons, List.cons.injEq, Prod.mk.injEq, PyData.str.injEq] at h
    obtain ⟨⟨rfl, rfl⟩, h⟩ := h
    rw [kds_inj h]
theorem rd_dict_inv {v : Value} {kds : List (Str × PyData)} (r : Rd prog w Z h v (dD kds)) : ∃ a o kvs, v = .ref a ∧ h.get? a = some o ∧ ¬ Z a ∧ (a == sysModules) = false ∧ o.IsDictOf (strKind prog w) kvs ∧ Kv prog w Z h kvs kds := by
  unfold dD at r
  generalize hg : (kds.map fun p => (PyData.str p.1, p.2)) = kk at r
  cases r with
  | @dict a o kvs ds e z n k q =>
    obtain ⟨kds', y, e'⟩ := kv_of q
    rw [e'] at hg
    rw [kds_inj hg]
    exact ⟨a, o, kvs, rfl, e, z, n, k, y⟩
theorem rd_dict_mk {a : Addr} {o : Obj} {kvs : List (Str × Value)} {kds : List (Str × PyData)} (e : h.get? a = some o) (z : ¬ Z a) (n : (a == sysModules) = false) (k : o.IsDictOf (strKind prog w) kvs) (x : Kv prog w Z h kvs kds) : Rd prog w Z h (.ref a) (dD kds) := by
  obtain ⟨r, e'⟩ := x.rds
  have := Rd.dict e z n k r
  rwa [e'] at this
theorem Kv.keep {h' : Heap} {A : Around} (k : Ext A h h') {kvs : List (Str × Value)} {kds : List (Str × PyData)} (x : Kv prog w Z h kvs kds) : Kv prog w Z h' kvs kds := by
  induction x with
  | nil => exact .nil
  | cons a _ ih => exact .cons (a.keep k) ih
theorem rd_pairs {vs : List Value} {kds : List (Str × PyData)} (r : Rds prog w Z h vs (kds.map fun p => .tuple [.str p.1, p.2])) :
    ∃ ps : List (Str × Value), Kv prog w Z h ps kds ∧ ∀ j (hj : j < ps.length), ∃ a m t, vs[j]? = some (.ref a) ∧ h.get? a = some (tupO #[.str ps[j].1 t, ps[j].2] m) := by
  induction kds generalizing vs with
  | nil => exact ⟨[], .nil, fun j hj => by cases hj⟩
  | cons p kds ih =>
    obtain ⟨k, d⟩ := p
    cases r with
    | cons a b =>
      obtain ⟨ps, y, hp⟩ := ih b
      cases a with
      | @tuple ad us m _ e z q =>
        obtain ⟨us⟩ := us
        simp only at q
        cases q with
        | cons q1 q2 =>
          cases q2 with
          | cons q2 q3 =>
            cases q3
            cases q1 with
            | str _ t hs =>
              refine ⟨(k, _) :: ps, .cons q2 y, fun j hj => ?_⟩
              cases j with
              | zero => exact ⟨ad, m, t, rfl, e⟩
              | succ j => exact hp j (by simpa using hj)
end

section
variable {C : Cx} {A : Around} {env : Env} {Γ : Tab} {e e₁ e₂ : Expr} {μ : Bool} {d d₁ d₂ : PyData}

theorem In.big {m : Str → Option Value} {Z₀ Z : Addr → Prop} {h : Heap} (I : In C A env Z₀ Z Γ m h) : (h.objs.size == sysModules) = false := by
  obtain ⟨o, _, _, ho, _⟩ := I.base.g
  have : mainGlobals < h.objs.size := Heap.lt_size ho
  have h3 : mainGlobals = 3 := rfl
  have h1 : sysModules = 1 := rfl
  simp only [beq_eq_false_iff_ne]
  intro q
  rw [q, h3, h1] at this
  exact absurd this (by decide)
theorem e_dict {x : Str} {p pos : Pos} {kds : List (Str × PyData)} (hA : A.handled = none) (hb : Blt C env x (.type "dict")) (h : Ev C A env Γ e μ (.list (kds.map fun p => .tuple [.str p.1, p.2]))) (hn : notStar e = true) (hz : kds.length ≤ sizeLine) :
    Ev C A env Γ (.Call (.Name x p) [e] [] pos) μ (dD (storeAllD [] kds)) := fun E s m Z₀ Z I => by
  refine callTyp hb (by simp [hn]) (evs_cons h evs_nil hn) I fun vs s' kp I' r => ?_
  cases r with
  | cons r₁ r₂ =>
    cases r₂
    cases r₁ with
    | @list a us n _ he z q =>
      obtain ⟨ps, y, hp⟩ := rd_pairs q
      have hl := q.length
      simp only [Array.length_toList, List.length_map] at hl
      refine call_dict_pairs hA ps he (by rw [y.length, hl]) (by rw [y.length]; exact hz) (fun j hj => by
        obtain ⟨a, m, t, q1, q2⟩ := hp j hj
        exact ⟨a, m, t, by rw [← Array.getElem?_toList]; exact q1, q2⟩) fun h' tk hd hk => ?_
      obtain ⟨o, ho, hi⟩ := Heap.dictOf_iff.mp hd
      have ex : Ext A s'.heap h' := .of hk
      exact ⟨kp.trans ⟨⟨h', tk, rfl⟩, ex⟩, rd_dict_mk ho (I'.sel μ) I'.big hi ((y.storeAll .nil).keep ex)⟩
end
end

section
set_option autoImplicit false
set_option linter.unusedVariables false
set_option maxRecDepth 100000
open PySem PyProof.Rows PySem.W

section
variable {C : Cx} {A : Around} {env : Env} {Γ : Tab} {e e₁ e₂ : Expr} {μ : Bool} {d d₁ d₂ : PyData}

theorem e_keys {x : Str} {p pos : Pos} {kds : List (Str × PyData)} (hA : A.handled = none) (hb : Blt C env x (.type "list")) (h : Ev C A env Γ e false (dD kds)) (hn : notStar e = true) (hz : kds.length ≤ sizeLine) (hok : ∀ q ∈ kds, PyData.strOk q.1 = true) :
    Ev C A env Γ (.Call (.Name x p) [e] [] pos) μ (.list (kds.map fun q => .str q.1)) := fun E s m Z₀ Z I => by
  refine callTyp hb (by simp [hn]) (evs_cons h evs_nil hn) I fun vs s' kp I' r => ?_
  cases r with
  | cons r₁ r₂ =>
    cases r₂
    obtain ⟨a, o, kvs, rfl, he, z, ns, hd, y⟩ := rd_dict_inv r₁
    obtain ⟨es, ep, hx⟩ := id hd
    have hda : s'.heap.DictAt (strKind C.prog C.w) a kvs ep := ⟨o, es, he, hx⟩
    refine kdl_call (kdl_dict ns) hA hda (by rw [y.length]; exact hz) fun h' tk acc c hk hl hi => ?_
    have ex : Ext A s'.heap h' := .of hk
    refine ⟨kp.trans ⟨⟨h', tk, rfl⟩, ex⟩, .list (n := c) hl (I'.sel μ) ?_⟩
    have key : ∀ (vs : List Value) (kds : List (Str × PyData)), vs.length = kds.length → (∀ q ∈ kds, PyData.strOk q.1 = true) → (∀ (j : Nat) (v : Value), vs[j]? = some v → ∃ (q : Str × PyData) (t : Tok), kds[j]? = some q ∧ v = Value.str q.1 t) → Rds C.prog C.w (sel μ Z) h' vs (kds.map fun q => .str q.1) := by
      intro vs
      induction vs with
      | nil => intro kds hl _ _; cases kds with | nil => exact .nil | cons _ _ => cases hl
      | cons v vs ih =>
        intro kds hl ho hv
        cases kds with
        | nil => cases hl
        | cons q kds =>
          obtain ⟨q', t, e1, e2⟩ := hv 0 v rfl
          cases e1
          subst e2
          exact .cons (.str _ t (ho _ List.mem_cons_self)) (ih kds (by simpa using hl) (fun q hq => ho q (List.mem_cons_of_mem _ hq)) fun j v e => hv (j + 1) v e)
    refine key _ _ ?_ hok fun j v e => ?_
    · rw [Array.length_toList, hi.1, y.length]
    · obtain ⟨k, x, e1, e2⟩ := hi.2 j v (by rw [← Array.getElem?_toList]; exact e)
      obtain ⟨t, rfl⟩ := Value.isStrOf_shape e2
      have e3 : (kvs.map (·.1))[j]? = some k := by rw [List.getElem?_map, e1]; rfl
      rw [y.keys, List.getElem?_map] at e3
      cases hq : kds[j]? with
      | none => rw [hq] at e3; cases e3
      | some q => rw [hq] at e3; cases e3; exact ⟨q, t, rfl, rfl⟩

theorem rd_bools {Z : Addr → Prop} {h : Heap} {vs : List Value} {bs : List Bool} (r : Rds C.prog C.w Z h vs (bs.map .bool)) : vs = bs.map .bool := by
  induction bs generalizing vs with
  | nil => cases r; rfl
  | cons b bs ih => cases r with | cons a q => cases a; rw [ih q]; rfl
theorem range_any {bs : List Bool} : (List.range bs.length).any (fun i => bs.getD i false) = bs.any id := by
  induction bs with
  | nil => rfl
  | cons b bs ih => rw [List.length_cons, List.range_succ_eq_map, List.any_cons, List.any_map, List.any_cons]; congr 1
theorem range_all {bs : List Bool} : (List.range bs.length).all (fun i => bs.getD i false) = bs.all id := by
  induction bs with
  | nil => rfl
  | cons b bs ih => rw [List.length_cons, List.range_succ_eq_map, List.all_cons, List.all_map, List.all_cons]; congr 1
theorem truth_bools {bs : List Bool} {prog : Program} {w : World} {A : Around} : TruthOf prog w A (fun i v => ((bs.map Value.bool).toArray)[i]? = some v) (fun i => bs.getD i false) := fun i v s Q E hP hQ => by
  simp only [List.getElem?_toArray, List.getElem?_map] at hP
  cases hb : bs[i]? with
  | none => rw [hb] at hP; cases hP
  | some b =>
    rw [hb] at hP; cases hP
    have hQ' : Q (bs.getD i false) s := hQ
    rw [List.getD_eq_getElem?_getD, hb] at hQ'
    exact wpAny_truthy_bool hQ'
theorem e_any {x : Str} {p pos : Pos} {bs : List Bool} (hA : A.handled = none) (hb : Blt C env x (.builtin "any")) (h : Ev C A env Γ e false (.list (bs.map .bool))) (hn : notStar e = true) : Ev C A env Γ (.Call (.Name x p) [e] [] pos) μ (.bool (bs.any id)) := fun E s m Z₀ Z I => by
  refine callBlt hb (by simp [hn]) (evs_cons h evs_nil hn) I fun vs s' kp I' r => ?_
  cases r with
  | cons r₁ r₂ =>
    cases r₂
    cases r₁ with
    | @list a us n _ he z q =>
      have hus : us = (bs.map Value.bool).toArray := by rw [← rd_bools q]
      subst hus
      have hl : s'.heap.IsList a (bs.map Value.bool).toArray := ⟨_, he, rfl, _, rfl⟩
      refine call_any_walk (wpAny_pyIter_list hl ⟨_, _, _, _, _, _, _, rfl, Walks.list (A := A.in1) hA _ a (Nat.ne_of_lt (Heap.lt_size he)) _, ⟨⟨_, Heap.get?_push_size _ rfl, rfl, rfl⟩, ⟨_, Heap.get?_push_of_some _ he, rfl, _, rfl⟩⟩, truth_bools, fun h' tk hk => ?_⟩)
      have e1 : (bs.map Value.bool).toArray.size = bs.length := by simp
      rw [e1, range_any]
      exact ⟨kp.trans ⟨⟨h', tk, rfl⟩, .of fun b o e => hk b o (by simp; exact Nat.ne_of_lt (Heap.lt_size e)) (Heap.get?_push_of_some _ e)⟩, .bool _⟩
theorem e_all {x : Str} {p pos : Pos} {bs : List Bool} (hA : A.handled = none) (hb : Blt C env x (.builtin "all")) (h : Ev C A env Γ e false (.list (bs.map .bool))) (hn : notStar e = true) : Ev C A env Γ (.Call (.Name x p) [e] [] pos) μ (.bool (bs.all id)) := fun E s m Z₀ Z I => by
  refine callBlt hb (by simp [hn]) (evs_cons h evs_nil hn) I fun vs s' kp I' r => ?_
  cases r with
  | cons r₁ r₂ =>
    cases r₂
    cases r₁ with
    | @list a us n _ he z q =>
      have hus : us = (bs.map Value.bool).toArray := by rw [← rd_bools q]
      subst hus
      have hl : s'.heap.IsList a (bs.map Value.bool).toArray := ⟨_, he, rfl, _, rfl⟩
      refine call_all_walk (wpAny_pyIter_list hl ⟨_, _, _, _, _, _, _, rfl, Walks.list (A := A.in1) hA _ a (Nat.ne_of_lt (Heap.lt_size he)) _, ⟨⟨_, Heap.get?_push_size _ rfl, rfl, rfl⟩, ⟨_, Heap.get?_push_of_some _ he, rfl, _, rfl⟩⟩, truth_bools, fun h' tk hk => ?_⟩)
      have e1 : (bs.map Value.bool).toArray.size = bs.length := by simp
      rw [e1, range_all]
      exact ⟨kp.trans ⟨⟨h', tk, rfl⟩, .of fun b o e => hk b o (by simp; exact Nat.ne_of_lt (Heap.lt_size e)) (Heap.get?_push_of_some _ e)⟩, .bool _⟩
theorem e_copy {x : Str} {p pos : Pos} {ds : List PyData} (hb : Blt C env x (.type "list")) (h : Ev C A env Γ e μ d) (hd : itemsD d = some ds) (hn : notStar e = true) (hz : ds.length ≤ sizeLine) : Ev C A env Γ (.Call (.Name x p) [e] [] pos) μ (.list ds) := fun E s m Z₀ Z I => by
  refine callTyp hb (by simp [hn]) (evs_cons h evs_nil hn) I fun vs s' kp I' r => ?_
  cases r with
  | cons r₁ r₂ =>
    cases r₂
    rcases itemsD_spec hd with rfl | rfl
    · cases r₁ with
      | @list a us n _ he z q =>
        have hl := q.length
        simp only [Array.length_toList] at hl
        refine call_list_seq a (.inl rfl) he rfl rfl (fun h' c hk hg => ⟨kp.trans (Kp.of' (.of hk)), .list (n := c) hg (I'.sel μ) (q.keep (A := A) (.of hk))⟩) (by omega)
    · cases r₁ with
      | @tuple a us n _ he z q =>
        have hl := q.length
        simp only [Array.length_toList] at hl
        refine call_list_seq a (.inr rfl) he rfl rfl (fun h' c hk hg => ⟨kp.trans (Kp.of' (.of hk)), .list (n := c) hg (I'.sel μ) (q.keep (A := A) (.of hk))⟩) (by omega)
end
end

section
set_option autoImplicit false
set_option linter.unusedVariables false
set_option maxRecDepth 100000
open PySem PyProof.Rows PySem.W

section
variable {C : Cx} {A : Around} {env : Env} {Γ : Tab} {e e₁ e₂ : Expr} {μ : Bool} {d d₁ d₂ : PyData}

theorem strsAre_rds {Z : Addr → Prop} {h : Heap} {vs : List Value} {ss : List Str} (r : Rds C.prog C.w Z h vs (ss.map .str)) : StrsAre vs ss ∧ ∀ s ∈ ss, PyData.strOk s = true := by
  induction ss generalizing vs with
  | nil => cases r; exact ⟨.nil, fun s hs => by cases hs⟩
  | cons s ss ih =>
    cases r with
    | cons a q =>
      cases a with
      | str _ t ho =>
        obtain ⟨h1, h2⟩ := ih q
        exact ⟨.cons s t h1, fun x hx => by
          rcases List.mem_cons.mp hx with rfl | hx
          · exact ho
          · exact h2 x hx⟩
theorem rds_strsAre {Z : Addr → Prop} {h : Heap} {vs : List Value} {ss : List Str} (r : StrsAre vs ss) (ho : ∀ s ∈ ss, PyData.strOk s = true) : Rds C.prog C.w Z h vs (ss.map .str) := by
  induction r with
  | nil => exact .nil
  | cons y t _ ih => exact .cons (.str y t (ho y List.mem_cons_self)) (ih fun s hs => ho s (List.mem_cons_of_mem _ hs))

theorem e_sorted {x : Str} {p pos : Pos} {ss out : List Str} (hb : Blt C env x (.builtin "sorted")) (h : Ev C A env Γ e false (.list (ss.map .str))) (hn : notStar e = true) (h64 : ss.length < 64) (hu : ∀ ss' : List Str, ss'.Perm ss → sortedS ss' = true → ss' = out) :
    Ev C A env Γ (.Call (.Name x p) [e] [] pos) μ (.list (out.map .str)) := fun E s m Z₀ Z I => by
  refine callBlt hb (by simp [hn]) (evs_cons h evs_nil hn) I fun vs s' kp I' r => ?_
  cases r with
  | cons r₁ r₂ =>
    cases r₂
    cases r₁ with
    | @list a us n _ he z q =>
      obtain ⟨h1, h2⟩ := strsAre_rds q
      have hl := q.length
      simp only [Array.length_toList, List.length_map] at hl
      obtain ⟨us⟩ := us
      refine sorted_strs (vs := us) (⟨_, he, rfl, _, rfl⟩ : s'.heap.IsList a us.toArray) h1 (by simp only [List.size_toArray] at hl; omega) fun o ss' a1 a2 a3 => ?_
      have := hu ss' a2 a3
      subst this
      obtain ⟨c, hc⟩ := sortedAll_at s'.heap us o
      have ex : Ext A s'.heap (sortedAll s'.heap us o) := .of fun b x e => sortedAll_old e
      refine ⟨kp.trans (Kp.of' ex), .list (n := c) hc ?_ (rds_strsAre a1 fun s hs => h2 s (a2.mem_iff.mp hs))⟩
      intro q'
      cases μ with
      | true =>
        obtain ⟨x, e⟩ := I'.z.st _ q'
        exact absurd (Heap.lt_size e) (by show ¬ (s'.heap.objs.size + 1 < s'.heap.objs.size); omega)
      | false => exact q'

theorem dOk_strs (l : List Str) : DOk (.list (l.map .str)) 1 := DOk.list fun x hx => by
  obtain ⟨s, _, rfl⟩ := List.mem_map.mp hx
  exact DOk.flat rfl
theorem any_eqv_str (l : List Str) (s : Str) : ((l.map PyData.str).any fun y => PyData.eqv y (.str s)) = l.contains s := by
  induction l with
  | nil => rfl
  | cons a l ih =>
    rw [List.map_cons, List.any_cons, ih, eqv_str, List.contains_cons]
    congr 1
    rw [Bool.eq_iff_iff]; simp only [beq_iff_eq]; exact ⟨fun q => q.symm, fun q => q.symm⟩
theorem c_inL {n : Nat} {pos : Pos} {s : Str} {l : List Str} (hA : OkA A n) (h₁ : Ev C A env Γ e₁ false (.str s)) (h₂ : Ev C A env Γ e₂ false (.list (l.map .str))) (hm : behindInMarks .In e₂ = false) : Cd C A env Γ (.Compare e₁ [.In] [e₂] pos) (l.contains s) := by
  refine cd_cmp hA h₁ h₂ ?_ hm
  unfold cmpD
  have hd := dOk_strs l
  have h1 : noDict (.str s) = true := by simp [noDict]
  have h2 : (PyData.str s).depth = 0 := by simp [PyData.depth]
  show (if _ then some _ else none) = _
  rw [if_pos (by simp only [h1, hd.1, h2, Bool.true_and, decide_eq_true_eq]; omega), any_eqv_str]
theorem c_notInL {n : Nat} {pos : Pos} {s : Str} {l : List Str} (hA : OkA A n) (h₁ : Ev C A env Γ e₁ false (.str s)) (h₂ : Ev C A env Γ e₂ false (.list (l.map .str))) (hm : behindInMarks .NotIn e₂ = false) : Cd C A env Γ (.Compare e₁ [.NotIn] [e₂] pos) (!l.contains s) := by
  refine cd_cmp hA h₁ h₂ ?_ hm
  unfold cmpD
  have hd := dOk_strs l
  have h1 : noDict (.str s) = true := by simp [noDict]
  have h2 : (PyData.str s).depth = 0 := by simp [PyData.depth]
  show (if _ then some _ else none) = _
  rw [if_pos (by simp only [h1, hd.1, h2, Bool.true_and, decide_eq_true_eq]; omega), any_eqv_str]
end
end

section
set_option autoImplicit false
set_option linter.unusedVariables false
set_option maxRecDepth 100000
open PySem PyProof.Rows PySem.W

section
variable {C : Cx} {A : Around} {env : Env} {Γ : Tab} {μ : Bool} {E : Value → Shared → Prop} {scope : Scope} {Post : Out → Prop} {s₀ : Shared} {Z₀ : Addr → Prop}

theorem StW.drop {h₀ h h' : Heap} {H : List (Addr × Obj)} {V : List (Value × PyData)} {Z : Addr → Prop} {m : Str → Option Value} {L : Addr} (S : StW C A env h₀ Z₀ H V Γ h (fun a => Z a ∨ a = L) m) (nz : ¬ Z L) (h0 : h₀.get? L = none)
    (hl : env.locals ≠ L) (hc : ∀ x c, env.cells.lookup x = some c → c ≠ L) (ho : ∀ x ds, Γ.lookup x = some (.own ds) → m x ≠ some (.ref L)) (hf : ¬ isFrame A L) (sb : Heap.SameBut L h h') : StW C A env h₀ Z₀ H V Γ h' Z m := by
  have kz : ∀ b o, ¬ (Z b ∨ b = L) → h.get? b = some o → h'.get? b = some o := fun b o n e => (sb.2 b fun q => n (.inr q)).trans e
  have hre : ∀ a o, h'.get? a = some o → Z a → (Z a ∨ a = L) := fun a o _ q => .inl q
  have keep' : Ext A h₀ h' := S.keep.mutOf h0 fun b o hb e => (sb.2 b hb).trans e
  have fr' : FrOk A h' := by
    obtain ⟨l, hl', hx⟩ := S.i.fr
    refine ⟨l, hl', fun e he => ?_⟩
    obtain ⟨h1, F, o, h2, h3, h4⟩ := hx e he
    have : F ≠ L := fun q => hf ⟨l, hl', e, he, by rw [h2, q]⟩
    exact ⟨h1, F, o, h2, (sb.2 F this).trans h3, h4⟩
  have zin : ∀ a, (Z a ∨ a = L) → a ≠ L → Z a := fun a q n => q.elim id fun q => absurd q n
  refine ⟨⟨S.i.fn, ⟨?_, fun x c e => (S.i.vars.cel x c e).sameBut sb (hc x c e), S.i.vars.hid⟩, fun x e l => ?_, S.b0.keep keep', ⟨fun a z => ?_, fun a z => S.i.z.k a (.inl z)⟩, fr', fun x c e => zin c (S.zc x c e) (hc x c e), S.cd⟩, S.b0, keep', fun a z => ⟨?_, (S.z0 a z).2⟩, zin _ S.zl hl, S.nl, fun x c e => zin c (S.zc x c e) (hc x c e), S.cd, fun p hp => ?_, fun p hp => ((S.vs p hp).keepZ kz).reZ hre, S.ow⟩
  · obtain ⟨ml, hn, hm⟩ := S.i.vars.loc
    exact ⟨ml, hn.sameBut sb hl, hm⟩
  · have := S.i.ents x e l
    cases hv : m x with
    | none => rw [hv] at this; exact this
    | some v =>
      rw [hv] at this
      cases e with
      | fz d => exact (Rd.keepZ kz this).reZ hre
      | bor d =>
        have h0' : ¬ Z₀ L := fun q => by obtain ⟨_, o, e⟩ := S.z0 L q; rw [h0] at e; cases e
        exact (Rd.keepZ (fun b o n e => (sb.2 b fun q => n ⟨.inr q, q ▸ h0'⟩).trans e) this).reZ fun a o _ q => ⟨.inl q.1, q.2⟩
      | own ds =>
        obtain ⟨a, vs, n, rfl, e, z, r⟩ := this
        have hne : a ≠ L := fun q => ho x ds l (by rw [hv, q])
        exact ⟨a, vs, n, rfl, (sb.2 a hne).trans e, zin a z hne, (r.keepZ kz).reZ hre⟩
      | any => trivial
  · have hne : a ≠ L := fun q => nz (q ▸ z)
    obtain ⟨o, e⟩ := S.i.z.st a (.inl z)
    exact ⟨o, (sb.2 a hne).trans e⟩
  · have hne : a ≠ L := fun q => by obtain ⟨_, o, e⟩ := S.z0 a z; rw [q, h0] at e; cases e
    exact zin a (S.z0 a z).1 hne
  · obtain ⟨e, n, c⟩ := S.hs p hp
    exact ⟨(sb.2 p.1 fun q => n (.inr q)).trans e, fun q => n (.inl q), c⟩

theorem xs_compUse {x : Str} {xp pos : Pos} {elt target iter : Expr} {ifs : List Expr} {gens : List Comprehension} {cp : Pos} {n : Nat} {dat : Nat → PyData} (hs : swapsWith (.ListComp elt (⟨target, iter, ifs, 0⟩ :: gens) scope cp) (some (.Name x xp)) pos.line env = pure true)
    (hx : isLoc env x = true) (hO : Owned env s₀.heap x) (D : CompDef scope env) (src : Src C A env Γ iter n dat) (hsi : ∀ x, foldedSetIterable iter env x = pure x) (outs : Nat → List PyData) (hsz : ((List.range n).flatMap outs).length ≤ sizeLine)
    (turn : ∀ L s₀ Z₀ i, OwnC scope env L s₀ → i < n → Turn C A scope env (capT scope.names Γ) target ifs elt (⟨target, iter, ifs, 0⟩ :: gens) cp 0 L s₀ Z₀ (dat i) (outs i))
    (hp : Post (.next ((x, .fz (.list ((List.range n).flatMap outs))) :: Γ))) : Xs C A env s₀ Z₀ E Γ (.Assign [.Name x xp] (.ListComp elt (⟨target, iter, ifs, 0⟩ :: gens) scope cp) pos) Post := fun H V s ⟨ss, Z, m, S⟩ => by
  rw [exec_Assign_Name_used _ _ _ _ hs]
  refine wpAny_bind (wpAny_standAt (wpAny_bind ?_))
  show wpAny C.M A (comprehension _ scope env _ (newList []) false (eval iter env) (some (assign (.Name x xp) env)) >>= fun _ => pure ()) _ _ _
  refine wpAny_bind (comp_run (use := some (assign (.Name x xp) env)) D src hsi outs hsz turn S.i fun acc L s' vs j ml sm ex na nl hne hn ha r => ?_)
  obtain ⟨oL, esL, epL, hoL, hdL, hLr⟩ := id hn
  have S₁ := S.growE ex nl hoL
  have nzL : ¬ Z L := fun q => by obtain ⟨o, e⟩ := S.i.z.st L q; rw [nl] at e; cases e
  have nza : ¬ (Z acc ∨ acc = L) := fun q => q.elim (fun q => by obtain ⟨o, e⟩ := S.i.z.st acc q; rw [na] at e; cases e) hne
  have rd : Rd C.prog C.w (fun a => Z a ∨ a = L) s'.heap (.ref acc) (.list ((List.range n).flatMap outs)) := .list ha nza (r.reZ fun a o _ q => q.elim .inl fun q => .inr (.inl q))
  have hlL : env.locals ≠ L := fun q => by
    obtain ⟨ml', hn', _⟩ := S.i.vars.loc
    obtain ⟨o, _, _, ho, _⟩ := hn'
    rw [q, nl] at ho; cases ho
  have hcL : ∀ y c, env.cells.lookup y = some c → c ≠ L := fun y c e q => by
    obtain ⟨o, ho, _⟩ := S.i.vars.cel y c e
    rw [q, nl] at ho; cases ho
  have hfL : ¬ isFrame A L := fun q => by
    obtain ⟨o, ho, _⟩ := S.i.fr.noFields q
    rw [nl] at ho; cases ho
  have h0L : s₀.heap.get? L = none := by
    cases q : s₀.heap.get? L with
    | none => rfl
    | some o => obtain ⟨o', e, _⟩ := S.keep.stays q; rw [nl] at e; cases e
  show wpAny C.M A (assign (.Name x xp) env (.ref acc)) _ _ _
  refine wpAny_assign_Name (S₁.storeK (s := s') (en := .fz (.list ((List.range n).flatMap outs))) hx hO (fun h' hk => Rd.keepZ (fun b o nz e => hk b o (.inl nz) e) rd) (fun ds q => by cases q) fun h' tk hk' S₂ => ?_)
  refine ⟨ml, ⟨oL, esL, epL, hk' L oL (Ne.symm hlL) (fun c e => Ne.symm (hcL x c e)) hoL, hdL, hLr⟩, fun h'' sb => ?_⟩
  have S₃ := S₂.drop nzL h0L hlL hcL (fun y ds l e => by
    by_cases hy : y = x
    · subst hy; rw [lookup_cons_eq] at l; cases l
    · rw [lookup_cons_ne hy] at l
      simp only [upd, if_neg hy] at e
      have := S.i.ents y _ l
      rw [e] at this
      obtain ⟨b, us, k, e1, e2, _⟩ := this
      cases e1; rw [nl] at e2; cases e2) hfL sb
  exact wpAny_pure (wpAny_pure ⟨sm.trans (Same.trans ⟨h', tk, rfl⟩ ⟨h'', tk, rfl⟩), _, hp, ss.trans (sm.trans (Same.trans ⟨h', tk, rfl⟩ ⟨h'', tk, rfl⟩)), Z, _, S₃⟩)

theorem xs_compL {α : Type} {x : Str} {xp pos : Pos} {elt target iter : Expr} {ifs : List Expr} {gens : List Comprehension} {cp : Pos} (l : List α) (dat : α → PyData) (f : α → List PyData) (hs : swapsWith (.ListComp elt (⟨target, iter, ifs, 0⟩ :: gens) scope cp) (some (.Name x xp)) pos.line env = pure true)
    (hx : isLoc env x = true) (hO : Owned env s₀.heap x) (D : CompDef scope env) (src : Src C A env Γ iter l.length (fun i => (l.map dat).getD i .none)) (hsi : ∀ x, foldedSetIterable iter env x = pure x) (hsz : (l.flatMap f).length ≤ sizeLine)
    (turn : ∀ L s₀ Z₀ a, OwnC scope env L s₀ → a ∈ l → Turn C A scope env (capT scope.names Γ) target ifs elt (⟨target, iter, ifs, 0⟩ :: gens) cp 0 L s₀ Z₀ (dat a) (f a))
    (hp : Post (.next ((x, .fz (.list (l.flatMap f))) :: Γ))) : Xs C A env s₀ Z₀ E Γ (.Assign [.Name x xp] (.ListComp elt (⟨target, iter, ifs, 0⟩ :: gens) scope cp) pos) Post :=
  xs_compUse hs hx hO D src hsi (fun i => (l[i]?).elim [] f) (by rw [flat_get]; exact hsz) (fun L s₀ Z₀ i own hi => by
    rw [getD_map dat hi, List.getElem?_eq_getElem hi]
    exact turn L s₀ Z₀ l[i] own (List.getElem_mem hi)) (by rw [flat_get]; exact hp)
end
end

section
set_option autoImplicit false
set_option linter.unusedVariables false
set_option maxRecDepth 100000
open PySem PyProof.Rows PySem.W

section
variable {C : Cx} {A : Around} {env : Env} {Γ Γ₁ : Tab} {e e₁ e₂ : Expr} {μ : Bool} {d d₁ d₂ : PyData} {s₀ : Shared} {Z₀ : Addr → Prop} {E : Value → Shared → Prop} {Post : Out → Prop}

theorem xs_newL {x : Str} {p q pos : Pos} {es : List Expr} {ds : List PyData} (h : Evs C A env Γ es true ds) (hz : ds.length ≤ sizeLine) (hx : isLoc env x = true) (hO : Owned env s₀.heap x) (hs : swapsWith (.List es q) (some (.Name x p)) pos.line env = pure false) (hp : Post (.next ((x, .own ds) :: Γ))) :
    Xs C A env s₀ Z₀ E Γ (.Assign [.Name x p] (.List es q) pos) Post := fun H V s ⟨ss, Z, m, S⟩ => by
  refine wpAny_Assign_Name (List_ (h.go S.i fun vs s₁ kp I₁ r => wpAny_newList ?_ (by rw [r.length]; exact hz))) hs
  have S₁ := S.ext kp.ext
  have hnone : s₁.heap.get? s₁.heap.objs.size = none := Heap.get?_none_of_le (Nat.le_refl _)
  have hno : s₀.heap.get? s₁.heap.objs.size = none := by
    cases e : s₀.heap.get? s₁.heap.objs.size with
    | none => rfl
    | some o => obtain ⟨o', q, _⟩ := S₁.keep.stays e; rw [hnone] at q; cases q
  have S' := S₁.grow (listO vs.toArray 0) rfl
  have r' : Rds C.prog C.w (fun b => Z b ∨ b = s₁.heap.objs.size) (s₁.heap.push (listO vs.toArray 0)) vs ds := by
    refine (Rds.reZ (fun a o e q => ?_) r).push _
    rcases q with q | q
    · exact q
    · rw [q, hnone] at e; cases e
  refine S'.store (s := { s₁ with heap := s₁.heap.push (listO vs.toArray 0) }) (en := .own ds) hx hO (fun h' hk => ⟨s₁.heap.objs.size, vs.toArray, 0, rfl, hk _ _ (.inr ⟨_, _, rfl⟩) (Heap.get?_push_size _ rfl), .inr rfl, ?_⟩) (fun ds q b hb => ?_) fun h' tk S'' => ⟨kp.toSame.trans ⟨h', tk, rfl⟩, _, hp, ss.trans (kp.toSame.trans ⟨h', tk, rfl⟩), _, _, S''⟩
  · exact r'.keepZ fun b o nz e => hk b o (.inl nz) e
  · cases hb
    refine ⟨hno, fun y es hy l e => ?_⟩
    have := S₁.i.ents y _ l
    rw [e] at this
    obtain ⟨a, vs, n, e1, e2, _⟩ := this
    cases e1; rw [hnone] at e2; cases e2

noncomputable def EvN (C : Cx) (A : Around) (env : Env) (Γ : Tab) (e : Expr) (ds : List PyData) : Prop :=
  ∀ E s m Z₀ Z, In C A env Z₀ Z Γ m s.heap → wpAny C.M A (eval e env) (fun v s' => Kp A s s' ∧ ∃ a vs n, v = .ref a ∧ s.heap.get? a = none ∧ s'.heap.get? a = some (listO vs n) ∧ Rds C.prog C.w (fun b => Z b ∨ b = a) s'.heap vs.toList ds) E s
theorem xs_assignN {x : Str} {p pos : Pos} {ds : List PyData} (h : EvN C A env Γ e ds) (hx : isLoc env x = true) (hO : Owned env s₀.heap x) (hs : swapsWith e (some (.Name x p)) pos.line env = pure false) (hp : Post (.next ((x, .own ds) :: Γ))) :
    Xs C A env s₀ Z₀ E Γ (.Assign [.Name x p] e pos) Post := fun H V s ⟨ss, Z, m, S⟩ => by
  refine wpAny_Assign_Name (wpAny_mono (h E s m Z₀ Z S.i) (fun v s' ⟨kp, a, vs, n, hv, na, ha, r⟩ => ?_) fun _ _ x => x) hs
  subst hv
  have S' := S.growE kp.ext na ha
  have hno : s₀.heap.get? a = none := by
    cases e : s₀.heap.get? a with
    | none => rfl
    | some o => obtain ⟨o', q, _⟩ := S.keep.stays e; rw [na] at q; cases q
  refine S'.store (s := s') (en := .own ds) hx hO (fun h' hk => ⟨a, vs, n, rfl, hk _ _ (.inr ⟨_, _, rfl⟩) ha, .inr rfl, r.keepZ fun b o nz e => hk b o (.inl nz) e⟩) (fun ds q b hb => ?_) fun h' tk S'' => ⟨kp.toSame.trans ⟨h', tk, rfl⟩, _, hp, ss.trans (kp.toSame.trans ⟨h', tk, rfl⟩), _, _, S''⟩
  cases hb
  refine ⟨hno, fun y es hy l e => ?_⟩
  have := S.i.ents y _ l
  rw [e] at this
  obtain ⟨b, us, k, e1, e2, _⟩ := this
  cases e1; rw [na] at e2; cases e2
theorem xs_returnN {pos : Pos} {ds : List PyData} (h : EvN C A env Γ e ds) (hp : Post (.own ds)) : Xs C A env s₀ Z₀ E Γ (.Return (some e) pos) Post := fun H V s ⟨ss, Z, m, S⟩ => by
  refine wpAny_Return_some (wpAny_mono (h E s m Z₀ Z S.i) (fun v s' ⟨kp, a, vs, n, hv, na, ha, r⟩ => ?_) fun _ _ x => x)
  subst hv
  refine ⟨kp.toSame, _, hp, S.keep.trans kp.ext, a, vs, n, rfl, ?_, ha, r.reZ fun b o _ q => ?_⟩
  · cases e : s₀.heap.get? a with
    | none => rfl
    | some o => obtain ⟨o', q, _⟩ := S.keep.stays e; rw [na] at q; cases q
  · rcases q with q | q
    · exact .inl (S.z0 b q).1
    · exact .inr q

noncomputable def FnNew (C : Cx) (k : Nat) (f : Addr) (ds : List PyData) (out : List PyData) : Prop :=
  ∀ A E s Z vs, OkA A k → FrOk A s.heap → Base C s.heap → Zok C Z s.heap → Rds C.prog C.w Z s.heap vs ds →
    wpAny C.M A (call (.ref f) vs []) (fun v s' => Kp A s s' ∧ ∃ a us n, v = .ref a ∧ s.heap.get? a = none ∧ s'.heap.get? a = some (listO us n) ∧ Rds C.prog C.w (fun b => Z b ∨ b = a) s'.heap us.toList out) E s
theorem FnNew.ok {k : Nat} {f : Addr} {ds out : List PyData} (h : FnNew C k f ds out) : FnOk C k f ds (.list out) := fun A E s Z vs hA hf B hz r =>
  wpAny_mono (h A E s Z vs hA hf B hz r) (fun v s' ⟨kp, a, us, n, hv, na, ha, q⟩ => ⟨kp, by
    subst hv
    exact .list ha (fun z => by obtain ⟨o, e⟩ := hz.st a z; rw [na] at e; cases e) (q.reZ fun b o _ z => .inl z)⟩) fun _ _ x => x
theorem fnNew_intro {k : Nat} {f : Addr} {fd : FuncData} {ps : List Str} {body : List Stmt} {ds out : List PyData} (D : FnDef C f fd ps body) (hlen : ds.length = ps.length)
    (hb : ∀ A L s₀ Z₀ E, OkA A k → (∀ x, Owned (callEnvC fd L f) s₀.heap x) → (∃ outer, A.frames = some (callEnvC fd L f :: outer)) → Ex C A (callEnvC fd L f) s₀ Z₀ E (ps.zip (ds.map .fz)) body (fun o => o = .own out)) : FnNew C (k + 1) f ds out := fun A E s Z vs hA hfr B hz r => by
  refine wpAny_call (fn_run D hlen hA hfr B hz r fun s₁ hO S => ?_)
  have hf : ∃ outer, (A.deeper (callEnvC fd s.heap.objs.size f)).frames = some (callEnvC fd s.heap.objs.size f :: outer) := by
    obtain ⟨l, hl, _⟩ := hfr
    exact ⟨l, by show A.frames.map _ = _; rw [hl]; rfl⟩
  refine wpAny_mono (hb (A.deeper (callEnvC fd s.heap.objs.size f)) s.heap.objs.size s Z _ (hA.deeper _) hO hf [] [] s₁ S) (fun fl s' ⟨sm, ou, hp, ok⟩ => ?_) fun _ _ x => x
  subst hp
  cases fl with
  | ret v =>
    obtain ⟨ex, rd⟩ := ok
    obtain ⟨h', tk', rfl⟩ := S.1.trans sm
    exact ⟨⟨⟨h', tk', rfl⟩, ex.undeeper fun L hL => by cases hL; exact Heap.get?_none_of_le (Nat.le_refl _)⟩, rd⟩
  | _ => exact ok.elim
theorem evn_call {k : Nat} {x : Str} {f : Addr} {o : Obj} {fd : FuncData} {a : Expr} {es : List Expr} {ds out : List PyData} {p pos : Pos} (hA : OkA A k) (hx : isGlob env x = true) (hm : C.mg x = some (.ref f)) (ho : C.K.lookup f = some o) (hf : o.data = .func fd)
    (ha : Evs C A env Γ (a :: es) true ds) (hn : notStar a = true) (hfn : FnNew C k f ds out) : EvN C A env Γ (.Call (.Name x p) (a :: es) [] pos) out := fun E s m Z₀ Z I =>
  Call_Name rfl (loadGlob I hx hm (Calls.callWith_function (ha.args hn I fun vs s' kp I' r => ⟨⟨I'.base.k _ _ ho, hf⟩, by
    rw [List.nil_append]
    exact wpAny_mono (hfn A E s' Z vs hA I'.fr I'.base I'.z r) (fun v s'' ⟨kp', a, us, n, hv, na, h1, h2⟩ => ⟨kp.trans kp', a, us, n, hv, (by
      cases e : s.heap.get? a with
      | none => rfl
      | some o => obtain ⟨o', q, _⟩ := kp.ext.stays e; rw [na] at q; cases q), h1, h2⟩) fun _ _ x => x⟩)))
theorem evn_sorted {x : Str} {p pos : Pos} {ss out : List Str} (hb : Blt C env x (.builtin "sorted")) (h : Ev C A env Γ e false (.list (ss.map .str))) (hn : notStar e = true) (h64 : ss.length < 64) (hu : ∀ ss' : List Str, ss'.Perm ss → sortedS ss' = true → ss' = out) :
    EvN C A env Γ (.Call (.Name x p) [e] [] pos) (out.map .str) := fun E s m Z₀ Z I => by
  refine callBlt hb (by simp [hn]) (evs_cons h evs_nil hn) I fun vs s' kp I' r => ?_
  cases r with
  | cons r₁ r₂ =>
    cases r₂
    cases r₁ with
    | @list a us n _ he z q =>
      obtain ⟨h1, h2⟩ := strsAre_rds q
      have hl := q.length
      simp only [Array.length_toList, List.length_map] at hl
      obtain ⟨us⟩ := us
      refine sorted_strs (vs := us) (⟨_, he, rfl, _, rfl⟩ : s'.heap.IsList a us.toArray) h1 (by simp only [List.size_toArray] at hl; omega) fun o ss' a1 a2 a3 => ?_
      have := hu ss' a2 a3
      subst this
      obtain ⟨c, hc⟩ := sortedAll_at s'.heap us o
      have ex : Ext A s'.heap (sortedAll s'.heap us o) := .of fun b x e => sortedAll_old e
      refine ⟨kp.trans (Kp.of' ex), s'.heap.objs.size + 1, o, c, rfl, ?_, hc, rds_strsAre a1 fun s hs => h2 s (a2.mem_iff.mp hs)⟩
      cases e : s.heap.get? (s'.heap.objs.size + 1) with
      | none => rfl
      | some x => obtain ⟨x', q', _⟩ := kp.ext.stays e; exact absurd (Heap.lt_size q') (by show ¬ (s'.heap.objs.size + 1 < s'.heap.objs.size); omega)

theorem ev_or {rest : List Expr} {pos : Pos} {a b : Bool} (h₁ : Ev C A env Γ e₁ false (.bool a)) (h₂ : a = false → Ev C A env Γ (.BoolOp .Or (e₂ :: rest) pos) false (.bool b)) : Ev C A env Γ (.BoolOp .Or (e₁ :: e₂ :: rest) pos) μ (.bool (a || b)) := fun E s m Z₀ Z I =>
  BoolOp_or (h₁.go I fun v s' kp I' r => by
    cases r
    refine wpAny_truthy_bool ?_
    cases a with
    | true => exact ⟨kp, .bool _⟩
    | false => exact (h₂ rfl).go I' fun v s'' kp' _ r' => ⟨kp.trans kp', by cases r'; exact .bool _⟩)
theorem ev_and {rest : List Expr} {pos : Pos} {a b : Bool} (h₁ : Ev C A env Γ e₁ false (.bool a)) (h₂ : a = true → Ev C A env Γ (.BoolOp .And (e₂ :: rest) pos) false (.bool b)) : Ev C A env Γ (.BoolOp .And (e₁ :: e₂ :: rest) pos) μ (.bool (a && b)) := fun E s m Z₀ Z I =>
  BoolOp_and (h₁.go I fun v s' kp I' r => by
    cases r
    refine wpAny_truthy_bool ?_
    cases a with
    | false => exact ⟨kp, .bool _⟩
    | true => exact (h₂ rfl).go I' fun v s'' kp' _ r' => ⟨kp.trans kp', by cases r'; exact .bool _⟩)
theorem ev_op1 {op : BoolOp} {pos : Pos} (h : Ev C A env Γ e μ d) : Ev C A env Γ (.BoolOp op [e] pos) μ d := fun E s m Z₀ Z I => BoolOp_one (h E s m Z₀ Z I)
theorem e_inL {n : Nat} {pos : Pos} {s : Str} {l : List Str} (hA : OkA A n) (h₁ : Ev C A env Γ e₁ false (.str s)) (h₂ : Ev C A env Γ e₂ false (.list (l.map .str))) (hm : behindInMarks .In e₂ = false) : Ev C A env Γ (.Compare e₁ [.In] [e₂] pos) μ (.bool (l.contains s)) := by
  refine ev_cmp hA h₁ h₂ ?_ hm
  unfold cmpD
  have hd := dOk_strs l
  have h1 : noDict (.str s) = true := by simp [noDict]
  have h2 : (PyData.str s).depth = 0 := by simp [PyData.depth]
  show (if _ then some _ else none) = _
  rw [if_pos (by simp only [h1, hd.1, h2, Bool.true_and, decide_eq_true_eq]; omega), any_eqv_str]
end
end

section
set_option autoImplicit false
set_option linter.unusedVariables false
set_option maxRecDepth 100000
open PySem PyProof.Rows PySem.W

section
variable {C : Cx} {A : Around} {env : Env} {Γ Γc : Tab} {e e₁ e₂ : Expr} {μ : Bool} {d d₁ d₂ : PyData} {s₀ : Shared} {Z₀ : Addr → Prop} {E : Value → Shared → Prop} {Post : Out → Prop} {scope : Scope} {target elt iter : Expr} {ifs : List Expr} {gens : List Comprehension} {pos cp : Pos} {dep : Nat} {L : Addr}

theorem log2_small {i : Int} (hi : i.natAbs < 10 ^ 9) : i.natAbs.log2 < 1920 := by
  rcases Nat.eq_zero_or_pos i.natAbs with h0 | h0
  · rw [h0]; decide
  · refine (Nat.log2_lt (by omega)).mpr (Nat.lt_of_lt_of_le hi ?_)
    exact Nat.le_trans (by decide : 10 ^ 9 ≤ 2 ^ 30) (Nat.pow_le_pow_right (n := 2) (i := 30) (j := 1920) (by omega) (by omega))
theorem e_strI {x : Str} {p pos : Pos} {i : Int} (hb : Blt C env x (.type "str")) (h : Ev C A env Γ e false (.int i)) (hn : notStar e = true) (hi : i.natAbs < 10 ^ 9) : Ev C A env Γ (.Call (.Name x p) [e] [] pos) μ (.str (Str.ofString (toString i))) := fun E s m Z₀ Z I => by
  refine callTyp hb (by simp [hn]) (evs_cons h evs_nil hn) I fun vs s' kp I' r => ?_
  cases r with
  | cons r₁ r₂ =>
    cases r₂
    cases r₁ with
    | int _ t => exact PySem.P.str_of_int (log2_small hi) ⟨kp.trans (Kp.tok _ _), .str _ _ (strOk_ofString _)⟩

theorem e_eqS {n : Nat} {pos : Pos} {a b : Str} (hA : OkA A n) (h₁ : Ev C A env Γ e₁ false (.str a)) (h₂ : Ev C A env Γ e₂ false (.str b)) : Ev C A env Γ (.Compare e₁ [.Eq] [e₂] pos) μ (.bool (a == b)) :=
  have h : cmpD .Eq (.str a) (.str b) = some (PyData.eqv (.str a) (.str b)) := if_pos (e := none) (cmp_room (d₁ := .str a) (d₂ := .str b) (k := 0) (DOk.flat rfl) ((DOk.flat rfl).mono (by omega)) (Nat.zero_le 100))
  ev_cmp hA h₁ h₂ (h.trans (by rw [eqv_str])) (marks_of rfl)

noncomputable def pD (p : Str × Str) : PyData := .tuple [.str p.1, .str p.2]
theorem dOk_pD (p : Str × Str) : DOk (pD p) 1 := DOk.tuple fun x hx => by
  rcases List.mem_cons.mp hx with rfl | hx
  · exact DOk.flat rfl
  · cases List.mem_singleton.mp hx; exact DOk.flat rfl
theorem eqv_pD (p q : Str × Str) : PyData.eqv (pD p) (pD q) = (p == q) := by
  obtain ⟨a, b⟩ := p
  obtain ⟨c, d⟩ := q
  show PyData.eqv (.tuple [.str a, .str b]) (.tuple [.str c, .str d]) = _
  simp only [PyData.eqv, PyData.eqvAll, Bool.and_true]
  rfl
theorem any_eqv_pD (l : List (Str × Str)) (p : Str × Str) : ((l.map pD).any fun y => PyData.eqv y (pD p)) = l.contains p := by
  induction l with
  | nil => rfl
  | cons a l ih =>
    rw [List.map_cons, List.any_cons, ih, eqv_pD, List.contains_cons]
    congr 1
    by_cases h : a = p
    · subst h; rfl
    · rw [beq_eq_false_iff_ne.mpr h, beq_eq_false_iff_ne.mpr (Ne.symm h)]
theorem cmp_inP (l : List (Str × Str)) (p : Str × Str) : cmpD .In (pD p) (.list (l.map pD)) = some (l.contains p) := by
  have h1 := dOk_pD p
  have h2 : DOk (.list (l.map pD)) 2 := DOk.list fun x hx => by
    obtain ⟨q, _, rfl⟩ := List.mem_map.mp hx; exact dOk_pD q
  have h3 := h1.2
  show (if _ then some _ else none) = _
  rw [if_pos (by simp only [h1.1, h2.1, Bool.true_and, decide_eq_true_eq]; omega), any_eqv_pD]
theorem c_inP {n : Nat} {pos : Pos} {p : Str × Str} {l : List (Str × Str)} (hA : OkA A n) (h₁ : Ev C A env Γ e₁ false (pD p)) (h₂ : Ev C A env Γ e₂ false (.list (l.map pD))) (hm : behindInMarks .In e₂ = false) : Cd C A env Γ (.Compare e₁ [.In] [e₂] pos) (l.contains p) := cd_cmp hA h₁ h₂ (cmp_inP l p) hm
theorem e_inP {n : Nat} {pos : Pos} {p : Str × Str} {l : List (Str × Str)} (hA : OkA A n) (h₁ : Ev C A env Γ e₁ false (pD p)) (h₂ : Ev C A env Γ e₂ false (.list (l.map pD))) (hm : behindInMarks .In e₂ = false) : Ev C A env Γ (.Compare e₁ [.In] [e₂] pos) μ (.bool (l.contains p)) := ev_cmp hA h₁ h₂ (cmp_inP l p) hm

theorem cds_one {c : Expr} {b : Bool} (h : Cd C A env Γ c b) : Cds C A env Γ [c] b := ⟨b, h, fun q => q, fun q => q⟩
theorem turn_if {y : Str} {p : Pos} {d' : PyData} (b : Bool) (hg : gens[dep + 1]? = none) (hy : isLoc (compEnv scope env L) y = true) (hO : Owned (compEnv scope env L) s₀.heap y) (hn : Γc.lookup y = none) (hna : (y == (".acc" : Str)) = false)
    (hc : ∀ ds, Cds C A (compEnv scope env L) ((y, .fz d) :: (".acc", .own ds) :: Γc) ifs b) (ht : ∀ ds, b = true → Ev C A (compEnv scope env L) ((y, .fz d) :: (".acc", .own ds) :: Γc) elt true d') :
    Turn C A scope env Γc (.Name y p) ifs elt gens pos dep L s₀ Z₀ d (if b then [d'] else []) :=
  turn_name b hy hO hn hna hc (fun h => by rw [h]; rfl) fun ds h => by rw [if_pos h]; exact inn_emit hg (ht ds h)
theorem turn_all {y : Str} {p : Pos} {d' : PyData} (hg : gens[dep + 1]? = none) (hy : isLoc (compEnv scope env L) y = true) (hO : Owned (compEnv scope env L) s₀.heap y) (hn : Γc.lookup y = none) (hna : (y == (".acc" : Str)) = false)
    (ht : ∀ ds, Ev C A (compEnv scope env L) ((y, .fz d) :: (".acc", .own ds) :: Γc) elt true d') : Turn C A scope env Γc (.Name y p) [] elt gens pos dep L s₀ Z₀ d [d'] :=
  turn_name true hy hO hn hna (fun ds => rfl) (fun q => by cases q) fun ds _ => inn_emit hg (ht ds)
theorem turn_pall {y z : Str} {p q r : Pos} {k n : Nat} {d' : PyData} (hg : gens[dep + 1]? = none) (hA : OkA A n) (hy : isLoc (compEnv scope env L) y = true) (hz : isLoc (compEnv scope env L) z = true) (hOy : Owned (compEnv scope env L) s₀.heap y) (hOz : Owned (compEnv scope env L) s₀.heap z)
    (hn : Γc.lookup y = none) (hn' : Γc.lookup z = none) (hna : (y == (".acc" : Str)) = false) (hnz : (z == (".acc" : Str)) = false)
    (ht : ∀ ds, Ev C A (compEnv scope env L) ((z, .fz d₂) :: (y, .fz d₁) :: (".acc", .own ds) :: Γc) elt true d') :
    Turn C A scope env Γc (.Tuple [.Name y p, .Name z q] k r) [] elt gens pos dep L s₀ Z₀ (.tuple [d₁, d₂]) [d'] :=
  turn_pair true hA hy hz hOy hOz hn hn' hna hnz (fun ds => rfl) (fun q => by cases q) fun ds _ => inn_emit hg (ht ds)

theorem e_map {α : Type} (l : List α) (dat : α → PyData) (f : α → PyData) (D : CompDef scope env) (src : Src C A env Γ iter (l.map dat).length (fun i => (l.map dat).getD i .none)) (hs : ∀ x, foldedSetIterable iter env x = pure x) (hsz : l.length ≤ sizeLine)
    (turn : ∀ L s₀ Z₀ a, OwnC scope env L s₀ → a ∈ l → Turn C A scope env (capT scope.names Γ) target ifs elt (⟨target, iter, ifs, 0⟩ :: gens) cp 0 L s₀ Z₀ (dat a) [f a]) :
    Ev C A env Γ (.ListComp elt (⟨target, iter, ifs, 0⟩ :: gens) scope cp) μ (.list (l.map f)) :=
  (e_comp l dat (fun a => [f a]) D (src.cast (by simp) rfl) hs (by rw [flat_one, List.length_map]; exact hsz) turn).cast (by rw [flat_one])
theorem e_filter {α : Type} (l : List α) (dat : α → PyData) (p : α → Bool) (f : α → PyData) (D : CompDef scope env) (src : Src C A env Γ iter (l.map dat).length (fun i => (l.map dat).getD i .none)) (hs : ∀ x, foldedSetIterable iter env x = pure x) (hsz : l.length ≤ sizeLine)
    (turn : ∀ L s₀ Z₀ a, OwnC scope env L s₀ → a ∈ l → Turn C A scope env (capT scope.names Γ) target ifs elt (⟨target, iter, ifs, 0⟩ :: gens) cp 0 L s₀ Z₀ (dat a) (if p a then [f a] else [])) :
    Ev C A env Γ (.ListComp elt (⟨target, iter, ifs, 0⟩ :: gens) scope cp) μ (.list ((l.filter p).map f)) :=
  (e_comp l dat (fun a => if p a then [f a] else []) D (src.cast (by simp) rfl) hs (by rw [flat_if, List.length_map]; exact Nat.le_trans (List.length_filter_le _ _) hsz) turn).cast (by rw [flat_if])
theorem xs_map {α : Type} {x : Str} {xp : Pos} (l : List α) (dat : α → PyData) (f : α → PyData) (hs : swapsWith (.ListComp elt (⟨target, iter, ifs, 0⟩ :: gens) scope cp) (some (.Name x xp)) pos.line env = pure true)
    (hx : isLoc env x = true) (hO : Owned env s₀.heap x) (D : CompDef scope env) (src : Src C A env Γ iter (l.map dat).length (fun i => (l.map dat).getD i .none)) (hsi : ∀ x, foldedSetIterable iter env x = pure x) (hsz : l.length ≤ sizeLine)
    (turn : ∀ L s₀ Z₀ a, OwnC scope env L s₀ → a ∈ l → Turn C A scope env (capT scope.names Γ) target ifs elt (⟨target, iter, ifs, 0⟩ :: gens) cp 0 L s₀ Z₀ (dat a) [f a])
    (hp : Post (.next ((x, .fz (.list (l.map f))) :: Γ))) : Xs C A env s₀ Z₀ E Γ (.Assign [.Name x xp] (.ListComp elt (⟨target, iter, ifs, 0⟩ :: gens) scope cp) pos) Post :=
  xs_compL l dat (fun a => [f a]) hs hx hO D (src.cast (by simp) rfl) hsi (by rw [flat_one, List.length_map]; exact hsz) turn (by rw [flat_one]; exact hp)
theorem xs_filter {α : Type} {x : Str} {xp : Pos} (l : List α) (dat : α → PyData) (p : α → Bool) (f : α → PyData) (hs : swapsWith (.ListComp elt (⟨target, iter, ifs, 0⟩ :: gens) scope cp) (some (.Name x xp)) pos.line env = pure true)
    (hx : isLoc env x = true) (hO : Owned env s₀.heap x) (D : CompDef scope env) (src : Src C A env Γ iter (l.map dat).length (fun i => (l.map dat).getD i .none)) (hsi : ∀ x, foldedSetIterable iter env x = pure x) (hsz : l.length ≤ sizeLine)
    (turn : ∀ L s₀ Z₀ a, OwnC scope env L s₀ → a ∈ l → Turn C A scope env (capT scope.names Γ) target ifs elt (⟨target, iter, ifs, 0⟩ :: gens) cp 0 L s₀ Z₀ (dat a) (if p a then [f a] else []))
    (hp : Post (.next ((x, .fz (.list ((l.filter p).map f))) :: Γ))) : Xs C A env s₀ Z₀ E Γ (.Assign [.Name x xp] (.ListComp elt (⟨target, iter, ifs, 0⟩ :: gens) scope cp) pos) Post :=
  xs_compL l dat (fun a => if p a then [f a] else []) hs hx hO D (src.cast (by simp) rfl) hsi (by rw [flat_if, List.length_map]; exact Nat.le_trans (List.length_filter_le _ _) hsz) turn (by rw [flat_if]; exact hp)
end
end

section
set_option autoImplicit false
set_option linter.unusedVariables false
set_option maxRecDepth 100000
open PySem PyProof.Rows PySem.W

section
variable {C : Cx} {A : Around} {env : Env} {Γ Γc : Tab} {e e₁ e₂ : Expr} {μ : Bool} {d d₁ d₂ : PyData} {s₀ : Shared} {Z₀ : Addr → Prop} {E : Value → Shared → Prop} {Post : Out → Prop} {scope : Scope} {target elt iter : Expr} {ifs : List Expr} {gens : List Comprehension} {pos cp : Pos} {dep : Nat} {L : Addr}

theorem range_filter_len (n : Nat) (p : Nat → Bool) (f : Nat → PyData) : ((List.range n).flatMap fun i => if p i then [f i] else []).length ≤ n := by
  rw [flat_if, List.length_map]
  exact Nat.le_trans (List.length_filter_le _ _) (by simp)
theorem e_filterR {n : Nat} {dat : Nat → PyData} (p : Nat → Bool) (f : Nat → PyData) (D : CompDef scope env) (src : Src C A env Γ iter n dat) (hs : ∀ x, foldedSetIterable iter env x = pure x) (hsz : n ≤ sizeLine)
    (turn : ∀ L s₀ Z₀ i, OwnC scope env L s₀ → i < n → Turn C A scope env (capT scope.names Γ) target ifs elt (⟨target, iter, ifs, 0⟩ :: gens) cp 0 L s₀ Z₀ (dat i) (if p i then [f i] else [])) :
    Ev C A env Γ (.ListComp elt (⟨target, iter, ifs, 0⟩ :: gens) scope cp) μ (.list (((List.range n).filter p).map f)) :=
  (ev_comp D src hs (fun i => if p i then [f i] else []) (Nat.le_trans (range_filter_len n p f) hsz) turn).cast (by rw [flat_if])
theorem xs_filterR {n : Nat} {dat : Nat → PyData} {x : Str} {xp : Pos} (p : Nat → Bool) (f : Nat → PyData) (hs : swapsWith (.ListComp elt (⟨target, iter, ifs, 0⟩ :: gens) scope cp) (some (.Name x xp)) pos.line env = pure true)
    (hx : isLoc env x = true) (hO : Owned env s₀.heap x) (D : CompDef scope env) (src : Src C A env Γ iter n dat) (hsi : ∀ x, foldedSetIterable iter env x = pure x) (hsz : n ≤ sizeLine)
    (turn : ∀ L s₀ Z₀ i, OwnC scope env L s₀ → i < n → Turn C A scope env (capT scope.names Γ) target ifs elt (⟨target, iter, ifs, 0⟩ :: gens) cp 0 L s₀ Z₀ (dat i) (if p i then [f i] else []))
    (hp : Post (.next ((x, .fz (.list (((List.range n).filter p).map f))) :: Γ))) : Xs C A env s₀ Z₀ E Γ (.Assign [.Name x xp] (.ListComp elt (⟨target, iter, ifs, 0⟩ :: gens) scope cp) pos) Post :=
  xs_compUse hs hx hO D src hsi (fun i => if p i then [f i] else []) (Nat.le_trans (range_filter_len n p f) hsz) turn (by rw [flat_if]; exact hp)

theorem dOk_ints (l : List Int) : DOk (.list (l.map .int)) 1 := DOk.list fun x hx => by
  obtain ⟨i, _, rfl⟩ := List.mem_map.mp hx
  exact DOk.flat rfl
theorem any_eqv_int (l : List Int) (i : Int) : ((l.map PyData.int).any fun y => PyData.eqv y (.int i)) = l.contains i := by
  induction l with
  | nil => rfl
  | cons a l ih =>
    rw [List.map_cons, List.any_cons, ih, eqv_int, List.contains_cons]
    congr 1
    by_cases h : a = i
    · subst h; rfl
    · rw [beq_eq_false_iff_ne.mpr h, beq_eq_false_iff_ne.mpr (Ne.symm h)]
theorem cmp_inI (l : List Int) (i : Int) : cmpD .In (.int i) (.list (l.map .int)) = some (l.contains i) := by
  have h1 : DOk (.int i) 0 := DOk.flat rfl
  have h2 := dOk_ints l
  have h3 := h1.2
  show (if _ then some _ else none) = _
  rw [if_pos (by simp only [h1.1, h2.1, Bool.true_and, decide_eq_true_eq]; omega), any_eqv_int]
theorem c_inI {n : Nat} {pos : Pos} {i : Int} {l : List Int} (hA : OkA A n) (h₁ : Ev C A env Γ e₁ false (.int i)) (h₂ : Ev C A env Γ e₂ false (.list (l.map .int))) (hm : behindInMarks .In e₂ = false) : Cd C A env Γ (.Compare e₁ [.In] [e₂] pos) (l.contains i) := cd_cmp hA h₁ h₂ (cmp_inI l i) hm
end
end

section
set_option autoImplicit false
set_option maxRecDepth 100000
open PySem PyProof.Rows PySem.W

noncomputable def nthS : List Stmt → Nat → Option Stmt
  | [], _ => none
  | s :: _, 0 => some s
  | _ :: r, n + 1 => nthS r n
noncomputable def fnOf3 (s : Option Stmt) (c : Addr) (m : Value) : Obj := match s with
  | some (.FunctionDef name args body _ _ _ scope _ _ _) => { cls := .type "function", data := .func { name := name, qualname := name, params := args, body := .stmts body, scope := scope, globals := 3, closure := [], defaults := .none, kwdefaults := .none, pyModule := m, code := .ref c } }
  | _ => { cls := .none, data := .plain }
noncomputable def fnO (i : Nat) (c : Addr) (m : Value) : Obj := fnOf3 (nthS PySem.Challenge.pw_sx_yaugur_3.main.body i) c m
noncomputable abbrev mC : Value := .str (Str.ofString "augur.core") 187
noncomputable abbrev mL : Value := .str (Str.ofString "law_sx_yaugur_3") 332
noncomputable def K3 (P : Params) : Frag := [
  (3, { cls := Value.type "dict", data := Data.dict #[{ hash := PyData.keyHash P (Str.ofString "__name__"), key := Value.str (Str.ofString "__name__") 165, val := Value.str (Str.ofString "law_sx_yaugur_3") 332 }, { hash := PyData.keyHash P (Str.ofString "__doc__"), key := Value.str (Str.ofString "__doc__") 166, val := Value.none }, { hash := PyData.keyHash P (Str.ofString "__package__"), key := Value.str (Str.ofString "__package__") 167, val := Value.none }, { hash := PyData.keyHash P (Str.ofString "__loader__"), key := Value.str (Str.ofString "__loader__") 168, val := Value.builtin "__main__.__loader__#opaque" }, { hash := PyData.keyHash P (Str.ofString "__spec__"), key := Value.str (Str.ofString "__spec__") 169, val := Value.none }, { hash := PyData.keyHash P (Str.ofString "__annotations__"), key := Value.str (Str.ofString "__annotations__") 170, val := Value.ref 6 }, { hash := PyData.keyHash P (Str.ofString "__builtins__"), key := Value.str (Str.ofString "__builtins__") 171, val := Value.ref 4 }, { hash := PyData.keyHash P (Str.ofString "__file__"), key := Value.str (Str.ofString "__file__") 173, val := Value.str (Str.ofString "/claim/cut.py") 172 }, { hash := PyData.keyHash P (Str.ofString "__cached__"), key := Value.str (Str.ofString "__cached__") 174, val := Value.none }, { hash := PyData.keyHash P (Str.ofString "FormatError"), key := Value.str (Str.ofString "FormatError") 208, val := Value.ref 24 }, { hash := PyData.keyHash P (Str.ofString "grammar_ok"), key := Value.str (Str.ofString "grammar_ok") 217, val := Value.ref 34 }, { hash := PyData.keyHash P (Str.ofString "heads_of"), key := Value.str (Str.ofString "heads_of") 226, val := Value.ref 41 }, { hash := PyData.keyHash P (Str.ofString "tokens_of"), key := Value.str (Str.ofString "tokens_of") 237, val := Value.ref 48 }, { hash := PyData.keyHash P (Str.ofString "merged"), key := Value.str (Str.ofString "merged") 247, val := Value.ref 55 }, { hash := PyData.keyHash P (Str.ofString "heads_built_from"), key := Value.str (Str.ofString "heads_built_from") 253, val := Value.ref 60 }, { hash := PyData.keyHash P (Str.ofString "nullable_heads"), key := Value.str (Str.ofString "nullable_heads") 260, val := Value.ref 67 }, { hash := PyData.keyHash P (Str.ofString "replayed"), key := Value.str (Str.ofString "replayed") 272, val := Value.ref 74 }, { hash := PyData.keyHash P (Str.ofString "productive_heads"), key := Value.str (Str.ofString "productive_heads") 279, val := Value.ref 81 }, { hash := PyData.keyHash P (Str.ofString "reachable_heads"), key := Value.str (Str.ofString "reachable_heads") 291, val := Value.ref 88 }, { hash := PyData.keyHash P (Str.ofString "direct_left_corners"), key := Value.str (Str.ofString "direct_left_corners") 304, val := Value.ref 95 }, { hash := PyData.keyHash P (Str.ofString "left_corner_heads"), key := Value.str (Str.ofString "left_corner_heads") 315, val := Value.ref 102 }, { hash := PyData.keyHash P (Str.ofString "grammar_text"), key := Value.str (Str.ofString "grammar_text") 321, val := Value.ref 107 }, { hash := PyData.keyHash P (Str.ofString "grammar_from_text"), key := Value.str (Str.ofString "grammar_from_text") 331, val := Value.ref 114 }, { hash := PyData.keyHash P (Str.ofString "_law_HEADS"), key := Value.str (Str.ofString "_law_HEADS") 337, val := Value.ref 115 }, { hash := PyData.keyHash P (Str.ofString "_law_SYMBOLS"), key := Value.str (Str.ofString "_law_SYMBOLS") 344, val := Value.ref 116 }, { hash := PyData.keyHash P (Str.ofString "_law_BASES"), key := Value.str (Str.ofString "_law_BASES") 377, val := Value.ref 150 }, { hash := PyData.keyHash P (Str.ofString "_law_BODIES"), key := Value.str (Str.ofString "_law_BODIES") 393, val := Value.ref 159 }, { hash := PyData.keyHash P (Str.ofString "_law_BAD"), key := Value.str (Str.ofString "_law_BAD") 406, val := Value.ref 172 }, { hash := PyData.keyHash P (Str.ofString "_law_ODD"), key := Value.str (Str.ofString "_law_ODD") 419, val := Value.ref 185 }, { hash := PyData.keyHash P (Str.ofString "_law_lines"), key := Value.str (Str.ofString "_law_lines") 425, val := Value.ref 190 }, { hash := PyData.keyHash P (Str.ofString "_law_read"), key := Value.str (Str.ofString "_law_read") 435, val := Value.ref 197 }, { hash := PyData.keyHash P (Str.ofString "_law_edit"), key := Value.str (Str.ofString "_law_edit") 453, val := Value.ref 204 }, { hash := PyData.keyHash P (Str.ofString "_law_built"), key := Value.str (Str.ofString "_law_built") 459, val := Value.ref 209 }, { hash := PyData.keyHash P (Str.ofString "_law_sets"), key := Value.str (Str.ofString "_law_sets") 465, val := Value.ref 214 }, { hash := PyData.keyHash P (Str.ofString "_law_derive"), key := Value.str (Str.ofString "_law_derive") 471, val := Value.ref 219 }, { hash := PyData.keyHash P (Str.ofString "_law_probe"), key := Value.str (Str.ofString "_law_probe") 477, val := Value.ref 224 }, { hash := PyData.keyHash P (Str.ofString "law"), key := Value.str (Str.ofString "law") 483, val := Value.ref 229 }] 37 }),
  (23, { cls := Value.type "dict", data := Data.dict #[{ hash := PyData.keyHash P (Str.ofString "__module__"), key := Value.str (Str.ofString "__module__") 196, val := Value.str (Str.ofString "augur.core") 187 }, { hash := PyData.keyHash P (Str.ofString "__firstlineno__"), key := Value.str (Str.ofString "__firstlineno__") 200, val := Value.int 2 199 }, { hash := PyData.keyHash P (Str.ofString "__static_attributes__"), key := Value.str (Str.ofString "__static_attributes__") 201, val := Value.ref 22 }, { hash := PyData.keyHash P (Str.ofString "__weakref__"), key := Value.str (Str.ofString "__weakref__") 203, val := Value.ref 25 }, { hash := PyData.keyHash P (Str.ofString "__doc__"), key := Value.str (Str.ofString "__doc__") 204, val := Value.none }] 3 }),
  (24, { cls := Value.type "type", data := Data.cls { name := Str.ofString "FormatError", bases := [Value.type "Exception"], mro := [Value.ref 24, Value.type "Exception", Value.type "BaseException", Value.type "object"], ns := 23, qualname := Str.ofString "FormatError" }, slots := #[some (Value.ref 15), none, some (Value.str (Str.ofString "FormatError") 189), some (Value.str (Str.ofString "FormatError") 197), some (Value.builtin "Exception.__new__"), some (Value.bool true)] }),
  (25, { cls := Value.type "getset_descriptor", data := Data.fields #[Value.str (Str.ofString "__weakref__") 202, Value.ref 24, Value.builtin "ExceptionGroup.__weakref__", Value.none] }),
  (33, { cls := Value.type "code", data := Data.fields #[Value.str (Str.ofString "grammar_ok") 209, Value.str (Str.ofString "grammar_ok") 210, Value.str (Str.ofString "/claim/cut.py") 211, Value.int 4 0, Value.int 1 0, Value.int 0 0, Value.int 0 0, Value.int 3 0, Value.ref 28, Value.bool true, Value.int 181 0, Value.ref 29, Value.none, Value.ref 30, Value.ref 31, Value.ref 32, Value.int 215 0, Value.int 4 0, Value.str (Str.ofString "/claim/cut.py") 216] }),
  (34, fnO 2 33 mC),
  (40, { cls := Value.type "code", data := Data.fields #[Value.str (Str.ofString "heads_of") 218, Value.str (Str.ofString "heads_of") 219, Value.str (Str.ofString "/claim/cut.py") 220, Value.int 14 0, Value.int 1 0, Value.int 0 0, Value.int 0 0, Value.int 3 0, Value.ref 35, Value.bool true, Value.int 181 0, Value.ref 36, Value.none, Value.ref 37, Value.ref 38, Value.ref 39, Value.int 224 0, Value.int 14 0, Value.str (Str.ofString "/claim/cut.py") 225] }),
  (41, fnO 3 40 mC),
  (47, { cls := Value.type "code", data := Data.fields #[Value.str (Str.ofString "tokens_of") 227, Value.str (Str.ofString "tokens_of") 228, Value.str (Str.ofString "/claim/cut.py") 229, Value.int 20 0, Value.int 1 0, Value.int 0 0, Value.int 0 0, Value.int 3 0, Value.ref 42, Value.bool true, Value.int 181 0, Value.ref 43, Value.none, Value.ref 44, Value.ref 45, Value.ref 46, Value.int 235 0, Value.int 20 0, Value.str (Str.ofString "/claim/cut.py") 236] }),
  (48, fnO 4 47 mC),
  (54, { cls := Value.type "code", data := Data.fields #[Value.str (Str.ofString "merged") 238, Value.str (Str.ofString "merged") 239, Value.str (Str.ofString "/claim/cut.py") 240, Value.int 28 0, Value.int 2 0, Value.int 0 0, Value.int 0 0, Value.int 3 0, Value.ref 49, Value.bool true, Value.int 181 0, Value.ref 50, Value.none, Value.ref 51, Value.ref 52, Value.ref 53, Value.int 245 0, Value.int 28 0, Value.str (Str.ofString "/claim/cut.py") 246] }),
  (55, fnO 5 54 mC),
  (59, { cls := Value.type "code", data := Data.fields #[Value.str (Str.ofString "heads_built_from") 248, Value.str (Str.ofString "heads_built_from") 249, Value.str (Str.ofString "/claim/cut.py") 250, Value.int 34 0, Value.int 2 0, Value.int 0 0, Value.int 0 0, Value.int 3 0, Value.ref 56, Value.bool true, Value.int 181 0, Value.ref 57, Value.none, Value.none, Value.none, Value.ref 58, Value.int 251 0, Value.int 34 0, Value.str (Str.ofString "/claim/cut.py") 252] }),
  (60, fnO 6 59 mC),
  (66, { cls := Value.type "code", data := Data.fields #[Value.str (Str.ofString "nullable_heads") 254, Value.str (Str.ofString "nullable_heads") 255, Value.str (Str.ofString "/claim/cut.py") 256, Value.int 44 0, Value.int 1 0, Value.int 0 0, Value.int 0 0, Value.int 3 0, Value.ref 61, Value.bool true, Value.int 181 0, Value.ref 62, Value.none, Value.ref 63, Value.ref 64, Value.ref 65, Value.int 258 0, Value.int 44 0, Value.str (Str.ofString "/claim/cut.py") 259] }),
  (67, fnO 7 66 mC),
  (73, { cls := Value.type "code", data := Data.fields #[Value.str (Str.ofString "replayed") 261, Value.str (Str.ofString "replayed") 262, Value.str (Str.ofString "/claim/cut.py") 263, Value.int 46 0, Value.int 2 0, Value.int 0 0, Value.int 0 0, Value.int 3 0, Value.ref 68, Value.bool true, Value.int 181 0, Value.ref 69, Value.none, Value.ref 70, Value.ref 71, Value.ref 72, Value.int 270 0, Value.int 46 0, Value.str (Str.ofString "/claim/cut.py") 271] }),
  (74, fnO 8 73 mC),
  (80, { cls := Value.type "code", data := Data.fields #[Value.str (Str.ofString "productive_heads") 273, Value.str (Str.ofString "productive_heads") 274, Value.str (Str.ofString "/claim/cut.py") 275, Value.int 57 0, Value.int 1 0, Value.int 0 0, Value.int 0 0, Value.int 3 0, Value.ref 75, Value.bool true, Value.int 181 0, Value.ref 76, Value.none, Value.ref 77, Value.ref 78, Value.ref 79, Value.int 277 0, Value.int 57 0, Value.str (Str.ofString "/claim/cut.py") 278] }),
  (81, fnO 9 80 mC),
  (87, { cls := Value.type "code", data := Data.fields #[Value.str (Str.ofString "reachable_heads") 280, Value.str (Str.ofString "reachable_heads") 281, Value.str (Str.ofString "/claim/cut.py") 282, Value.int 59 0, Value.int 1 0, Value.int 0 0, Value.int 0 0, Value.int 3 0, Value.ref 82, Value.bool true, Value.int 181 0, Value.ref 83, Value.none, Value.ref 84, Value.ref 85, Value.ref 86, Value.int 289 0, Value.int 59 0, Value.str (Str.ofString "/claim/cut.py") 290] }),
  (88, fnO 10 87 mC),
  (94, { cls := Value.type "code", data := Data.fields #[Value.str (Str.ofString "direct_left_corners") 292, Value.str (Str.ofString "direct_left_corners") 293, Value.str (Str.ofString "/claim/cut.py") 294, Value.int 71 0, Value.int 2 0, Value.int 0 0, Value.int 0 0, Value.int 3 0, Value.ref 89, Value.bool true, Value.int 181 0, Value.ref 90, Value.none, Value.ref 91, Value.ref 92, Value.ref 93, Value.int 302 0, Value.int 71 0, Value.str (Str.ofString "/claim/cut.py") 303] }),
  (95, fnO 11 94 mC),
  (101, { cls := Value.type "code", data := Data.fields #[Value.str (Str.ofString "left_corner_heads") 305, Value.str (Str.ofString "left_corner_heads") 306, Value.str (Str.ofString "/claim/cut.py") 307, Value.int 83 0, Value.int 2 0, Value.int 0 0, Value.int 0 0, Value.int 3 0, Value.ref 96, Value.bool true, Value.int 181 0, Value.ref 97, Value.none, Value.ref 98, Value.ref 99, Value.ref 100, Value.int 313 0, Value.int 83 0, Value.str (Str.ofString "/claim/cut.py") 314] }),
  (102, fnO 12 101 mC),
  (106, { cls := Value.type "code", data := Data.fields #[Value.str (Str.ofString "grammar_text") 316, Value.str (Str.ofString "grammar_text") 317, Value.str (Str.ofString "/claim/cut.py") 318, Value.int 92 0, Value.int 1 0, Value.int 0 0, Value.int 0 0, Value.int 3 0, Value.ref 103, Value.bool true, Value.int 181 0, Value.ref 104, Value.none, Value.none, Value.none, Value.ref 105, Value.int 319 0, Value.int 92 0, Value.str (Str.ofString "/claim/cut.py") 320] }),
  (107, fnO 13 106 mC),
  (113, { cls := Value.type "code", data := Data.fields #[Value.str (Str.ofString "grammar_from_text") 322, Value.str (Str.ofString "grammar_from_text") 323, Value.str (Str.ofString "/claim/cut.py") 324, Value.int 94 0, Value.int 1 0, Value.int 0 0, Value.int 0 0, Value.int 3 0, Value.ref 108, Value.bool true, Value.int 181 0, Value.ref 109, Value.none, Value.ref 110, Value.ref 111, Value.ref 112, Value.int 329 0, Value.int 94 0, Value.str (Str.ofString "/claim/cut.py") 330] }),
  (114, fnO 14 113 mC),
  (115, { cls := Value.type "tuple", data := Data.seq #[Value.str (Str.ofString "A") 334, Value.str (Str.ofString "B") 335, Value.str (Str.ofString "C") 336] }),
  (116, { cls := Value.type "tuple", data := Data.seq #[Value.str (Str.ofString "A") 338, Value.str (Str.ofString "B") 339, Value.str (Str.ofString "C") 340, Value.str (Str.ofString "a") 341, Value.str (Str.ofString "b") 342, Value.str (Str.ofString "c") 343] }),
  (117, { cls := Value.type "tuple", data := Data.seq #[Value.str (Str.ofString "a") 346] }),
  (118, { cls := Value.type "tuple", data := Data.seq #[Value.str (Str.ofString "A") 345, Value.ref 117] }),
  (119, { cls := Value.type "tuple", data := Data.seq #[Value.ref 118] }),
  (120, { cls := Value.type "tuple", data := Data.seq #[Value.str (Str.ofString "A") 348, Value.str (Str.ofString "b") 349] }),
  (121, { cls := Value.type "tuple", data := Data.seq #[Value.str (Str.ofString "B") 347, Value.ref 120] }),
  (122, { cls := Value.type "tuple", data := Data.seq #[] }),
  (123, { cls := Value.type "tuple", data := Data.seq #[Value.str (Str.ofString "A") 350, Value.ref 122] }),
  (124, { cls := Value.type "tuple", data := Data.seq #[Value.str (Str.ofString "a") 352, Value.str (Str.ofString "A") 353] }),
  (125, { cls := Value.type "tuple", data := Data.seq #[Value.str (Str.ofString "A") 351, Value.ref 124] }),
  (126, { cls := Value.type "tuple", data := Data.seq #[Value.ref 121, Value.ref 123, Value.ref 125] }),
  (127, { cls := Value.type "tuple", data := Data.seq #[Value.str (Str.ofString "B") 355, Value.str (Str.ofString "A") 356] }),
  (128, { cls := Value.type "tuple", data := Data.seq #[Value.str (Str.ofString "C") 354, Value.ref 127] }),
  (129, { cls := Value.type "tuple", data := Data.seq #[Value.str (Str.ofString "A") 358, Value.str (Str.ofString "c") 359] }),
  (130, { cls := Value.type "tuple", data := Data.seq #[Value.str (Str.ofString "B") 357, Value.ref 129] }),
  (131, { cls := Value.type "tuple", data := Data.seq #[Value.str (Str.ofString "C") 361] }),
  (132, { cls := Value.type "tuple", data := Data.seq #[Value.str (Str.ofString "A") 360, Value.ref 131] }),
  (133, { cls := Value.type "tuple", data := Data.seq #[] }),
  (134, { cls := Value.type "tuple", data := Data.seq #[Value.str (Str.ofString "A") 362, Value.ref 133] }),
  (135, { cls := Value.type "tuple", data := Data.seq #[Value.ref 128, Value.ref 130, Value.ref 132, Value.ref 134] }),
  (136, { cls := Value.type "tuple", data := Data.seq #[Value.str (Str.ofString "B") 364, Value.str (Str.ofString "b") 365] }),
  (137, { cls := Value.type "tuple", data := Data.seq #[Value.str (Str.ofString "A") 363, Value.ref 136] }),
  (138, { cls := Value.type "tuple", data := Data.seq #[Value.str (Str.ofString "C") 367] }),
  (139, { cls := Value.type "tuple", data := Data.seq #[Value.str (Str.ofString "B") 366, Value.ref 138] }),
  (140, { cls := Value.type "tuple", data := Data.seq #[Value.str (Str.ofString "c") 369, Value.str (Str.ofString "A") 370] }),
  (141, { cls := Value.type "tuple", data := Data.seq #[Value.str (Str.ofString "C") 368, Value.ref 140] }),
  (142, { cls := Value.type "tuple", data := Data.seq #[] }),
  (143, { cls := Value.type "tuple", data := Data.seq #[Value.str (Str.ofString "B") 371, Value.ref 142] }),
  (144, { cls := Value.type "tuple", data := Data.seq #[Value.ref 137, Value.ref 139, Value.ref 141, Value.ref 143] }),
  (145, { cls := Value.type "tuple", data := Data.seq #[Value.str (Str.ofString "c") 373, Value.str (Str.ofString "C") 374] }),
  (146, { cls := Value.type "tuple", data := Data.seq #[Value.str (Str.ofString "C") 372, Value.ref 145] }),
  (147, { cls := Value.type "tuple", data := Data.seq #[Value.str (Str.ofString "B") 376] }),
  (148, { cls := Value.type "tuple", data := Data.seq #[Value.str (Str.ofString "A") 375, Value.ref 147] }),
  (149, { cls := Value.type "tuple", data := Data.seq #[Value.ref 146, Value.ref 148] }),
  (150, { cls := Value.type "tuple", data := Data.seq #[Value.ref 119, Value.ref 126, Value.ref 135, Value.ref 144, Value.ref 149] }),
  (151, { cls := Value.type "tuple", data := Data.seq #[] }),
  (152, { cls := Value.type "tuple", data := Data.seq #[Value.str (Str.ofString "a") 378] }),
  (153, { cls := Value.type "tuple", data := Data.seq #[Value.str (Str.ofString "A") 379, Value.str (Str.ofString "b") 380] }),
  (154, { cls := Value.type "tuple", data := Data.seq #[Value.str (Str.ofString "B") 381, Value.str (Str.ofString "A") 382] }),
  (155, { cls := Value.type "tuple", data := Data.seq #[Value.str (Str.ofString "C") 383, Value.str (Str.ofString "c") 384, Value.str (Str.ofString "C") 385] }),
  (156, { cls := Value.type "tuple", data := Data.seq #[Value.str (Str.ofString "b") 386, Value.str (Str.ofString "B") 387] }),
  (157, { cls := Value.type "tuple", data := Data.seq #[Value.str (Str.ofString "B") 388, Value.str (Str.ofString "C") 389, Value.str (Str.ofString "A") 390] }),
  (158, { cls := Value.type "tuple", data := Data.seq #[Value.str (Str.ofString "A") 391, Value.str (Str.ofString "A") 392] }),
  (159, { cls := Value.type "tuple", data := Data.seq #[Value.ref 151, Value.ref 152, Value.ref 153, Value.ref 154, Value.ref 155, Value.ref 156, Value.ref 157, Value.ref 158] }),
  (160, { cls := Value.type "tuple", data := Data.seq #[Value.str (Str.ofString "A") 394, Value.bool true] }),
  (161, { cls := Value.type "tuple", data := Data.seq #[Value.str (Str.ofString "") 395, Value.bool true] }),
  (162, { cls := Value.type "tuple", data := Data.seq #[Value.str (Str.ofString "A a -> b") 396, Value.bool true] }),
  (163, { cls := Value.type "tuple", data := Data.seq #[Value.str (Str.ofString "A => a") 397, Value.bool true] }),
  (164, { cls := Value.type "tuple", data := Data.seq #[Value.str (Str.ofString "A  -> a") 398, Value.bool true] }),
  (165, { cls := Value.type "tuple", data := Data.seq #[Value.str (Str.ofString " -> a") 399, Value.bool false] }),
  (166, { cls := Value.type "tuple", data := Data.seq #[Value.str (Str.ofString "A ->  a") 400, Value.bool false] }),
  (167, { cls := Value.type "tuple", data := Data.seq #[Value.str (Str.ofString "B -> b ") 401, Value.bool false] }),
  (168, { cls := Value.type "tuple", data := Data.seq #[Value.str (Str.ofString "A -> a $ b") 402, Value.bool false] }),
  (169, { cls := Value.type "tuple", data := Data.seq #[Value.str (Str.ofString "A -> a -> b") 403, Value.bool false] }),
  (170, { cls := Value.type "tuple", data := Data.seq #[Value.str (Str.ofString "$ -> a") 404, Value.bool false] }),
  (171, { cls := Value.type "tuple", data := Data.seq #[Value.str (Str.ofString "B -> a\nb c") 405, Value.bool false] }),
  (172, { cls := Value.type "tuple", data := Data.seq #[Value.ref 160, Value.ref 161, Value.ref 162, Value.ref 163, Value.ref 164, Value.ref 165, Value.ref 166, Value.ref 167, Value.ref 168, Value.ref 169, Value.ref 170, Value.ref 171] }),
  (173, { cls := Value.type "tuple", data := Data.seq #[Value.str (Str.ofString "$") 407, Value.bool false] }),
  (174, { cls := Value.type "tuple", data := Data.seq #[Value.str (Str.ofString "") 408, Value.bool false] }),
  (175, { cls := Value.type "tuple", data := Data.seq #[Value.str (Str.ofString "->") 409, Value.bool false] }),
  (176, { cls := Value.type "tuple", data := Data.seq #[Value.str (Str.ofString "a b") 410, Value.bool false] }),
  (177, { cls := Value.type "tuple", data := Data.seq #[Value.str (Str.ofString " ") 411, Value.bool false] }),
  (178, { cls := Value.type "tuple", data := Data.seq #[Value.str (Str.ofString "a\n") 412, Value.bool false] }),
  (179, { cls := Value.type "tuple", data := Data.seq #[Value.str (Str.ofString "\n") 413, Value.bool false] }),
  (180, { cls := Value.type "tuple", data := Data.seq #[Value.str (Str.ofString "$$") 414, Value.bool true] }),
  (181, { cls := Value.type "tuple", data := Data.seq #[Value.str (Str.ofString "-") 415, Value.bool true] }),
  (182, { cls := Value.type "tuple", data := Data.seq #[Value.str (Str.ofString ">") 416, Value.bool true] }),
  (183, { cls := Value.type "tuple", data := Data.seq #[Value.str (Str.ofString "a$") 417, Value.bool true] }),
  (184, { cls := Value.type "tuple", data := Data.seq #[Value.str (Str.ofString "->-") 418, Value.bool true] }),
  (185, { cls := Value.type "tuple", data := Data.seq #[Value.ref 173, Value.ref 174, Value.ref 175, Value.ref 176, Value.ref 177, Value.ref 178, Value.ref 179, Value.ref 180, Value.ref 181, Value.ref 182, Value.ref 183, Value.ref 184] }),
  (189, { cls := Value.type "code", data := Data.fields #[Value.str (Str.ofString "_law_lines") 420, Value.str (Str.ofString "_law_lines") 421, Value.str (Str.ofString "/claim/cut.py") 422, Value.int 111 0, Value.int 1 0, Value.int 0 0, Value.int 0 0, Value.int 3 0, Value.ref 186, Value.bool true, Value.int 181 0, Value.ref 187, Value.none, Value.none, Value.none, Value.ref 188, Value.int 423 0, Value.int 111 0, Value.str (Str.ofString "/claim/cut.py") 424] }),
  (190, fnO 22 189 mL),
  (196, { cls := Value.type "code", data := Data.fields #[Value.str (Str.ofString "_law_read") 426, Value.str (Str.ofString "_law_read") 427, Value.str (Str.ofString "/claim/cut.py") 428, Value.int 113 0, Value.int 1 0, Value.int 0 0, Value.int 0 0, Value.int 3 0, Value.ref 191, Value.bool true, Value.int 181 0, Value.ref 192, Value.none, Value.ref 193, Value.ref 194, Value.ref 195, Value.int 433 0, Value.int 113 0, Value.str (Str.ofString "/claim/cut.py") 434] }),
  (197, fnO 23 196 mL),
  (203, { cls := Value.type "code", data := Data.fields #[Value.str (Str.ofString "_law_edit") 436, Value.str (Str.ofString "_law_edit") 437, Value.str (Str.ofString "/claim/cut.py") 438, Value.int 121 0, Value.int 5 0, Value.int 0 0, Value.int 0 0, Value.int 3 0, Value.ref 198, Value.bool true, Value.int 181 0, Value.ref 199, Value.none, Value.ref 200, Value.ref 201, Value.ref 202, Value.int 451 0, Value.int 121 0, Value.str (Str.ofString "/claim/cut.py") 452] }),
  (204, fnO 24 203 mL),
  (208, { cls := Value.type "code", data := Data.fields #[Value.str (Str.ofString "_law_built") 454, Value.str (Str.ofString "_law_built") 455, Value.str (Str.ofString "/claim/cut.py") 456, Value.int 140 0, Value.int 3 0, Value.int 0 0, Value.int 0 0, Value.int 3 0, Value.ref 205, Value.bool true, Value.int 181 0, Value.ref 206, Value.none, Value.none, Value.none, Value.ref 207, Value.int 457 0, Value.int 140 0, Value.str (Str.ofString "/claim/cut.py") 458] }),
  (209, fnO 25 208 mL),
  (213, { cls := Value.type "code", data := Data.fields #[Value.str (Str.ofString "_law_sets") 460, Value.str (Str.ofString "_law_sets") 461, Value.str (Str.ofString "/claim/cut.py") 462, Value.int 145 0, Value.int 2 0, Value.int 0 0, Value.int 0 0, Value.int 3 0, Value.ref 210, Value.bool true, Value.int 181 0, Value.ref 211, Value.none, Value.none, Value.none, Value.ref 212, Value.int 463 0, Value.int 145 0, Value.str (Str.ofString "/claim/cut.py") 464] }),
  (214, fnO 26 213 mL),
  (218, { cls := Value.type "code", data := Data.fields #[Value.str (Str.ofString "_law_derive") 466, Value.str (Str.ofString "_law_derive") 467, Value.str (Str.ofString "/claim/cut.py") 468, Value.int 174 0, Value.int 3 0, Value.int 0 0, Value.int 0 0, Value.int 3 0, Value.ref 215, Value.bool true, Value.int 181 0, Value.ref 216, Value.none, Value.none, Value.none, Value.ref 217, Value.int 469 0, Value.int 174 0, Value.str (Str.ofString "/claim/cut.py") 470] }),
  (219, fnO 27 218 mL),
  (223, { cls := Value.type "code", data := Data.fields #[Value.str (Str.ofString "_law_probe") 472, Value.str (Str.ofString "_law_probe") 473, Value.str (Str.ofString "/claim/cut.py") 474, Value.int 199 0, Value.int 4 0, Value.int 0 0, Value.int 0 0, Value.int 3 0, Value.ref 220, Value.bool true, Value.int 181 0, Value.ref 221, Value.none, Value.none, Value.none, Value.ref 222, Value.int 475 0, Value.int 199 0, Value.str (Str.ofString "/claim/cut.py") 476] }),
  (224, fnO 28 223 mL),
  (228, { cls := Value.type "code", data := Data.fields #[Value.str (Str.ofString "law") 478, Value.str (Str.ofString "law") 479, Value.str (Str.ofString "/claim/cut.py") 480, Value.int 215 0, Value.int 1 0, Value.int 0 0, Value.int 0 0, Value.int 3 0, Value.ref 225, Value.bool true, Value.int 181 0, Value.ref 226, Value.none, Value.none, Value.none, Value.ref 227, Value.int 481 0, Value.int 215 0, Value.str (Str.ofString "/claim/cut.py") 482] }),
  (229, fnO 29 228 mL)]
noncomputable def as3 : List Addr := [3, 23, 24, 25, 33, 34, 40, 41, 47, 48, 54, 55, 59, 60, 66, 67, 73, 74, 80, 81, 87, 88, 94, 95, 101, 102, 106, 107, 113, 114, 115, 116, 117, 118, 119, 120, 121, 122, 123, 124, 125, 126, 127, 128, 129, 130, 131, 132, 133, 134, 135, 136, 137, 138, 139, 140, 141, 142, 143, 144, 145, 146, 147, 148, 149, 150, 151, 152, 153, 154, 155, 156, 157, 158, 159, 160, 161, 162, 163, 164, 165, 166, 167, 168, 169, 170, 171, 172, 173, 174, 175, 176, 177, 178, 179, 180, 181, 182, 183, 184, 185, 189, 190, 196, 197, 203, 204, 208, 209, 213, 214, 218, 219, 223, 224, 228, 229]
theorem as3_eq (P : Params) : as3 = (K3 P).map (·.1) := by kernel_rfl
noncomputable def V3 : Program := view PySem.Challenge.pw_sx_yaugur_3 [1, 2, 3, 4, 5, 6, 7, 8, 9, 10, 11, 12, 13, 14, 16, 17, 18, 19, 20, 21, 22, 23, 24, 25, 26, 27, 28, 29]
end

section
set_option autoImplicit false
set_option maxRecDepth 100000
set_option maxHeartbeats 8000000
set_option Elab.async false
open PySem PyProof.Rows PySem.W

noncomputable abbrev hook3 : Hook := kHook K3 as3 as3_eq
noncomputable abbrev X3 (s : Shared) : Bool := xlAt V3 [] s && recOk (RowW.records Challenge.rw_sx_yaugur_3.row.toRowW) s
theorem dk3_ok : (defOf V3 (Str.ofString "law")).isSome = true := by kernel_rfl
noncomputable def dk3 : DefRec × List (Str × Expr) := (defOf V3 (Str.ofString "law")).get dk3_ok
theorem dk3_name : dk3.1.name = Str.ofString "law" := by kernel_rfl
theorem said3 : Challenge.rw_sx_yaugur_3.wellSaid = true := by
  rw [PySem.W.Fast.te9446332074065402090]
  unfold PySem.W.Fast.tw9446332074065402090 PySem.W.Fast.tw17960256430627541270
  repeat' with_reducible refine look_both ?_ ?_
  all_goals (try unfold PySem.W.Fast.tw2436336058641802641)
  repeat' with_reducible refine look_both ?_ ?_
  all_goals (try unfold PySem.W.Fast.tw12908688711261696721)
  repeat' with_reducible refine look_both ?_ ?_
  all_goals decide +kernel
theorem wit3 : Challenge.rw_sx_yaugur_3.row.toRowW.promised := by w_witness2
theorem ok3 : (chainsOk V3 && opensWell Challenge.rw_sx_yaugur_3.row.prog && (frees Challenge.rw_sx_yaugur_3.row.toRowW && Challenge.rw_sx_yaugur_3.row.within.isEmpty)) = true := by kernel_rfl
theorem bare3 : Challenge.rw_sx_yaugur_3.row.prog.bare := ⟨rfl, rfl, rfl, rfl, rfl, by kernel_rfl⟩
theorem def3 : defOf V3 Challenge.rw_sx_yaugur_3.row.name = some (dk3.1, dk3.2) := by kernel_rfl
theorem the3 : Challenge.rw_sx_yaugur_3.row.prog.theDef Challenge.rw_sx_yaugur_3.row.name = some (dk3.1.params, dk3.1.body, dk3.1.scope) := by kernel_rfl
theorem kw3 : kwWritten? dk3.1.params.kwonlyargs dk3.1.params.kw_defaults = some dk3.2 := by kernel_rfl
theorem left_of_run {p q : Program} {loose : List Str} {Xt : Shared → Bool} {α : Type} {Yf : Shared → α} {Ya : World → α} {N : Nat} (e : opening p = plainProg p.main.scope.names) (hN : Nat.ble 600 N = true) (f : ∀ s, fenceModules? p s = some s)
    (h : ∀ (w : World) (os : OsState), (topRun treeTable p w 11 (some (.ref 6)) N ⟨boot_heap w.params, #[], boot_drawn, boot_toks, os⟩ (topStub p)).map (fun s => ((staticsOk (importedModules p.main.body) (boot_heap w.params) s.heap && namesBound p s.heap && gensDone s && laidKept (boot_heap w.params) s.heap), Yf s)) = some (true, Ya w))
    (h' : ∀ (w : World) (os : OsState), (topRun treeTable p w 11 (some (.ref 6)) N ⟨boot_heap w.params, #[], boot_drawn, boot_toks, os⟩ (topStub p)).map (fun s => openSeen q loose (importedModules p.main.body) Xt true s) = some (openGood q loose)) : LeftO p q loose Xt Yf Ya N := fun w => by
  obtain ⟨⟨hh, gs, d, k, os⟩, e1, e2⟩ := Option.map_eq_some_iff.mp (boot_open e hN f w)
  simp only [Prod.mk.injEq] at e2
  obtain ⟨rfl, rfl, rfl, rfl⟩ := e2
  obtain ⟨s, h1, l⟩ := Option.map_eq_some_iff.mp (h w os)
  have h2 := h' w os
  rw [h1] at h2
  have l1 := (Prod.mk.inj l).1
  have z1 : ((boot_heap w.params).isNs mainGlobals && (#[] : Array GenState).size == 0) = true := by kernel_rfl
  have z2 : (boot_heap w.params).objs.size = 11 := by kernel_rfl
  have z3 : (boot_heap w.params).nsMap mainGlobals "__annotations__" = some (.ref 6) := by kernel_rfl
  have t : topFrom treeTable p w N ⟨boot_heap w.params, #[], boot_drawn, boot_toks, os⟩ = some s := by
    unfold topFrom
    dsimp only
    rw [z1, z2, z3, h1]
    show (match staticsOk (importedModules p.main.body) (boot_heap w.params) s.heap && namesBound p s.heap && gensDone s && laidKept (boot_heap w.params) s.heap with | true => _ | false => _) = _
    rw [l1]
  unfold openEnds
  rw [e1]
  show (topFrom treeTable p w N _).map _ = _
  rw [t]
  exact congrArg some (Prod.ext (Option.some.inj h2) (Prod.mk.inj l).2)
theorem run3a (w : World) (os : OsState) : (PySem.W.Fast.tw14082659384304107361 PySem.W.Fast.tw14364793385576792824 PySem.Challenge.pw_sx_yaugur_3 w 11 (some (.ref 6)) 2360 ⟨boot_heap w.params, #[], boot_drawn, boot_toks, os⟩ (topStub PySem.Challenge.pw_sx_yaugur_3)).map (fun s => ((staticsOk (importedModules PySem.Challenge.pw_sx_yaugur_3.main.body) (boot_heap w.params) s.heap && namesBound PySem.Challenge.pw_sx_yaugur_3 s.heap && gensDone s && laidKept (boot_heap w.params) s.heap), hook3.obs s)) = some (true, hook3.val w) := by kernel_rfl
theorem run3b (w : World) (os : OsState) : (PySem.W.Fast.tw14082659384304107361 PySem.W.Fast.tw14364793385576792824 PySem.Challenge.pw_sx_yaugur_3 w 11 (some (.ref 6)) 2360 ⟨boot_heap w.params, #[], boot_drawn, boot_toks, os⟩ (topStub PySem.Challenge.pw_sx_yaugur_3)).map (fun s => openSeen V3 [] (importedModules PySem.Challenge.pw_sx_yaugur_3.main.body) X3 true s) = some (openGood V3 []) := by kernel_rfl
theorem left3 : LeftO PySem.Challenge.pw_sx_yaugur_3 V3 [] X3 hook3.obs hook3.val 2360 :=
  left_of_run (by kernel_rfl) (by kernel_rfl) (fun s => by kernel_rfl) (fun w os => by rw [PySem.W.Fast.te14082659384304107361, PySem.W.Fast.te14364793385576792824]; exact run3a w os) fun w os => by rw [PySem.W.Fast.te14082659384304107361, PySem.W.Fast.te14364793385576792824]; exact run3b w os
theorem hd3 (walk : WalkO V3 [] (XL V3 []) hook3.says Challenge.rw_sx_yaugur_3.row.toRowW dk3.1 dk3.2 fun f vs => PySem.call f vs) : PySem.Challenge.rw_sx_yaugur_3.Holds :=
  holds_law said3 fun said => holds_open (q := V3) (loose := []) (Xt := X3) (XP := XL V3 []) (Yf := hook3.obs) (Ya := hook3.val) (YP := hook3.says) (N := 2360)
    left3 hook3.of hook3.keeps (fun s e => xl_of s (Bool.and_eq_true_iff.mp e).1) XL.keeps def3 the3 kw3 (fun s e => recFacts_of (Bool.and_eq_true_iff.mp e).2) (by rfl) said ok3 bare3 wit3 walk
end

section
set_option autoImplicit false
set_option linter.unusedVariables false
set_option maxRecDepth 100000
open PySem PyProof.Rows PySem.W

theorem fnDef_of {C : Cx} {f : Addr} {o : Obj} {fd : FuncData} {ps : List Str} {body : List Stmt} (ho : C.K.lookup f = some o) (hd : o.data = .func fd) (hc : codeIn C.K fd.code fd.qualname = true) (hb : fd.body = .stmts body) (h1 : fd.closure = []) (h2 : fd.globals = mainGlobals) (h3 : fd.builtins = builtinsNs)
    (h4 : ∀ vs : List Value, vs.length = ps.length → bindArgs fd ⟨vs, []⟩ = pure (ps.zip vs)) (h5 : ps.Nodup)
    (h6 : (ps.all fun x => fd.scope.names.lookup x == some .local || (fd.scope.names.lookup x == some .cell && ((cellsFrom 0 fd.scope.names []).lookup x).isSome)) = true)
    (h7 : ((cellsFrom 0 fd.scope.names []).all fun p => fd.scope.names.lookup p.1 != some .local) = true) (h8 : fd.scope.isCoroutine = false) (h9 : fd.scope.isGenerator = false) (h10 : fd.scope.kind = .function) (h11 : fd.scope.names.lookup (".acc" : Str) = none) : FnDef C f fd ps body :=
  ⟨⟨o, ho, hd⟩, fun h B => codeRec_of B.k hc, hb, h1, h2, h3, h4, h5, h6, h7, h8, h9, h10, h11⟩


noncomputable abbrev C3 (prog : Program) (w : World) (mg mb : Str → Option Value) (P : Params) : Cx := ⟨prog, w, mg, mb, K3 P⟩

structure G3 (prog : Program) (w : World) (mg mb : Str → Option Value) (P : Params) : Prop where
  base : ∃ h, Base (C3 prog w mg mb P) h
  blt : ∀ x : Str, x ≠ "__name__" → mb x = bootBuiltins x

section
variable {prog : Program} {w : World} {mg mb : Str → Option Value} {P : Params}
theorem G3.at (G : G3 prog w mg mb P) {x : Str} {v : Value} (e : nsIn (K3 P) mainGlobals x = some (some v)) : mg x = some v :=
  let ⟨_, B⟩ := G.base; mg_of B.k B.g e
theorem G3.no (G : G3 prog w mg mb P) {x : Str} (e : nsIn (K3 P) mainGlobals x = some none) : mg x = none :=
  let ⟨_, B⟩ := G.base; ns_none_of B.k B.g e
theorem G3.b (G : G3 prog w mg mb P) {env : Env} {x : Str} {v : Value} (h1 : isGlob env x = true) (h2 : nsIn (K3 P) mainGlobals x = some none) (h3 : bootBuiltins x = some v) (h4 : x ≠ "__name__") : Blt (C3 prog w mg mb P) env x v :=
  ⟨h1, G.no h2, (G.blt x h4).trans h3⟩
end
end

section
set_option autoImplicit false
set_option linter.unusedVariables false
set_option maxRecDepth 100000
open PySem PyProof.Rows PySem.W

noncomputable abbrev Rule := Str × List Str
noncomputable def sD (l : List Str) : PyData := .list (l.map .str)
noncomputable def rD (r : Rule) : PyData := .tuple [.str r.1, sD r.2]
noncomputable def gD (g : List Rule) : PyData := .list (g.map rD)

noncomputable def symOk (s : Str) : Bool := !(s == "" || (s == "$" || (s == "->" || false))) && !(hasSub " " s || (hasSub "\n" s || false))
noncomputable def ruleOk (r : Rule) : Bool := (r.1 :: r.2).all symOk
noncomputable def okG (g : List Rule) : Bool := !(g.length == 0) && g.all ruleOk

section
variable {prog : Program} {w : World} {mg mb : Str → Option Value} {P : Params}
theorem fn_grammar_ok (G : G3 prog w mg mb P) {k : Nat} (g : List Rule) (hg : g.length ≤ 1000) (hr : ∀ r ∈ g, r.2.length ≤ 1000) : FnOk (C3 prog w mg mb P) (k + 1) 34 [gD g] (.bool (okG g)) := by
  refine fn_intro (ps := ["g"]) (fnDef_of rfl rfl rfl rfl rfl rfl rfl (by ((intro vs h; rcases vs with _ | ⟨_, _ | ⟨_, _ | ⟨_, _ | ⟨_, _ | ⟨_, _ | ⟨_, _⟩⟩⟩⟩⟩⟩ <;> first | rfl | (simp at h; done)))) (by decide) rfl rfl rfl rfl rfl rfl) rfl fun A L s₀ Z₀ E hA hO hF => ?_
  have hsz : g.length ≤ sizeLine := Nat.le_trans hg (by decide)
  refine ex_cons (xs_if (c_eqI hA (e_len (n := g.length) (G.b rfl rfl PyProof.Rows.Boot.«len» (by decide)) (ev_var rfl rfl) rfl (by simp [lenD, gD]) hsz) (ev_int 0)) (fun hb => ?_) (fun hb => ?_))
  · refine ex_cons (xs_return (ev_bool false) ?_)
    have : g.length = 0 := by simpa using hb
    show Out.ret _ = Out.ret _
    simp [okG, this]
  · have hne : (g.length == 0) = false := by simpa using hb
    refine ex_nil ?_
    refine ex_cons (xs_for (k := 0) (fun i _ => (g.take i).all ruleOk = true) (src_list hA.hd (ev_var rfl rfl)) (fun _ => rfl) (by simp) (fun i Γ' hi hJ => ?_) (fun Γ' hJ => ?_))
    · have hi' : i < g.length := by simpa using hi
      rw [getD_map rD hi']
      have hr' : g[i].2.length ≤ 1000 := hr _ (List.getElem_mem hi')
      refine ⟨_, as_name rfl (hO _), ?_⟩
      refine ex_cons (xs_for (k := 0) (fun j _ => ((g[i].1 :: g[i].2).take j).all symOk = true)
        (src_list (ds := (g[i].1 :: g[i].2).map .str) hA.hd ((e_addL (ev_list (evs_cons (e_item (ev_var rfl rfl) (ev_int 0) rfl (by decide) (by decide) rfl) evs_nil rfl) (by show 1 ≤ sizeLine; decide)) (e_item (ev_var rfl rfl) (ev_int 1) rfl (by decide) (by decide) rfl) ?_).cast rfl)) (fun _ => rfl) (by simp) (fun j Γ'' hj hJ' => ?_) (fun Γ'' hJ' => ?_))
      · have : sizeLine = 16777216 := rfl
        simp; omega
      · have hj' : j < (g[i].1 :: g[i].2).length := by simpa using hj
        rw [getD_map PyData.str hj']
        refine ⟨_, as_name rfl (hO _), ?_⟩
        have fin : symOk (g[i].1 :: g[i].2)[j] = false → okG g = false := fun q => by
          have h1 : ruleOk g[i] = false := all_false_of symOk hj' q
          have h2 := all_false_of ruleOk hi' h1
          simp [okG, h2]
        refine ex_cons (xs_if (cd_or (c_eqS hA (ev_var rfl rfl) (ev_str _ (strOk_ofString _))) fun _ => cd_or (c_eqS hA (ev_var rfl rfl) (ev_str _ (strOk_ofString _))) fun _ => cd_or (c_eqS hA (ev_var rfl rfl) (ev_str _ (strOk_ofString _))) fun _ => cd_or0) (fun hb1 => ?_) (fun hb1 => ?_))
        · refine ex_cons (xs_return (ev_bool false) ?_)
          show Out.ret _ = Out.ret _
          rw [fin (by unfold symOk; rw [hb1]; rfl)]
        · refine ex_nil ?_
          refine ex_cons (xs_if (cd_or (c_inS hA (ev_str _ (strOk_ofString _)) (ev_var rfl rfl) rfl) fun _ => cd_or (c_inS hA (ev_str _ (strOk_ofString _)) (ev_var rfl rfl) rfl) fun _ => cd_or0) (fun hb2 => ?_) (fun hb2 => ?_))
          · refine ex_cons (xs_return (ev_bool false) ?_)
            show Out.ret _ = Out.ret _
            rw [fin (by unfold symOk; rw [hb1, hb2]; rfl)]
          · refine ex_nil (ex_nil ?_)
            show List.all _ _ = true
            rw [all_take_succ symOk hj', hJ', Bool.true_and]
            unfold symOk; rw [hb1, hb2]; rfl
      · refine ex_nil ?_
        show List.all _ _ = true
        rw [all_take_succ ruleOk hi', hJ, Bool.true_and]
        simpa [ruleOk] using hJ'
    · refine ex_cons (xs_return (ev_bool true) ?_)
      show Out.ret _ = Out.ret _
      have : g.all ruleOk = true := by simpa using hJ
      simp [okG, this, hne]
end
end

section
set_option autoImplicit false
set_option linter.unusedVariables false
set_option maxRecDepth 100000
open PySem PyProof.Rows PySem.W

noncomputable def lineOf (r : Rule) : Str := Str.join " " (r.1 :: "->" :: r.2)
structure Small (g : List Rule) : Prop where
  len : g.length ≤ 1000
  hd : ∀ r ∈ g, r.1.length ≤ 1000
  bl : ∀ r ∈ g, r.2.length ≤ 1000
  sy : ∀ r ∈ g, ∀ s ∈ r.2, s.length ≤ 1000
theorem sum_le {l : List Str} {n : Nat} (h : ∀ s ∈ l, s.length ≤ n) : (l.map (·.length)).sum ≤ l.length * n := by
  induction l with
  | nil => simp
  | cons a l ih =>
    have h1 := h a List.mem_cons_self
    have h2 := ih fun s hs => h s (List.mem_cons_of_mem _ hs)
    simp only [List.map_cons, List.sum_cons, List.length_cons, Nat.succ_mul]; omega

section
variable {prog : Program} {w : World} {mg mb : Str → Option Value} {P : Params}
theorem fn_grammar_text (G : G3 prog w mg mb P) {k : Nat} (g : List Rule) (hg : Small g) : FnOk (C3 prog w mg mb P) (k + 1) 107 [gD g] (sD (g.map lineOf)) := by
  refine fn_intro (ps := ["g"]) (fnDef_of rfl rfl rfl rfl rfl rfl rfl (by ((intro vs h; rcases vs with _ | ⟨_, _ | ⟨_, _ | ⟨_, _ | ⟨_, _ | ⟨_, _ | ⟨_, _⟩⟩⟩⟩⟩⟩ <;> first | rfl | (simp at h; done)))) (by decide) rfl rfl rfl rfl rfl rfl) rfl fun A L s₀ Z₀ E hA hO hF => ?_
  have hsl : sizeLine = 16777216 := rfl
  have h1 := hg.len
  refine ex_cons (xs_return ((e_comp g rD (fun r => [.str (lineOf r)]) ⟨rfl, rfl, rfl, rfl⟩ ((src_list hA.hd (ev_var rfl rfl)).cast (by simp) rfl) (fun _ => rfl) (by rw [flat_one]; simp; omega) fun L s₀ Z₀ r own hr => ?_).cast ?_) rfl)
  · refine turn_name true rfl (own _ rfl) rfl rfl (fun ds => rfl) (fun q => by cases q) (fun ds _ => inn_emit rfl ?_)
    have hr1 := hg.hd r hr
    have hr2 := hg.bl r hr
    have hr3 := sum_le (hg.sy r hr)
    have hr4 : r.2.length * 1000 ≤ 1000 * 1000 := Nat.mul_le_mul_right _ hr2
    refine e_join (ts := r.1 :: "->" :: r.2) (ev_str _ (strOk_ofString _)) ((e_addL (ev_list (evs_cons (e_item (ev_var rfl rfl) (ev_int 0) rfl (by decide) (by decide) rfl) (evs_cons (ev_str _ (strOk_ofString _)) evs_nil rfl) rfl) (by show 2 ≤ sizeLine; decide)) (e_item (ev_var rfl rfl) (ev_int 1) rfl (by decide) (by decide) rfl) ?_).cast rfl) rfl rfl rfl ?_
    · simp; omega
    · have e1 : (Str.ofString "->").length = 2 := by decide
      have e2 : (Str.ofString " ").length = 1 := by decide
      simp only [List.map_cons, List.sum_cons, List.length_cons, e1, e2]; omega
  · show PyData.list _ = PyData.list _
    rw [flat_one, List.map_map]; rfl
end
end

section
set_option autoImplicit false
set_option linter.unusedVariables false
set_option maxRecDepth 100000
open PySem PyProof.Rows PySem.W

noncomputable def wordsOf (l : Str) : List Str := Txt.split l " "
noncomputable def shapeOk (l : Str) : Bool := !(decide ((wordsOf l).length < 2) || (!((wordsOf l)[1]?.getD ("" : Str) == ("->" : Str)) || false))
noncomputable def parse (l : Str) : Rule := ((wordsOf l)[0]?.getD ("" : Str), (wordsOf l).drop 2)
noncomputable def msgAt (i : Nat) : Str := catAll Str.empty ["line ", Str.ofString (toString ((i : Int) + 1)), ": the second word is not ->"]
noncomputable def msgBad : Str := "there is no rule, or a symbol is empty, $ or ->, or holds a newline"
structure SmallL (ls : List Str) : Prop where
  len : ls.length ≤ 30
  ln : ∀ l ∈ ls, l.length ≤ 900

theorem excAt3 {P : Params} : ExcAtK (K3 P) 24 := fun h hk => by
  refine ⟨_, _, _, _, _, _, _, _, _, _, _, _, _, _, _, _, hk 24 _ rfl, .of_isNs (isNs_of_in (K := K3 P) hk (by kernel_rfl)), ?_, ?_⟩
  · exact nsMap_none_of_in (K := K3 P) hk (by kernel_rfl) (by kernel_rfl)
  · exact nsMap_none_of_in (K := K3 P) hk (by kernel_rfl) (by kernel_rfl)
end

section
set_option autoImplicit false
set_option linter.unusedVariables false
set_option maxRecDepth 100000
open PySem PyProof.Rows PySem.W

theorem mem_sum {l : List Str} {s : Str} (h : s ∈ l) : s.length ≤ (l.map (·.length)).sum := by
  induction l with
  | nil => cases h
  | cons a l ih =>
    rcases List.mem_cons.mp h with rfl | h
    · simp only [List.map_cons, List.sum_cons]; omega
    · have := ih h; simp only [List.map_cons, List.sum_cons]; omega
theorem words_small {l : Str} (h : l.length ≤ 900) : (wordsOf l).length ≤ 901 ∧ ∀ s ∈ wordsOf l, s.length ≤ 901 := by
  have := split_weight l " " (by decide)
  unfold wordsOf
  refine ⟨by omega, fun s hs => ?_⟩
  have := mem_sum hs
  omega
theorem parse_small {ls : List Str} (h : SmallL ls) : Small (ls.map parse) where
  len := by have := h.len; simp; omega
  hd := fun r hr => by
    obtain ⟨l, hl, rfl⟩ := List.mem_map.mp hr
    obtain ⟨h1, h2⟩ := words_small (h.ln l hl)
    show ((wordsOf l)[0]?.getD ("" : Str)).length ≤ 1000
    cases q : (wordsOf l)[0]? with
    | none => exact (by decide : (("" : Str).length : Nat) ≤ 1000)
    | some x => have := h2 x (List.mem_of_getElem? q); simp only [Option.getD_some]; omega
  bl := fun r hr => by
    obtain ⟨l, hl, rfl⟩ := List.mem_map.mp hr
    obtain ⟨h1, h2⟩ := words_small (h.ln l hl)
    show ((wordsOf l).drop 2).length ≤ 1000
    rw [List.length_drop]; omega
  sy := fun r hr s hs => by
    obtain ⟨l, hl, rfl⟩ := List.mem_map.mp hr
    obtain ⟨h1, h2⟩ := words_small (h.ln l hl)
    have := h2 s (List.mem_of_mem_drop hs); omega
theorem sliceD_from (ds : List PyData) (n : Nat) (h : n ≤ ds.length) : sliceD ds (some (n : Int)) none = ds.drop n := by
  unfold sliceD
  have : (some (n : Int)).elim 0 (clipAt ds.length) = n := by
    show clipAt ds.length (n : Int) = n
    unfold clipAt
    split <;> omega
  rw [this]
  show (ds.drop n).take (ds.length - n) = ds.drop n
  rw [List.take_of_length_le]; rw [List.length_drop]; exact Nat.le_refl _

theorem digits_small : ∀ i : Nat, i < 31 → (Str.ofString (toString ((i : Int) + 1))).length ≤ 10 := by decide +kernel

noncomputable def RetG (lines : List Str) (d : PyData) : Prop := (∀ l ∈ lines, shapeOk l = true) ∧ okG (lines.map parse) = true ∧ d = gD (lines.map parse)
noncomputable def RzG (lines : List Str) (msg : Str) : Prop :=
  (∃ i, ∃ h : i < lines.length, (∀ j (hj : j < i), shapeOk (lines[j]'(by omega)) = true) ∧ shapeOk lines[i] = false ∧ msg = msgAt i) ∨ ((∀ l ∈ lines, shapeOk l = true) ∧ okG (lines.map parse) = false ∧ msg = msgBad)
section
variable {prog : Program} {w : World} {mg mb : Str → Option Value} {P : Params}
theorem fn_gft (G : G3 prog w mg mb P) {k : Nat} (lines : List Str) (hs : SmallL lines) :
    (∀ d, (∀ d', RetG lines d' → d' = d) → (∀ msg, ¬ RzG lines msg) → FnOk (C3 prog w mg mb P) (k + 1 + 1) 114 [sD lines] d) ∧ (∀ msg, (∀ d, ¬ RetG lines d) → (∀ msg', RzG lines msg' → msg' = msg) → FnRz (C3 prog w mg mb P) (k + 1 + 1) 114 [sD lines] 24 msg) := by
  refine fn_any (ps := ["lines"]) (fnDef_of rfl rfl rfl rfl rfl rfl rfl (by ((intro vs h; rcases vs with _ | ⟨_, _ | ⟨_, _ | ⟨_, _ | ⟨_, _ | ⟨_, _ | ⟨_, _⟩⟩⟩⟩⟩⟩ <;> first | rfl | (simp at h; done)))) (by decide) rfl rfl rfl rfl rfl rfl) rfl fun A L s₀ Z₀ E hA hO hF hE hE' => ?_
  have hsl : sizeLine = 16777216 := rfl
  have hlen := hs.len
  refine ex_cons (xs_new rfl (hO _) ?_)
  refine ex_cons (xs_for (k := 0) (fun i Γ' => (∀ j (hj : j < i) (hl : j < lines.length), shapeOk lines[j] = true) ∧ Has Γ' [("g", .own ((lines.take i).map fun l => rD (parse l))), ("lines", .fz (sD lines))])
    (s_range (n := lines.length) hA.hd (G.b rfl rfl PyProof.Rows.Boot.«range» (by decide)) (e_len (n := lines.length) (G.b rfl rfl PyProof.Rows.Boot.«len» (by decide)) (ev_var rfl rfl) rfl (by simp [lenD, sD]) (by omega)) rfl (by omega)) (fun _ => rfl) ⟨fun j hj => by omega, Has.refl _⟩ (fun i Γ' hi hJ => ?_) (fun Γ' hJ => ?_))
  · obtain ⟨hJ1, hJ2⟩ := hJ
    refine ⟨_, as_name rfl (hO _), ex_has hJ2.cons ?_⟩
    have hli := hs.ln _ (List.getElem_mem hi)
    obtain ⟨hw1, hw2⟩ := words_small hli
    refine ex_cons (xs_assign (e_split (x := lines[i]) (e_item (ev_var rfl rfl) (ev_var rfl rfl) rfl (by omega) (by omega) (by simp [hi])) (ev_str _ (strOk_ofString _)) rfl rfl rfl (by decide) (by omega)) rfl (hO _) rfl ?_)
    have hshape : shapeOk lines[i] = !(decide (((wordsOf lines[i]).length : Int) < 2) || (!((wordsOf lines[i])[1]?.getD ("" : Str) == ("->" : Str)) || false)) := by
      unfold shapeOk; congr 2; simp only [decide_eq_decide]; omega
    refine ex_cons (xs_if (cd_or (c_lt hA (e_len (n := (wordsOf lines[i]).length) (G.b rfl rfl PyProof.Rows.Boot.«len» (by decide)) (ev_var rfl rfl) rfl (by simp [lenD, wordsOf]) (by omega)) (ev_int 2)) fun hb => cd_or (c_neS hA (e_item (d := .str ((wordsOf lines[i])[1]?.getD ("" : Str))) (ev_var rfl rfl) (ev_int 1) rfl (by decide) (by decide) ?_) (ev_str _ (strOk_ofString _))) fun _ => cd_or0) (fun hb => ?_) (fun hb => ?_))
    · have h2 : 1 < (wordsOf lines[i]).length := by
        have := of_decide_eq_false hb; omega
      show ((wordsOf lines[i]).map PyData.str)[1]? = _
      rw [List.getElem?_map, List.getElem?_eq_getElem h2]; rfl
    · have hbad : shapeOk lines[i] = false := by rw [hshape, hb]; rfl
      refine ex_cons (xs_raise hA rfl (G.at rfl) excAt3 (ev_fstr (xs := ["line ", Str.ofString (toString ((i : Int) + 1)), ": the second word is not ->"]) ⟨ev_str _ (strOk_ofString _), ev_field_int (μ := false) (e_addI (ev_var rfl rfl) (ev_int 1)) (by omega), ev_str _ (strOk_ofString _), trivial⟩ ?_) rfl (hE' _ (.inl ⟨i, hi, fun j hj => hJ1 j hj _, hbad, rfl⟩)))
      have h1 := digits_small i (by omega)
      have h2 : (Str.ofString "line ").length = 5 := by decide
      have h3 : (Str.ofString ": the second word is not ->").length = 27 := by decide
      simp only [List.map_cons, List.map_nil, List.sum_cons, List.sum_nil, h2, h3]; omega
    · have hok : shapeOk lines[i] = true := by rw [hshape, hb]; rfl
      have h2 : 2 ≤ (wordsOf lines[i]).length := by
        have := of_decide_eq_false (Bool.or_eq_false_iff.mp hb).1
        omega
      refine ex_nil ?_
      refine ex_cons (xs_append rfl rfl ?_ (ev_tuple (evs_cons (e_item (d := .str ((wordsOf lines[i])[0]?.getD ("" : Str))) (ev_var rfl rfl) (ev_int 0) rfl (by decide) (by decide) ?_) (evs_cons (ev_slice (ev_var rfl rfl) (o_some (ev_int 2)) o_none ?_) evs_nil rfl) rfl) (by show 2 ≤ sizeLine; decide)) rfl rfl rfl ?_)
      · simp only [List.length_map, List.length_take]; omega
      · have h2 : 0 < (wordsOf lines[i]).length := by omega
        show ((wordsOf lines[i]).map PyData.str)[0]? = _
        rw [List.getElem?_map, List.getElem?_eq_getElem h2]; rfl
      · show ((wordsOf lines[i]).map PyData.str).length ≤ _
        rw [List.length_map]; omega
      · refine ex_nil ⟨fun j hj hl => ?_, Has.add ?_ (Has.add rfl (Has.nil _))⟩
        · rcases Nat.lt_or_ge j i with q | q
          · exact hJ1 j q hl
          · have : j = i := by omega
            subst this; exact hok
        · show some (Ent.own _) = some (Ent.own _)
          congr 2
          rw [List.take_add_one, List.getElem?_eq_getElem hi, List.map_append]
          congr 1
          show [_] = [_]
          congr 1
          unfold rD parse
          have h3 := sliceD_from ((wordsOf lines[i]).map PyData.str) 2 (by rw [List.length_map]; omega)
          show PyData.tuple [PyData.str _, PyData.list (sliceD ((wordsOf lines[i]).map PyData.str) (some ((2 : Nat) : Int)) none)] = _
          rw [h3, ← List.map_drop]; rfl
  · obtain ⟨hJ1, hJ2⟩ := hJ
    have hall : ∀ l ∈ lines, shapeOk l = true := fun l hl => by
      obtain ⟨j, hj, rfl⟩ := List.getElem_of_mem hl
      exact hJ1 j hj hj
    rw [List.take_length] at hJ2
    refine ex_has hJ2 ?_
    have hsm := parse_small hs
    have hgd : PyData.list (lines.map fun l => rD (parse l)) = gD (lines.map parse) := by unfold gD; rw [List.map_map]; rfl
    refine ex_cons (xs_if (cd_not (c_bool (b := okG (lines.map parse)) ((ev_call (μ := false) hA rfl (G.at rfl) rfl rfl (evs_cons ((ev_own rfl rfl).cast hgd) evs_nil rfl) rfl (fn_grammar_ok G _ hsm.len hsm.bl)).ofFlat rfl) (fun _ => rfl))) (fun hb => ?_) (fun hb => ?_))
    · have hbad : okG (lines.map parse) = false := by simpa using hb
      exact ex_cons (xs_raise hA rfl (G.at rfl) excAt3 (ev_str _ (strOk_ofString _)) rfl (hE _ (.inr ⟨hall, hbad, rfl⟩)))
    · have hok : okG (lines.map parse) = true := by simpa using hb
      refine ex_nil (ex_freeze (x := "g") rfl (ex_cons (xs_return (ev_var rfl rfl) ⟨_, ⟨hall, hok, rfl⟩, ?_⟩)))
      rw [hgd]
end
end

section
set_option autoImplicit false
set_option linter.unusedVariables false
set_option maxRecDepth 100000
open PySem PyProof.Rows PySem.W

theorem sp_eq : (" " : Str) = ⟨#[32]⟩ := by decide
noncomputable abbrev noSp (s : Str) : Prop := (32 : Nat) ∉ s.cps.toList
theorem str_ext {a b : Str} (h : a.cps.toList = b.cps.toList) : a = b := by
  obtain ⟨⟨l⟩⟩ := a
  obtain ⟨⟨l'⟩⟩ := b
  simp only at h
  rw [h]
noncomputable def jl : List (List Nat) → List Nat
  | [] => []
  | [a] => a
  | a :: b :: r => a ++ 32 :: jl (b :: r)
theorem join_cps : ∀ l : List Str, (Str.join " " l).cps.toList = jl (l.map fun s => s.cps.toList)
  | [] => by decide
  | [a] => rfl
  | a :: b :: r => by
    have ih := join_cps (b :: r)
    have h : Str.join " " (a :: b :: r) = a ++ " " ++ Str.join " " (b :: r) := rfl
    rw [h, sp_eq] at *
    show ((a ++ (⟨#[32]⟩ : Str)) ++ Str.join ⟨#[32]⟩ (b :: r)).cps.toList = _
    rw [Str.cps_append, Str.cps_append]
    simp only [Array.toList_append, List.map_cons, jl]
    rw [ih]
    simp
theorem cut_inj {a b x y : List Nat} (ha : 32 ∉ a) (hb : 32 ∉ b) (h : a ++ 32 :: x = b ++ 32 :: y) : a = b ∧ x = y := by
  induction a generalizing b with
  | nil =>
    cases b with
    | nil => simp at h; exact ⟨rfl, h⟩
    | cons c b => simp at h; exact absurd (h.1 ▸ List.mem_cons_self) hb
  | cons c a ih =>
    cases b with
    | nil => simp at h; exact absurd (h.1 ▸ List.mem_cons_self) ha
    | cons c' b =>
      simp only [List.cons_append, List.cons.injEq] at h
      obtain ⟨rfl, h⟩ := h
      obtain ⟨rfl, h'⟩ := ih (fun q => ha (List.mem_cons_of_mem _ q)) (fun q => hb (List.mem_cons_of_mem _ q)) h
      exact ⟨rfl, h'⟩
theorem jl_inj : ∀ {A B : List (List Nat)}, A ≠ [] → B ≠ [] → (∀ a ∈ A, 32 ∉ a) → (∀ b ∈ B, 32 ∉ b) → jl A = jl B → A = B
  | [], _, h, _, _, _, _ => absurd rfl h
  | _ :: _, [], _, h, _, _, _ => absurd rfl h
  | [a], [b], _, _, _, _, h => by simp only [jl] at h; rw [h]
  | [a], b :: c :: r, _, _, ha, hb, h => by
    simp only [jl] at h
    exact absurd (h ▸ (by simp : 32 ∈ b ++ 32 :: jl (c :: r))) (ha a (by simp))
  | a :: c :: r, [b], _, _, ha, hb, h => by
    simp only [jl] at h
    exact absurd (h ▸ (by simp : 32 ∈ a ++ 32 :: jl (c :: r))) (hb b (by simp))
  | a :: c :: r, b :: c' :: r', _, _, ha, hb, h => by
    simp only [jl] at h
    obtain ⟨rfl, h'⟩ := cut_inj (ha a (by simp)) (hb b (by simp)) h
    have := jl_inj (A := c :: r) (B := c' :: r') (by simp) (by simp) (fun a q => ha a (List.mem_cons_of_mem _ q)) (fun a q => hb a (List.mem_cons_of_mem _ q)) h'
    rw [this]
theorem split_ne (x : Str) : Txt.split x " " ≠ [] := fun h => by
  have := split_weight x " " (by decide)
  have h2 := StrLaws.join_split x " "
  unfold Txt.split at h
  split at h
  · cases h
  · split at h
    · cases h
    · unfold Builtin.Str.partsBetween at h
      simp only [List.map_eq_nil_iff] at h
      rw [List.zip_eq_nil_iff] at h
      rcases h with h | h
      · cases h
      · simp at h
theorem words_join {ws : List Str} (h : ws ≠ []) (hs : ∀ s ∈ ws, noSp s) : wordsOf (Str.join " " ws) = ws := by
  have h1 := StrLaws.join_split (Str.join " " ws) " "
  have h2 : (Str.join " " (Txt.split (Str.join " " ws) " ")).cps.toList = (Str.join " " ws).cps.toList := congrArg (fun s : Str => s.cps.toList) h1
  rw [join_cps, join_cps] at h2
  have h3 := jl_inj (by simpa using split_ne _) (by simpa using h) (fun a ha => by
    obtain ⟨s, hs', rfl⟩ := List.mem_map.mp ha
    rw [sp_eq] at hs'
    exact StrLaws.split_free _ 32 s hs') (fun a ha => by
    obtain ⟨s, hs', rfl⟩ := List.mem_map.mp ha
    exact hs s hs') h2
  unfold wordsOf
  exact (List.map_inj_right fun a b q => str_ext q).mp h3
theorem join_cons {a : Str} {l : List Str} (h : l ≠ []) : Str.join " " (a :: l) = a ++ " " ++ Str.join " " l := by
  cases l with
  | nil => exact absurd rfl h
  | cons b r => rfl
end

section
set_option autoImplicit false
set_option linter.unusedVariables false
set_option maxRecDepth 100000
open PySem PyProof.Rows PySem.W

noncomputable def addNew (acc : List Str) (s : Str) : List Str := if acc.contains s then acc else acc ++ [s]
noncomputable def dd (l : List Str) : List Str := l.foldl addNew []
noncomputable def headsOf (g : List Rule) : List Str := dd (g.map (·.1))
theorem addNew_len (acc : List Str) (s : Str) : (addNew acc s).length ≤ acc.length + 1 := by unfold addNew; split <;> simp
theorem foldNew_len (l acc : List Str) : (l.foldl addNew acc).length ≤ acc.length + l.length := by
  induction l generalizing acc with
  | nil => simp
  | cons a l ih => have := ih (addNew acc a); have := addNew_len acc a; rw [List.foldl_cons, List.length_cons]; omega
theorem dd_len (l : List Str) : (dd l).length ≤ l.length := by have := foldNew_len l []; simpa [dd] using this
theorem dd_snoc (l : List Str) (s : Str) : dd (l ++ [s]) = addNew (dd l) s := by unfold dd; rw [List.foldl_append]; rfl

section
variable {prog : Program} {w : World} {mg mb : Str → Option Value} {P : Params}
theorem fn_heads_of (G : G3 prog w mg mb P) {k : Nat} (g : List Rule) (hg : g.length ≤ 1000) : FnOk (C3 prog w mg mb P) (k + 1) 41 [gD g] (sD (headsOf g)) := by
  refine fn_intro (ps := ["g"]) (fnDef_of rfl rfl rfl rfl rfl rfl rfl (by ((intro vs h; rcases vs with _ | ⟨_, _ | ⟨_, _ | ⟨_, _ | ⟨_, _ | ⟨_, _ | ⟨_, _⟩⟩⟩⟩⟩⟩ <;> first | rfl | (simp at h; done)))) (by decide) rfl rfl rfl rfl rfl rfl) rfl fun A L s₀ Z₀ E hA hO hF => ?_
  have hsl : sizeLine = 16777216 := rfl
  refine ex_cons (xs_new rfl (hO _) ?_)
  refine ex_cons (xs_for (k := 0) (fun i Γ' => Has Γ' [("heads", .own ((headsOf (g.take i)).map .str))]) (src_list (ds := g.map rD) hA.hd (ev_var rfl rfl)) (fun _ => rfl) (Has.add rfl (Has.nil _)) (fun i Γ' hi hJ => ?_) (fun Γ' hJ => ?_))
  · have hi' : i < g.length := by simpa using hi
    rw [getD_map rD hi']
    have hlen := dd_len ((g.take i).map (·.1))
    simp only [List.length_map, List.length_take] at hlen
    have hstep : headsOf (g.take (i + 1)) = addNew (headsOf (g.take i)) g[i].1 := by
      unfold headsOf
      rw [List.take_add_one, List.getElem?_eq_getElem hi', List.map_append]
      exact dd_snoc _ _
    refine ⟨_, as_name rfl (hO _), ex_has hJ.cons ?_⟩
    refine ex_cons (xs_if (c_notInL hA (e_item (ev_var rfl rfl) (ev_int 0) rfl (by decide) (by decide) rfl) (ev_own rfl rfl) rfl) (fun hb => ?_) (fun hb => ?_))
    · refine ex_cons (xs_append rfl rfl (by rw [List.length_map]; unfold headsOf; omega) (e_item (ev_var rfl rfl) (ev_int 0) rfl (by decide) (by decide) rfl) rfl rfl rfl (ex_nil (ex_nil (Has.add ?_ (Has.nil _)))))
      show some (Ent.own _) = some (Ent.own _)
      have hb' : (headsOf (g.take i)).contains g[i].1 = false := by simpa using hb
      rw [hstep, addNew, if_neg (by rw [hb']; decide), List.map_append]; rfl
    · refine ex_nil (ex_nil (Has.add ?_ (Has.nil _)))
      have hb' : (headsOf (g.take i)).contains g[i].1 = true := by simpa using hb
      rw [hstep, addNew, if_pos hb']; rfl
  · rw [show (g.map rD).length = g.length by simp, List.take_length] at hJ
    exact ex_has hJ (ex_freeze (x := "heads") rfl (ex_cons (xs_return (ev_var rfl rfl) rfl)))

noncomputable def newToks (heads : List Str) (acc : List Str) (s : Str) : List Str := if !heads.contains s && !acc.contains s then acc ++ [s] else acc
end
end

section
set_option autoImplicit false
set_option linter.unusedVariables false
set_option maxRecDepth 100000
open PySem PyProof.Rows PySem.W PySem.Spec PyProof.V

noncomputable def leS (a b : Str) : Bool := !ltCps b.cps.toList a.cps.toList
theorem leS_iff (a b : Str) : leS a b = true ↔ a.cps.toList ≤ b.cps.toList := by
  unfold leS
  rw [ltCps_eq]
  simp
theorem leS_trans (a b c : Str) (h : leS a b = true) (h' : leS b c = true) : leS a c = true := by
  rw [leS_iff] at *; exact List.le_trans h h'
theorem leS_total (a b : Str) : (leS a b || leS b a) = true := by
  rw [Bool.or_eq_true, leS_iff, leS_iff]; exact List.le_total _ _
theorem leS_antisymm (a b : Str) (h : leS a b = true) (h' : leS b a = true) : a = b := by
  rw [leS_iff] at *; exact str_ext (List.le_antisymm h h')
noncomputable def srt (l : List Str) : List Str := l.mergeSort leS
theorem rising_pairwise : ∀ (l : List Str) (p : Str), risingS p l = true → (p :: l).Pairwise fun a b => leS a b = true
  | [], p, _ => by simp
  | x :: r, p, h => by
    simp only [risingS, Bool.and_eq_true] at h
    have hx : leS p x = true := h.1
    have ih := rising_pairwise r x h.2
    refine List.Pairwise.cons (fun y hy => ?_) ih
    rcases List.mem_cons.mp hy with rfl | hy
    · exact hx
    · exact leS_trans _ _ _ hx (List.rel_of_pairwise_cons ih hy)
theorem sorted_pairwise {l : List Str} (h : sortedS l = true) : l.Pairwise fun a b => leS a b = true := by
  cases l with
  | nil => exact .nil
  | cons x r => exact rising_pairwise r x h
theorem srt_pairwise (l : List Str) : (srt l).Pairwise fun a b => leS a b = true := List.pairwise_mergeSort leS_trans leS_total l
theorem srt_perm (l : List Str) : (srt l).Perm l := List.mergeSort_perm l _
theorem perm_sorted_eq {a b : List Str} (ha : a.Pairwise fun a b => leS a b = true) (hb : b.Pairwise fun a b => leS a b = true) (p : a.Perm b) : a = b :=
  List.Perm.eq_of_pairwise (fun x y _ _ h h' => leS_antisymm x y h h') ha hb p
theorem sorted_unique {l ss' : List Str} (p : ss'.Perm l) (h : sortedS ss' = true) : ss' = srt l :=
  perm_sorted_eq (sorted_pairwise h) (srt_pairwise l) (p.trans (srt_perm l).symm)
theorem srt_len (l : List Str) : (srt l).length = l.length := (srt_perm l).length_eq

section
variable {C : Cx} {A : Around} {env : Env} {Γ : Tab} {e : Expr} {μ : Bool}
theorem e_srt {x : Str} {p pos : Pos} {ss : List Str} (hb : Blt C env x (.builtin "sorted")) (h : Ev C A env Γ e false (.list (ss.map .str))) (hn : notStar e = true) (h64 : ss.length < 64) : Ev C A env Γ (.Call (.Name x p) [e] [] pos) μ (sD (srt ss)) :=
  e_sorted hb h hn h64 fun _ a b => sorted_unique a b
end
end

section
set_option autoImplicit false
set_option linter.unusedVariables false
set_option maxRecDepth 100000
open PySem PyProof.Rows PySem.W

theorem newToks_len (hs acc : List Str) (s : Str) : (newToks hs acc s).length ≤ acc.length + 1 := by unfold newToks; split <;> simp
theorem foldToks_len (hs l acc : List Str) : (l.foldl (newToks hs) acc).length ≤ acc.length + l.length := by
  induction l generalizing acc with
  | nil => simp
  | cons a l ih => have := ih (newToks hs acc a); have := newToks_len hs acc a; rw [List.foldl_cons, List.length_cons]; omega
noncomputable def toksUpTo (hs : List Str) (g : List Rule) : List Str := g.foldl (fun acc r => r.2.foldl (newToks hs) acc) []
theorem toksUpTo_snoc (hs : List Str) (g : List Rule) (r : Rule) : toksUpTo hs (g ++ [r]) = r.2.foldl (newToks hs) (toksUpTo hs g) := by unfold toksUpTo; rw [List.foldl_append]; rfl
theorem toksUpTo_len (hs : List Str) (g : List Rule) (n : Nat) (hb : ∀ r ∈ g, r.2.length ≤ n) : (toksUpTo hs g).length ≤ g.length * n := by
  have key : ∀ (g : List Rule) (acc : List Str), (∀ r ∈ g, r.2.length ≤ n) → (g.foldl (fun acc r => r.2.foldl (newToks hs) acc) acc).length ≤ acc.length + g.length * n := by
    intro g
    induction g with
    | nil => intro acc _; simp
    | cons r g ih =>
      intro acc hb
      have h1 := ih (r.2.foldl (newToks hs) acc) fun r hr => hb r (List.mem_cons_of_mem _ hr)
      have h2 := foldToks_len hs r.2 acc
      have h3 := hb r List.mem_cons_self
      rw [List.foldl_cons, List.length_cons, Nat.succ_mul]; omega
  have := key g [] hb
  simpa [toksUpTo] using this

section
variable {prog : Program} {w : World} {mg mb : Str → Option Value} {P : Params}
theorem fn_tokens_of (G : G3 prog w mg mb P) {k : Nat} (g : List Rule) (hg : g.length ≤ 15) (hb : ∀ r ∈ g, r.2.length ≤ 4) : FnOk (C3 prog w mg mb P) (k + 1 + 1) 48 [gD g] (sD (srt (toksUpTo (headsOf g) g))) := by
  refine fn_intro (ps := ["g"]) (fnDef_of rfl rfl rfl rfl rfl rfl rfl (by ((intro vs h; rcases vs with _ | ⟨_, _ | ⟨_, _ | ⟨_, _ | ⟨_, _ | ⟨_, _ | ⟨_, _⟩⟩⟩⟩⟩⟩ <;> first | rfl | (simp at h; done)))) (by decide) rfl rfl rfl rfl rfl rfl) rfl fun A L s₀ Z₀ E hA hO hF => ?_
  have hsl : sizeLine = 16777216 := rfl
  refine ex_cons (xs_assign (ev_call hA rfl (G.at rfl) rfl rfl (evs_cons (ev_var rfl rfl) evs_nil rfl) rfl (fn_heads_of G g (by omega))) rfl (hO _) rfl ?_)
  refine ex_cons (xs_new rfl (hO _) ?_)
  have hlen : ∀ i, (toksUpTo (headsOf g) (g.take i)).length ≤ 60 := fun i => by
    have := toksUpTo_len (headsOf g) (g.take i) 4 fun r hr => hb r (List.mem_of_mem_take hr)
    have h2 : (g.take i).length ≤ 15 := by rw [List.length_take]; omega
    omega
  refine ex_cons (xs_for (k := 0) (fun i Γ' => Has Γ' [("found", .own ((toksUpTo (headsOf g) (g.take i)).map .str)), ("heads", .fz (sD (headsOf g)))]) (src_list (ds := g.map rD) hA.hd (ev_var rfl rfl)) (fun _ => rfl) (Has.add rfl (Has.add rfl (Has.nil _))) (fun i Γ' hi hJ => ?_) (fun Γ' hJ => ?_))
  · have hi' : i < g.length := by simpa using hi
    rw [getD_map rD hi']
    have hl := hlen i
    have hbi := hb _ (List.getElem_mem hi')
    have hstep : toksUpTo (headsOf g) (g.take (i + 1)) = g[i].2.foldl (newToks (headsOf g)) (toksUpTo (headsOf g) (g.take i)) := by
      rw [List.take_add_one, List.getElem?_eq_getElem hi']; exact toksUpTo_snoc _ _ _
    generalize toksUpTo (headsOf g) (g.take i) = acc0 at *
    refine ⟨_, as_name rfl (hO _), ex_has hJ.cons ?_⟩
    refine ex_cons (xs_for (k := 0) (fun j Γ' => Has Γ' [("found", .own (((g[i].2.take j).foldl (newToks (headsOf g)) acc0).map .str)), ("heads", .fz (sD (headsOf g)))]) (src_list (ds := g[i].2.map .str) hA.hd (e_item (ev_var rfl rfl) (ev_int 1) rfl (by decide) (by decide) rfl)) (fun _ => rfl) (Has.add rfl (Has.add rfl (Has.nil _))) (fun j Γ'' hj hJ' => ?_) (fun Γ'' hJ' => ?_))
    · have hj' : j < g[i].2.length := by simpa using hj
      rw [getD_map PyData.str hj']
      have hl2 := foldToks_len (headsOf g) (g[i].2.take j) acc0
      have hl3 : (g[i].2.take j).length ≤ 4 := by rw [List.length_take]; omega
      have hst : (g[i].2.take (j + 1)).foldl (newToks (headsOf g)) acc0 = newToks (headsOf g) ((g[i].2.take j).foldl (newToks (headsOf g)) acc0) g[i].2[j] := by
        rw [List.take_add_one, List.getElem?_eq_getElem hj', List.foldl_append]; rfl
      generalize (g[i].2.take j).foldl (newToks (headsOf g)) acc0 = acc at *
      refine ⟨_, as_name rfl (hO _), ex_has hJ'.cons ?_⟩
      refine ex_cons (xs_if (cd_and (c_notInL hA (ev_var rfl rfl) (ev_var rfl rfl) rfl) fun _ => cd_and (c_notInL hA (ev_var rfl rfl) (ev_own rfl rfl) rfl) fun _ => cd_and0) (fun hb => ?_) (fun hb => ?_))
      · refine ex_cons (xs_append rfl rfl (by rw [List.length_map]; omega) (ev_var rfl rfl) rfl rfl rfl (ex_nil (ex_nil (Has.add ?_ (Has.add rfl (Has.nil _))))))
        show some (Ent.own _) = some (Ent.own _)
        rw [hst, newToks, if_pos (by simpa using hb), List.map_append]; rfl
      · refine ex_nil (ex_nil (Has.add ?_ (Has.add rfl (Has.nil _))))
        rw [hst, newToks, if_neg (by intro q; rw [Bool.and_true, q] at hb; cases hb)]; rfl
    · rw [show (g[i].2.map PyData.str).length = g[i].2.length by simp, List.take_length] at hJ'
      refine ex_nil ?_
      rw [hstep]; exact hJ'
  · rw [show (g.map rD).length = g.length by simp, List.take_length] at hJ
    have hl := hlen g.length
    rw [List.take_length] at hl
    exact ex_has hJ (ex_cons (xs_return (e_srt (G.b rfl rfl PyProof.Rows.Boot.«sorted» (by decide)) (ev_own rfl rfl) rfl (by omega)) rfl))

theorem fn_merged (G : G3 prog w mg mb P) {k : Nat} (a b : List Str) (hl : a.length + b.length < 64) : FnNew (C3 prog w mg mb P) (k + 1) 55 [sD a, sD b] ((srt (dd (a ++ b))).map .str) := by
  refine fnNew_intro (ps := ["a", "b"]) (fnDef_of rfl rfl rfl rfl rfl rfl rfl (by ((intro vs h; rcases vs with _ | ⟨_, _ | ⟨_, _ | ⟨_, _ | ⟨_, _ | ⟨_, _ | ⟨_, _⟩⟩⟩⟩⟩⟩ <;> first | rfl | (simp at h; done)))) (by decide) rfl rfl rfl rfl rfl rfl) rfl fun A L s₀ Z₀ E hA hO hF => ?_
  have hsl : sizeLine = 16777216 := rfl
  refine ex_cons (xs_new rfl (hO _) ?_)
  refine ex_cons (xs_for (k := 0) (fun i Γ' => Has Γ' [("union", .own ((dd ((a ++ b).take i)).map .str))]) (src_list (ds := (a ++ b).map .str) hA.hd ((e_addL (a := a.map .str) (b := b.map .str) (ev_var rfl rfl) (ev_var rfl rfl) (by simp; omega)).cast (by rw [List.map_append]))) (fun _ => rfl) (Has.add rfl (Has.nil _)) (fun i Γ' hi hJ => ?_) (fun Γ' hJ => ?_))
  · have hi' : i < (a ++ b).length := by simpa using hi
    rw [getD_map PyData.str hi']
    have hlen := dd_len ((a ++ b).take i)
    rw [List.length_take, List.length_append] at hlen
    have hst : dd ((a ++ b).take (i + 1)) = addNew (dd ((a ++ b).take i)) (a ++ b)[i] := by
      rw [List.take_add_one, List.getElem?_eq_getElem hi']; exact dd_snoc _ _
    refine ⟨_, as_name rfl (hO _), ex_has hJ.cons ?_⟩
    refine ex_cons (xs_if (c_notInL hA (ev_var rfl rfl) (ev_own rfl rfl) rfl) (fun hb => ?_) (fun hb => ?_))
    · refine ex_cons (xs_append rfl rfl (by rw [List.length_map]; omega) (ev_var rfl rfl) rfl rfl rfl (ex_nil (ex_nil (Has.add ?_ (Has.nil _)))))
      show some (Ent.own _) = some (Ent.own _)
      have hb' : (dd ((a ++ b).take i)).contains (a ++ b)[i] = false := by simpa using hb
      rw [hst, addNew, if_neg (by rw [hb']; decide), List.map_append]; rfl
    · refine ex_nil (ex_nil (Has.add ?_ (Has.nil _)))
      have hb' : (dd ((a ++ b).take i)).contains (a ++ b)[i] = true := by simpa using hb
      rw [hst, addNew, if_pos hb']; rfl
  · rw [show ((a ++ b).map PyData.str).length = (a ++ b).length by simp, List.take_length] at hJ
    have hlen := dd_len (a ++ b)
    rw [List.length_append] at hlen
    exact ex_has hJ (ex_cons (xs_returnN (evn_sorted (G.b rfl rfl PyProof.Rows.Boot.«sorted» (by decide)) (ev_own rfl rfl) rfl (by omega) fun _ p q => sorted_unique p q) rfl))
end
end

section
set_option autoImplicit false
set_option linter.unusedVariables false
set_option maxRecDepth 100000
open PySem PyProof.Rows PySem.W

noncomputable def hbTest (given f : List Str) (r : Rule) : Bool := !f.contains r.1 && r.2.all fun s => given.contains s || f.contains s
noncomputable def hbStep (given : List Str) (p : List Str × Bool) (r : Rule) : List Str × Bool := if hbTest given p.1 r then (p.1 ++ [r.1], true) else p
noncomputable def hbPass (given : List Str) (g : List Rule) (f : List Str) : List Str × Bool := g.foldl (hbStep given) (f, false)
noncomputable def hbFin (given : List Str) (g : List Rule) : Nat → List Str → Bool → List Str
  | 0, f, _ => f
  | n + 1, f, c => if c then hbFin given g n (hbPass given g f).1 (hbPass given g f).2 else f
noncomputable def hbOf (g : List Rule) (given : List Str) : List Str := hbFin given g (g.length + 1) [] true
theorem hbFin_false (given : List Str) (g : List Rule) (n : Nat) (f : List Str) : hbFin given g n f false = f := by cases n <;> simp [hbFin]
noncomputable def hbLeft (g : List Rule) (f : List Str) : Nat := (g.filter fun r => !f.contains r.1).length
theorem filter_le {α : Type} (p q : α → Bool) (l : List α) (h : ∀ x ∈ l, p x = true → q x = true) : (l.filter p).length ≤ (l.filter q).length := by
  induction l with
  | nil => simp
  | cons a l ih =>
    have ih' := ih fun x hx => h x (List.mem_cons_of_mem _ hx)
    rw [List.filter_cons, List.filter_cons]
    cases hp : p a with
    | true => rw [h a List.mem_cons_self hp]; simp; omega
    | false => cases q a <;> simp <;> omega
theorem filter_lt {α : Type} (p q : α → Bool) (l : List α) (h : ∀ x ∈ l, p x = true → q x = true) {a : α} (ha : a ∈ l) (hp : p a = false) (hq : q a = true) : (l.filter p).length < (l.filter q).length := by
  induction l with
  | nil => cases ha
  | cons b l ih =>
    have hl := filter_le p q l fun x hx => h x (List.mem_cons_of_mem _ hx)
    rw [List.filter_cons, List.filter_cons]
    rcases List.mem_cons.mp ha with rfl | ha
    · rw [hp, hq]; simp; omega
    · have := ih (fun x hx => h x (List.mem_cons_of_mem _ hx)) ha
      cases hpb : p b with
      | true => rw [h b List.mem_cons_self hpb]; simp; omega
      | false => cases q b <;> simp <;> omega
theorem hbLeft_mono {g : List Rule} {f f' : List Str} (h : ∀ x ∈ f, x ∈ f') : hbLeft g f' ≤ hbLeft g f := filter_le _ _ _ fun r _ hr => by
  simp only [Bool.not_eq_true', List.contains_eq_mem, decide_eq_false_iff_not] at hr ⊢
  exact fun q => hr (h _ q)
theorem hbStep_sub (given : List Str) (p : List Str × Bool) (r : Rule) : ∀ x ∈ p.1, x ∈ (hbStep given p r).1 := fun x hx => by
  unfold hbStep; split
  · exact List.mem_append_left _ hx
  · exact hx
theorem hbFold_sub (given : List Str) : ∀ (g : List Rule) (p : List Str × Bool), ∀ x ∈ p.1, x ∈ (g.foldl (hbStep given) p).1
  | [], _, _, hx => hx
  | r :: g, p, x, hx => hbFold_sub given g (hbStep given p r) x (hbStep_sub given p r x hx)
theorem hbFold_left (given : List Str) (G : List Rule) : ∀ (g : List Rule) (p : List Str × Bool), (∀ r ∈ g, r ∈ G) → p.2 = false → (g.foldl (hbStep given) p).2 = true → hbLeft G (g.foldl (hbStep given) p).1 < hbLeft G p.1
  | [], p, _, hp, h => by rw [List.foldl_nil, hp] at h; cases h
  | r :: g, p, hin, hp, h => by
    rw [List.foldl_cons] at h ⊢
    by_cases ht : hbTest given p.1 r = true
    · have e : hbStep given p r = (p.1 ++ [r.1], true) := by unfold hbStep; rw [if_pos ht]
      rw [e] at h ⊢
      have h1 := hbLeft_mono (g := G) (hbFold_sub given g (p.1 ++ [r.1], true))
      refine Nat.lt_of_le_of_lt h1 ?_
      have hnc : p.1.contains r.1 = false := by unfold hbTest at ht; simp only [Bool.and_eq_true] at ht; simpa using ht.1
      refine filter_lt _ _ _ (fun x _ hx => ?_) (hin r List.mem_cons_self) ?_ (by rw [hnc]; rfl)
      · simp only [Bool.not_eq_true', List.contains_eq_mem, decide_eq_false_iff_not, List.mem_append] at hx ⊢
        exact fun q => hx (.inl q)
      · simp
    · have e : hbStep given p r = p := by unfold hbStep; rw [if_neg ht]
      rw [e] at h ⊢
      exact hbFold_left given G g p (fun r hr => hin r (List.mem_cons_of_mem _ hr)) hp h
theorem hbFold_same (given : List Str) : ∀ (g : List Rule) (p : List Str × Bool), (g.foldl (hbStep given) p).2 = false → g.foldl (hbStep given) p = p ∧ ∀ r ∈ g, hbTest given p.1 r = false
  | [], _, _ => ⟨rfl, fun r hr => by cases hr⟩
  | r :: g, p, h => by
    rw [List.foldl_cons] at h ⊢
    have key : ∀ (g : List Rule) (q : List Str × Bool), q.2 = true → (g.foldl (hbStep given) q).2 = true := by
      intro g
      induction g with
      | nil => intro q h; exact h
      | cons r g ih => intro q h; exact ih _ (by unfold hbStep; split <;> simp_all)
    by_cases ht : hbTest given p.1 r = true
    · have e : hbStep given p r = (p.1 ++ [r.1], true) := by unfold hbStep; rw [if_pos ht]
      rw [e, key g _ rfl] at h; cases h
    · have e : hbStep given p r = p := by unfold hbStep; rw [if_neg ht]
      rw [e] at h ⊢
      obtain ⟨h1, h2⟩ := hbFold_same given g p h
      refine ⟨h1, fun r' hr' => ?_⟩
      rcases List.mem_cons.mp hr' with rfl | hr'
      · simpa using ht
      · exact h2 r' hr'
theorem hbStep_inv (given : List Str) (G : List Rule) (p : List Str × Bool) {r : Rule} (hr : r ∈ G) : (hbStep given p r).1.length + hbLeft G (hbStep given p r).1 ≤ p.1.length + hbLeft G p.1 := by
  by_cases ht : hbTest given p.1 r = true
  · have e : hbStep given p r = (p.1 ++ [r.1], true) := by unfold hbStep; rw [if_pos ht]
    rw [e]
    have hnc : p.1.contains r.1 = false := by unfold hbTest at ht; simp only [Bool.and_eq_true] at ht; simpa using ht.1
    have : hbLeft G (p.1 ++ [r.1]) < hbLeft G p.1 := by
      refine filter_lt _ _ _ (fun x _ hx => ?_) hr ?_ (by rw [hnc]; rfl)
      · simp only [Bool.not_eq_true', List.contains_eq_mem, decide_eq_false_iff_not, List.mem_append] at hx ⊢
        exact fun q => hx (.inl q)
      · simp
    rw [List.length_append]; simp only [List.length_cons, List.length_nil]; omega
  · have e : hbStep given p r = p := by unfold hbStep; rw [if_neg ht]
    rw [e]; exact Nat.le_refl _
theorem hbFold_inv (given : List Str) (G : List Rule) : ∀ (g : List Rule) (p : List Str × Bool), (∀ r ∈ g, r ∈ G) → (g.foldl (hbStep given) p).1.length + hbLeft G (g.foldl (hbStep given) p).1 ≤ p.1.length + hbLeft G p.1
  | [], _, _ => Nat.le_refl _
  | r :: g, p, h => Nat.le_trans (hbFold_inv given G g (hbStep given p r) fun r hr => h r (List.mem_cons_of_mem _ hr)) (hbStep_inv given G p (h r List.mem_cons_self))

section
variable {C : Cx} {A : Around} {env : Env} {Γ Γe : Tab} {e : Expr} {μ : Bool} {d : PyData}
theorem In.has {Z₀ Z : Addr → Prop} {m : Str → Option Value} {h : Heap} (I : In C A env Z₀ Z Γ m h) (hs : Has Γ Γe) : In C A env Z₀ Z Γe m h := ⟨I.fn, I.vars, fun x e l => I.ents x e (hs x e l), I.base, I.z, I.fr, I.zc, I.cd⟩
theorem Cd.has {b : Bool} (h : Cd C A env Γe e b) (hs : Has Γ Γe) : Cd C A env Γ e b := fun E s m Z₀ Z I => h E s m Z₀ Z (I.has hs)
theorem Ev.has (h : Ev C A env Γe e μ d) (hs : Has Γ Γe) : Ev C A env Γ e μ d := fun E s m Z₀ Z I => h E s m Z₀ Z (I.has hs)
end

section
variable {prog : Program} {w : World} {mg mb : Str → Option Value} {P : Params}
theorem fn_hbf (G : G3 prog w mg mb P) {k : Nat} (g : List Rule) (given : List Str) (hg : g.length ≤ 15) (hb : ∀ r ∈ g, r.2.length ≤ 100) :
    FnOk (C3 prog w mg mb P) (k + 1) 60 [gD g, sD given] (sD (srt (hbOf g given))) := by
  refine fn_intro (ps := ["g", "given"]) (fnDef_of rfl rfl rfl rfl rfl rfl rfl (by ((intro vs h; rcases vs with _ | ⟨_, _ | ⟨_, _ | ⟨_, _ | ⟨_, _ | ⟨_, _ | ⟨_, _⟩⟩⟩⟩⟩⟩ <;> first | rfl | (simp at h; done)))) (by decide) rfl rfl rfl rfl rfl rfl) rfl fun A L s₀ Z₀ E hA hO hF => ?_
  have hsl : sizeLine = 16777216 := rfl
  refine ex_cons (xs_new rfl (hO _) ?_)
  refine ex_cons (xs_assign (ev_bool true) rfl (hO _) rfl ?_)
  refine ex_cons (xs_while (fun n Γ' => ∃ f c, Has Γ' [("found", .own (f.map .str)), ("changed", .fz (.bool c)), ("g", .fz (gD g)), ("given", .fz (sD given))] ∧ hbLeft g f + (if c then 1 else 0) ≤ n ∧ hbFin given g n f c = hbOf g given ∧ f.length + hbLeft g f ≤ g.length) (g.length + 1) ⟨[], true, by
      exact Has.add rfl (Has.add rfl (Has.add rfl (Has.add rfl (Has.nil _)))), ?_, rfl, ?_⟩ fun n Γ' hJ => ?_)
  · have : hbLeft g [] ≤ g.length := by unfold hbLeft; exact List.length_filter_le _ _
    simp; exact this
  · have : hbLeft g [] ≤ g.length := by unfold hbLeft; exact List.length_filter_le _ _
    simp; exact this
  obtain ⟨f, c, hH, hn, hfin, hfl⟩ := hJ
  refine ⟨c, (c_bool (ev_var rfl rfl) (fun _ => rfl)).has hH, fun hc => ?_, fun hc => ?_⟩
  · subst hc
    simp only [if_true] at hn
    obtain ⟨n', rfl⟩ : ∃ n', n = n' + 1 := ⟨n - 1, by omega⟩
    refine ex_has hH ?_
    refine ex_cons (xs_assign (ev_bool false) rfl (hO _) rfl ?_)
    refine ex_cons (xs_for (k := 0) (fun i Γ' => Has Γ' [("found", .own (((g.take i).foldl (hbStep given) (f, false)).1.map .str)), ("changed", .fz (.bool ((g.take i).foldl (hbStep given) (f, false)).2)), ("g", .fz (gD g)), ("given", .fz (sD given))])
      (src_list (ds := g.map rD) hA.hd (ev_var rfl rfl)) (fun _ => rfl) (Has.add rfl (Has.add rfl (Has.add rfl (Has.add rfl (Has.nil _))))) (fun i Γ' hi hJ => ?_) (fun Γ' hJ => ?_))
    · have hi' : i < g.length := by simpa using hi
      rw [getD_map rD hi']
      have hbi := hb _ (List.getElem_mem hi')
      have hst : (g.take (i + 1)).foldl (hbStep given) (f, false) = hbStep given ((g.take i).foldl (hbStep given) (f, false)) g[i] := by
        rw [List.take_add_one, List.getElem?_eq_getElem hi', List.foldl_append]; rfl
      have hlen := hbFold_inv given g (g.take i) (f, false) fun r hr => List.mem_of_mem_take hr
      rw [hst]
      generalize (g.take i).foldl (hbStep given) (f, false) = p at *
      simp only at hlen
      refine ⟨_, as_name rfl (hO _), ex_has hJ.cons ?_⟩
      refine ex_cons (xs_if (cd_and (c_notInL hA (e_item (ev_var rfl rfl) (ev_int 0) rfl (by decide) (by decide) rfl) (ev_own rfl rfl) rfl) fun _ => cd_and (c_bool (e_all (bs := g[i].2.map fun s => given.contains s || p.1.contains s) hA.hd (G.b rfl rfl PyProof.Rows.Boot.«all» (by decide)) ?_ rfl) (fun _ => rfl)) fun _ => cd_and0) (fun hbb => ?_) (fun hbb => ?_))
      · refine (e_comp g[i].2 .str (fun s => [.bool (given.contains s || p.1.contains s)]) ⟨rfl, rfl, rfl, rfl⟩ ((src_list (ds := g[i].2.map .str) hA.hd (e_item (ev_var rfl rfl) (ev_int 1) rfl (by decide) (by decide) rfl)).cast (by simp) rfl) (fun _ => rfl) (by rw [flat_one]; simp; omega) fun L s₀ Z₀ s own hs => ?_).cast (by rw [flat_one, List.map_map]; rfl)
        exact turn_name true rfl (own _ rfl) rfl rfl (fun ds => rfl) (fun q => by cases q) (fun ds _ => inn_emit rfl (ev_or (e_inL hA (ev_var rfl rfl) (ev_var rfl rfl) rfl) fun _ => ev_op1 (e_inL hA (ev_var rfl rfl) (ev_bor rfl rfl) rfl)))
      · have ht : hbTest given p.1 g[i] = true := by
          unfold hbTest
          rw [Bool.and_true, List.all_map] at hbb
          exact hbb
        have e : hbStep given p g[i] = (p.1 ++ [g[i].1], true) := by unfold hbStep; rw [if_pos ht]
        rw [e]
        refine ex_cons (xs_append rfl rfl (by rw [List.length_map]; omega) (e_item (ev_var rfl rfl) (ev_int 0) rfl (by decide) (by decide) rfl) rfl rfl rfl ?_)
        refine ex_cons (xs_assign (ev_bool true) rfl (hO _) rfl (ex_nil (ex_nil (Has.add ?_ (Has.add rfl (Has.add rfl (Has.add rfl (Has.nil _))))))))
        show some (Ent.own _) = some (Ent.own _)
        rw [List.map_append]; rfl
      · have ht : ¬ hbTest given p.1 g[i] = true := by
          unfold hbTest
          rw [Bool.and_true, List.all_map] at hbb
          intro q
          exact absurd (hbb.symm.trans q) (by decide)
        have e : hbStep given p g[i] = p := by unfold hbStep; rw [if_neg ht]
        rw [e]
        exact ex_nil (ex_nil (Has.add rfl (Has.add rfl (Has.add rfl (Has.add rfl (Has.nil _))))))
    · rw [show (g.map rD).length = g.length by simp, List.take_length] at hJ
      have hinv := hbFold_inv given g g (f, false) fun _ h => h
      simp only at hinv
      refine ex_nil ⟨n', by omega, (hbPass given g f).1, (hbPass given g f).2, hJ, ?_, ?_, ?_⟩
      · cases hc : (hbPass given g f).2 with
        | true =>
          have := hbFold_left given g g (f, false) (fun _ h => h) rfl hc
          simp only [if_true]
          show hbLeft g (g.foldl (hbStep given) (f, false)).1 + 1 ≤ n'
          simp only at this; omega
        | false =>
          have := (hbFold_same given g (f, false) hc).1
          simp only [Bool.false_eq_true, if_false]
          show hbLeft g (g.foldl (hbStep given) (f, false)).1 + 0 ≤ n'
          rw [this]; simp only; omega
      · have : hbFin given g (n' + 1) f true = hbFin given g n' (hbPass given g f).1 (hbPass given g f).2 := rfl
        rw [← this]; exact hfin
      · show (g.foldl (hbStep given) (f, false)).1.length + hbLeft g (g.foldl (hbStep given) (f, false)).1 ≤ g.length
        omega
  · subst hc
    rw [hbFin_false] at hfin
    refine ex_has hH ?_
    refine ex_cons (xs_return (e_srt (G.b rfl rfl PyProof.Rows.Boot.«sorted» (by decide)) (ev_own rfl rfl) rfl (by omega)) ?_)
    show Out.ret _ = Out.ret _
    rw [hfin]
theorem fn_nullable (G : G3 prog w mg mb P) {k : Nat} (g : List Rule) (hg : g.length ≤ 15) (hb : ∀ r ∈ g, r.2.length ≤ 100) : FnOk (C3 prog w mg mb P) (k + 1 + 1) 67 [gD g] (sD (srt (hbOf g []))) := by
  refine fn_intro (ps := ["g"]) (fnDef_of rfl rfl rfl rfl rfl rfl rfl (by ((intro vs h; rcases vs with _ | ⟨_, _ | ⟨_, _ | ⟨_, _ | ⟨_, _ | ⟨_, _ | ⟨_, _⟩⟩⟩⟩⟩⟩ <;> first | rfl | (simp at h; done)))) (by decide) rfl rfl rfl rfl rfl rfl) rfl fun A L s₀ Z₀ E hA hO hF => ?_
  exact ex_cons (xs_return (ev_call hA rfl (G.at rfl) rfl rfl (evs_cons (ev_var rfl rfl) (evs_cons (ev_list evs_nil (by decide)) evs_nil rfl) rfl) rfl (fn_hbf G g [] hg hb)) rfl)
theorem fn_productive (G : G3 prog w mg mb P) {k : Nat} (g : List Rule) (hg : g.length ≤ 15) (hb : ∀ r ∈ g, r.2.length ≤ 4) : FnOk (C3 prog w mg mb P) (k + 1 + 1 + 1) 81 [gD g] (sD (srt (hbOf g (srt (toksUpTo (headsOf g) g))))) := by
  refine fn_intro (ps := ["g"]) (fnDef_of rfl rfl rfl rfl rfl rfl rfl (by ((intro vs h; rcases vs with _ | ⟨_, _ | ⟨_, _ | ⟨_, _ | ⟨_, _ | ⟨_, _ | ⟨_, _⟩⟩⟩⟩⟩⟩ <;> first | rfl | (simp at h; done)))) (by decide) rfl rfl rfl rfl rfl rfl) rfl fun A L s₀ Z₀ E hA hO hF => ?_
  exact ex_cons (xs_return (ev_call hA rfl (G.at rfl) rfl rfl (evs_cons (ev_var rfl rfl) (evs_cons (ev_call hA rfl (G.at rfl) rfl rfl (evs_cons (ev_var rfl rfl) evs_nil rfl) rfl (fn_tokens_of G g hg hb)) evs_nil rfl) rfl) rfl (fn_hbf G g _ hg fun r hr => by have := hb r hr; omega)) rfl)
end
end

section
set_option autoImplicit false
set_option linter.unusedVariables false
set_option maxRecDepth 100000
open PySem PyProof.Rows PySem.W

theorem sliceD_to (ds : List PyData) (j : Int) (h : 0 ≤ j) : sliceD ds none (some j) = ds.take j.toNat := by
  unfold sliceD
  show (ds.drop 0).take (clipAt ds.length j - 0) = ds.take j.toNat
  rw [List.drop_zero, Nat.sub_zero]
  unfold clipAt
  split
  · omega
  · rcases Nat.le_total j.toNat ds.length with q | q
    · congr 1; omega
    · rw [List.take_of_length_le (by omega), List.take_of_length_le (by omega)]

noncomputable def idx (a : Int) (n : Nat) : Nat := (a.fmod n).toNat
theorem idx_lt (a : Int) {n : Nat} (h : 0 < n) : idx a n < n := by
  unfold idx
  have h1 := Int.fmod_nonneg_of_pos a (b := n) (by omega)
  have h2 := Int.fmod_lt_of_pos a (b := n) (by omega)
  omega
theorem fmod_idx (a : Int) {n : Nat} (h : 0 < n) : a.fmod n = (idx a n : Int) := by
  unfold idx
  have h1 := Int.fmod_nonneg_of_pos a (b := n) (by omega)
  omega
theorem sliceD_from' (ds : List PyData) (n : Int) (h0 : 0 ≤ n) (h : n ≤ ds.length) : sliceD ds (some n) none = ds.drop n.toNat := by
  have := sliceD_from ds n.toNat (by omega)
  rwa [Int.toNat_of_nonneg h0] at this

mutual
theorem eqv_self : ∀ d : PyData, noDict d = true → PyData.eqv d d = true
  | .none, _ => by simp [PyData.eqv]
  | .bool b, _ => by simp [PyData.eqv]
  | .int i, _ => by simp [PyData.eqv]
  | .str s, _ => by simp [PyData.eqv]
  | .list xs, h => by simp only [PyData.eqv]; exact eqvAll_self xs (by simpa [noDict] using h)
  | .tuple xs, h => by simp only [PyData.eqv]; exact eqvAll_self xs (by simpa [noDict] using h)
  | .dict _, h => by simp [noDict] at h
theorem eqvAll_self : ∀ xs : List PyData, noDict.noDicts xs = true → PyData.eqvAll xs xs = true
  | [], _ => by simp [PyData.eqvAll]
  | x :: xs, h => by
    simp only [noDict.noDicts, Bool.and_eq_true] at h
    simp [PyData.eqvAll, eqv_self x h.1, eqvAll_self xs h.2]
end
theorem dOk_str (s : Str) : DOk (.str s) 0 := DOk.flat rfl
theorem dOk_sD (l : List Str) : DOk (sD l) 1 := DOk.list fun x hx => by
  obtain ⟨s, _, rfl⟩ := List.mem_map.mp hx
  exact dOk_str s
theorem dOk_rD (r : Rule) : DOk (rD r) 2 := DOk.tuple fun x hx => by
  rcases List.mem_cons.mp hx with rfl | hx
  · exact (dOk_str _).mono (by omega)
  · cases List.mem_singleton.mp hx; exact dOk_sD _
theorem dOk_gD (g : List Rule) : DOk (gD g) 3 := DOk.list fun x hx => by
  obtain ⟨s, _, rfl⟩ := List.mem_map.mp hx
  exact dOk_rD s
section
variable {C : Cx} {A : Around} {env : Env} {Γ : Tab} {e₁ e₂ : Expr} {d : PyData}
theorem c_neSame {n : Nat} {pos : Pos} {k : Nat} (hA : OkA A n) (h₁ : Ev C A env Γ e₁ false d) (h₂ : Ev C A env Γ e₂ false d) (hd : DOk d k) (hk : k ≤ 100) : Cd C A env Γ (.Compare e₁ [.NotEq] [e₂] pos) false :=
  (c_ne hA h₁ h₂ hd (hd.mono hk) hk).cast (by rw [eqv_self d hd.1]; rfl)

end
end

section
set_option autoImplicit false
set_option linter.unusedVariables false
set_option maxRecDepth 100000
open PySem PyProof.Rows PySem.W

noncomputable def firstHead (heads form : List Str) : Nat := form.findIdx fun s => heads.contains s
noncomputable def ruleAt (g : List Rule) (k : Nat) : Rule := g[k]?.getD (("", []) : Rule)
noncomputable def stepForm (g : List Rule) (heads form : List Str) (k : Int) : Option (List Str) :=
  if firstHead heads form = form.length then none
  else if k < 0 ∨ (g.length : Int) ≤ k then none
  else if (ruleAt g k.toNat).1 = form[firstHead heads form]?.getD "" then some (form.take (firstHead heads form) ++ (ruleAt g k.toNat).2 ++ form.drop (firstHead heads form + 1)) else none
noncomputable def replayF (g : List Rule) (f : Option (List Str)) (k : Int) : Option (List Str) := f.bind fun f => stepForm g (headsOf g) f k
noncomputable def replay (g : List Rule) (ks : List Int) : Option (List Str) := ks.foldl (replayF g) (some [(ruleAt g 0).1])
noncomputable def optD (f : Option (List Str)) : PyData := f.elim .none sD

theorem firstHead_le (heads form : List Str) : firstHead heads form ≤ form.length := List.findIdx_le_length
theorem firstHead_before {heads form : List Str} {p : Nat} (h : ∀ j (hj : j < form.length), j < p → heads.contains form[j] = false) (hp : p ≤ form.length) : p ≤ firstHead heads form := by
  rcases Nat.lt_or_ge (firstHead heads form) p with q | q
  · have hl : firstHead heads form < form.length := by omega
    have : heads.contains form[firstHead heads form] = true := List.findIdx_getElem (w := hl) (p := fun s => heads.contains s) (xs := form)
    rw [h _ hl q] at this; cases this
  · exact q
theorem firstHead_at {heads form : List Str} {p : Nat} (h : ∀ j (hj : j < form.length), j < p → heads.contains form[j] = false) (hp : p ≤ form.length) (he : ∀ hq : p < form.length, heads.contains form[p] = true) : firstHead heads form = p := by
  have h1 := firstHead_before h hp
  rcases Nat.lt_or_ge p form.length with q | q
  · have : firstHead heads form ≤ p := by
      refine Nat.le_of_not_lt fun c => ?_
      have := List.not_of_lt_findIdx (p := fun s => heads.contains s) (xs := form) c
      rw [he q] at this; cases this
    omega
  · have := firstHead_le heads form; omega
theorem foldl_none (g : List Rule) (ks : List Int) : ks.foldl (replayF g) none = none := by
  induction ks with
  | nil => rfl
  | cons k ks ih => exact ih
theorem stepForm_len {g : List Rule} {heads form f' : List Str} {k : Int} {b : Nat} (hb : ∀ r ∈ g, r.2.length ≤ b) (h : stepForm g heads form k = some f') : f'.length ≤ form.length + b := by
  unfold stepForm at h
  split at h
  · cases h
  · split at h
    · cases h
    · split at h
      · cases h
        rename_i h2 _
        have hk : k.toNat < g.length := by omega
        have : (ruleAt g k.toNat).2.length ≤ b := by
          unfold ruleAt; rw [List.getElem?_eq_getElem hk]; exact hb _ (List.getElem_mem hk)
        simp only [List.length_append, List.length_take, List.length_drop]; omega
      · cases h

section
variable {prog : Program} {w : World} {mg mb : Str → Option Value} {P : Params}
theorem fn_replayed (G : G3 prog w mg mb P) {k : Nat} (g : List Rule) (ks : List Int) (hg0 : 0 < g.length) (hg : g.length ≤ 100) (hb : ∀ r ∈ g, r.2.length ≤ 10) (hk : ks.length ≤ 100) : FnOk (C3 prog w mg mb P) (k + 1 + 1) 74 [gD g, .list (ks.map .int)] (optD (replay g ks)) := by
  refine fn_intro (ps := ["g", "derivation"]) (fnDef_of rfl rfl rfl rfl rfl rfl rfl (by ((intro vs h; rcases vs with _ | ⟨_, _ | ⟨_, _ | ⟨_, _ | ⟨_, _ | ⟨_, _ | ⟨_, _⟩⟩⟩⟩⟩⟩ <;> first | rfl | (simp at h; done)))) (by decide) rfl rfl rfl rfl rfl rfl) rfl fun A L s₀ Z₀ E hA hO hF => ?_
  have hsl : sizeLine = 16777216 := rfl
  have hlen : lenD (gD g) = some g.length := by simp [lenD, gD]
  refine ex_cons (xs_assign (ev_call hA rfl (G.at rfl) rfl rfl (evs_cons (ev_var rfl rfl) evs_nil rfl) rfl (fn_heads_of G g (by omega))) rfl (hO _) rfl ?_)
  have h0 : (g.map rD)[(0 : Int).toNat]? = some (rD (ruleAt g 0)) := by
    show (g.map rD)[0]? = _
    rw [List.getElem?_map]; unfold ruleAt; rw [List.getElem?_eq_getElem hg0]; rfl
  refine ex_cons (xs_assign ((ev_list (evs_cons (e_item (e_item (ev_var rfl rfl) (ev_int 0) rfl (by decide) (by decide) h0) (ev_int 0) rfl (by decide) (by decide) rfl) evs_nil rfl) (by show 1 ≤ sizeLine; decide)).cast (d' := sD [(ruleAt g 0).1]) rfl) rfl (hO _) rfl ?_)
  refine ex_cons (xs_for (k := 0) (fun i Γ' => ∃ form, (ks.take i).foldl (replayF g) (some [(ruleAt g 0).1]) = some form ∧ form.length ≤ 1 + i * 10 ∧ Has Γ' [("form", .fz (sD form)), ("heads", .fz (sD (headsOf g))), ("g", .fz (gD g))])
    (src_list (ds := ks.map .int) hA.hd (ev_var rfl rfl)) (fun _ => rfl) ⟨_, rfl, by simp, by (repeat (first | exact Has.nil _ | refine Has.add rfl ?_))⟩ (fun i Γ' hi hJ => ?_) (fun Γ' hJ => ?_))
  · have hi' : i < ks.length := by simpa using hi
    rw [getD_map PyData.int hi']
    obtain ⟨form, hf, hfl, hH⟩ := hJ
    have hst : (ks.take (i + 1)).foldl (replayF g) (some [(ruleAt g 0).1]) = stepForm g (headsOf g) form ks[i] := by
      rw [List.take_add_one, List.getElem?_eq_getElem hi', List.foldl_append, hf]; rfl
    have hwhole : stepForm g (headsOf g) form ks[i] = none → replay g ks = none := fun q => by
      unfold replay
      have e : ks = ks.take (i + 1) ++ ks.drop (i + 1) := (List.take_append_drop _ _).symm
      rw [e, List.foldl_append, hst, q]; exact foldl_none _ _
    have hlf : lenD (sD form) = some form.length := by simp [lenD, sD]
    have hz : form.length ≤ 2000 := by omega
    refine ⟨_, as_name rfl (hO _), ex_has hH.cons ?_⟩
    refine ex_cons (xs_assign (ev_int 0) rfl (hO _) rfl ?_)
    refine ex_join (fun Γ' => Has Γ' [("place", .fz (.int (firstHead (headsOf g) form))), ("k", .fz (.int ks[i])), ("form", .fz (sD form)), ("heads", .fz (sD (headsOf g))), ("g", .fz (gD g))])
      (xs_while (fun n Γ' => ∃ p, p + n = form.length ∧ (∀ j (hj : j < form.length), j < p → (headsOf g).contains form[j] = false) ∧ Has Γ' [("place", .fz (.int (p : Int))), ("k", .fz (.int ks[i])), ("form", .fz (sD form)), ("heads", .fz (sD (headsOf g))), ("g", .fz (gD g))]) form.length ⟨0, by omega, fun j _ hj => by omega, by (repeat (first | exact Has.nil _ | refine Has.add rfl ?_))⟩ fun n Γ' hJ => ?_) (fun Γ' hG => ex_has hG ?_)
    · obtain ⟨p, hp, hbef, hH'⟩ := hJ
      by_cases hpl : p < form.length
      · have hit : (form.map PyData.str)[((p : Nat) : Int).toNat]? = some (.str form[p]) := by simp [hpl]
        refine ⟨_, (cd_and (c_lt hA (ev_var rfl rfl) (e_len (n := form.length) (G.b rfl rfl PyProof.Rows.Boot.«len» (by decide)) (ev_var rfl rfl) rfl hlf (by omega))) fun _ => cd_and (c_notInL hA (e_item (ev_var rfl rfl) (ev_var rfl rfl) rfl (by omega) (by omega) hit) (ev_var rfl rfl) rfl) fun _ => cd_and0).has hH', fun hb => ?_, fun hb => ?_⟩
        · refine ex_has hH' (ex_cons (xs_assign (e_addI (ev_var rfl rfl) (ev_int 1)) rfl (hO _) rfl (ex_nil ⟨n - 1, by omega, p + 1, by omega, fun j hj hjp => ?_, ?_⟩)))
          · rcases Nat.lt_or_ge j p with q | q
            · exact hbef j hj q
            · have : j = p := by omega
              subst this
              simp only [Bool.and_eq_true, Bool.not_eq_true', and_true] at hb
              exact hb.2
          · exact Has.add rfl (by (repeat (first | exact Has.nil _ | refine Has.add rfl ?_)))
        · have hc : (headsOf g).contains form[p] = true := by
            have h1 : decide ((p : Int) < (form.length : Int)) = true := by simp; exact hpl
            rw [h1] at hb
            simpa using hb
          have hfh := firstHead_at hbef (by omega) (fun _ => hc)
          rw [hfh]; exact hH'
      · have hpe : p = form.length := by omega
        refine ⟨false, ((cd_and (c_lt hA (ev_var rfl rfl) (e_len (n := form.length) (G.b rfl rfl PyProof.Rows.Boot.«len» (by decide)) (ev_var rfl rfl) rfl hlf (by omega))) (b := false) fun hq => absurd (of_decide_eq_true hq) (by omega)).cast (by simp)).has hH', (fun hb => by cases hb), fun _ => ?_⟩
        have hfh := firstHead_at (heads := headsOf g) hbef (by omega) (fun q => absurd q hpl)
        rw [hfh]; exact hH'
    · have hfl1 := firstHead_le (headsOf g) form
      generalize hp : firstHead (headsOf g) form = p at *
      have hnone : ∀ {d : PyData}, stepForm g (headsOf g) form ks[i] = none → d = .none → Out.ret d = Out.ret (optD (replay g ks)) := fun q hd => by rw [hwhole q, hd]; rfl
      refine ex_join (fun Γ' => stepForm g (headsOf g) form ks[i] ≠ none ∧ Has Γ' [("place", .fz (.int (p : Int))), ("k", .fz (.int ks[i])), ("form", .fz (sD form)), ("heads", .fz (sD (headsOf g))), ("g", .fz (gD g))]) (xs_if (b := decide (stepForm g (headsOf g) form ks[i] = none)) ?_ (fun hb => ?_) (fun hb => ?_)) (fun Γ' hG => ?_)
      · have hit : p ≠ form.length → (form.map PyData.str)[((p : Nat) : Int).toNat]? = some (.str (form[p]?.getD "")) := fun q => by
          have : p < form.length := by omega
          rw [Int.toNat_natCast, List.getElem?_map, List.getElem?_eq_getElem this]; rfl
        have hgk : ¬ ks[i] < 0 → ¬ (g.length : Int) ≤ ks[i] → (g.map rD)[ks[i].toNat]? = some (rD (ruleAt g ks[i].toNat)) := fun q1 q2 => by
          have : ks[i].toNat < g.length := by omega
          rw [List.getElem?_map]; unfold ruleAt; rw [List.getElem?_eq_getElem this]; rfl
        refine (cd_or (c_eqI hA (ev_var rfl rfl) (e_len (n := form.length) (G.b rfl rfl PyProof.Rows.Boot.«len» (by decide)) (ev_var rfl rfl) rfl hlf (by omega))) fun h1 => cd_or (c_lt hA (ev_var rfl rfl) (ev_int 0)) fun h2 => cd_or (c_ge hA (ev_var rfl rfl) (e_len (n := g.length) (G.b rfl rfl PyProof.Rows.Boot.«len» (by decide)) (ev_var rfl rfl) rfl hlen (by omega))) fun h3 =>
          cd_or (c_neS hA (e_item (e_item (ev_var rfl rfl) (ev_var rfl rfl) rfl (by have := of_decide_eq_false h2; omega) (by have := of_decide_eq_false h3; omega) (hgk (of_decide_eq_false h2) (of_decide_eq_false h3))) (ev_int 0) rfl (by decide) (by decide) rfl) (e_item (ev_var rfl rfl) (ev_var rfl rfl) rfl (by omega) (by omega) (hit (by have := beq_eq_false_iff_ne.mp h1; omega)))) fun _ => cd_or0).cast ?_
        unfold stepForm
        rw [hp]
        by_cases c1 : p = form.length
        · have e : (((p : Nat) : Int) == (form.length : Int)) = true := beq_iff_eq.mpr (by omega)
          rw [if_pos c1, e]; rfl
        · have e : (((p : Nat) : Int) == (form.length : Int)) = false := beq_eq_false_iff_ne.mpr (by omega)
          rw [if_neg c1, e, Bool.false_or]
          by_cases c2 : ks[i] < 0 ∨ (g.length : Int) ≤ ks[i]
          · rw [if_pos c2]
            rcases c2 with c2 | c2
            · rw [decide_eq_true c2]; rfl
            · rw [decide_eq_true c2]; simp
          · rw [if_neg c2]
            have e1 : decide (ks[i] < 0) = false := decide_eq_false fun q => c2 (.inl q)
            have e2 : decide ((g.length : Int) ≤ ks[i]) = false := decide_eq_false fun q => c2 (.inr q)
            rw [e1, e2, Bool.false_or, Bool.false_or, Bool.or_false]
            by_cases c3 : (ruleAt g ks[i].toNat).1 = form[p]?.getD ""
            · rw [if_pos c3, c3]; simp
            · rw [if_neg c3, beq_eq_false_iff_ne.mpr c3]; rfl
      · exact ex_cons (xs_return ev_none (hnone (of_decide_eq_true hb) rfl))
      · exact ex_nil ⟨of_decide_eq_false hb, Has.refl _⟩
      · obtain ⟨hne, hG⟩ := hG
        refine ex_has hG ?_
        have hsome : p ≠ form.length ∧ ¬ (ks[i] < 0 ∨ (g.length : Int) ≤ ks[i]) ∧ stepForm g (headsOf g) form ks[i] = some (form.take p ++ (ruleAt g ks[i].toNat).2 ++ form.drop (p + 1)) := by
          unfold stepForm at hne ⊢
          rw [hp] at hne ⊢
          split at hne
          · exact absurd rfl hne
          · rename_i c1
            split at hne
            · exact absurd rfl hne
            · rename_i c2
              split at hne
              · rename_i c3
                exact ⟨c1, c2, by rw [if_neg c1, if_neg c2, if_pos c3]⟩
              · exact absurd rfl hne
        obtain ⟨c1, c2, c3⟩ := hsome
        have hkl : ks[i].toNat < g.length := by omega
        have hgk : (g.map rD)[ks[i].toNat]? = some (rD (ruleAt g ks[i].toNat)) := by
          rw [List.getElem?_map]; unfold ruleAt; rw [List.getElem?_eq_getElem hkl]; rfl
        have hrl : (ruleAt g ks[i].toNat).2.length ≤ 10 := by
          unfold ruleAt; rw [List.getElem?_eq_getElem hkl]; exact hb _ (List.getElem_mem hkl)
        have hmz : (form.map PyData.str).length ≤ sizeLine := by rw [List.length_map]; omega
        have hlm : (form.map PyData.str).length = form.length := List.length_map _
        refine ex_cons (xs_assign (e_addL (e_addL (b := (ruleAt g ks[i].toNat).2.map .str) (ev_slice (ev_var rfl rfl) o_none (o_some (ev_var rfl rfl)) hmz) (e_item (e_item (ev_var rfl rfl) (ev_var rfl rfl) rfl (by omega) (by omega) hgk) (ev_int 1) rfl (by decide) (by decide) rfl) ?_) (ev_slice (ev_var rfl rfl) (o_some (e_addI (ev_var rfl rfl) (ev_int 1))) o_none hmz) ?_) rfl (hO _) rfl (ex_nil ⟨form.take p ++ (ruleAt g ks[i].toNat).2 ++ form.drop (p + 1), by rw [hst, c3], ?_, Has.add ?_ (by (repeat (first | exact Has.nil _ | refine Has.add rfl ?_)))⟩))
        · rw [sliceD_to _ _ (by omega)]; simp only [List.length_take, List.length_map]; omega
        · rw [sliceD_to _ _ (by omega), sliceD_from' _ _ (by omega) (by rw [hlm]; omega)]; simp only [List.length_append, List.length_take, List.length_map, List.length_drop]; omega
        · have hfl2 := stepForm_len hb c3
          omega
        · show some (Ent.fz (.list _)) = some (Ent.fz (.list _))
          rw [sliceD_to _ _ (by omega), sliceD_from' _ _ (by omega) (by rw [hlm]; omega), List.map_append, List.map_append, List.map_take, List.map_drop]
          have e1 : ((p : Int)).toNat = p := by omega
          have e2 : ((p : Int) + 1).toNat = p + 1 := by omega
          rw [e1, e2]
  · obtain ⟨form, hf, hfl, hH⟩ := hJ
    rw [show (ks.map PyData.int).length = ks.length by simp, List.take_length] at hf
    refine ex_has hH (ex_cons (xs_return (ev_var rfl rfl) ?_))
    show Out.ret _ = Out.ret _
    unfold replay; rw [hf]; rfl
end
end

section
set_option autoImplicit false
set_option linter.unusedVariables false
set_option maxRecDepth 100000
open PySem PyProof.Rows PySem.W

noncomputable def clFin (succ : Str → List Str) : Nat → Nat → List Str → List Str
  | 0, _, f => f
  | n + 1, p, f => if p < f.length then clFin succ n (p + 1) ((succ (f[p]?.getD "")).foldl addNew f) else f
noncomputable def clLeft (U f : List Str) : Nat := (U.filter fun s => !f.contains s).length
theorem addNew_inv {U f : List Str} {s : Str} (hs : s ∈ U) : (addNew f s).length + clLeft U (addNew f s) ≤ f.length + clLeft U f := by
  unfold addNew
  by_cases h : f.contains s = true
  · rw [if_pos h]; exact Nat.le_refl _
  · rw [if_neg h]
    have hf : f.contains s = false := by simpa using h
    have : clLeft U (f ++ [s]) < clLeft U f := by
      refine filter_lt _ _ _ (fun x _ hx => ?_) hs ?_ (by rw [hf]; rfl)
      · simp only [Bool.not_eq_true', List.contains_eq_mem, decide_eq_false_iff_not, List.mem_append] at hx ⊢
        exact fun q => hx (.inl q)
      · simp
    rw [List.length_append]; simp only [List.length_cons, List.length_nil]; omega
theorem foldNew_inv {U : List Str} : ∀ (l f : List Str), (∀ s ∈ l, s ∈ U) → (l.foldl addNew f).length + clLeft U (l.foldl addNew f) ≤ f.length + clLeft U f
  | [], _, _ => Nat.le_refl _
  | s :: l, f, h => Nat.le_trans (foldNew_inv l (addNew f s) fun s hs => h s (List.mem_cons_of_mem _ hs)) (addNew_inv (h s List.mem_cons_self))
theorem foldNew_prefix : ∀ (l f : List Str), ∃ t, l.foldl addNew f = f ++ t
  | [], f => ⟨[], by simp⟩
  | s :: l, f => by
    obtain ⟨t, ht⟩ := foldNew_prefix l (addNew f s)
    rw [List.foldl_cons, ht]
    unfold addNew
    split
    · exact ⟨t, rfl⟩
    · exact ⟨[s] ++ t, by rw [List.append_assoc]⟩
theorem foldNew_get {l f : List Str} {p : Nat} (h : p < f.length) : (l.foldl addNew f)[p]? = f[p]? := by
  obtain ⟨t, ht⟩ := foldNew_prefix l f
  rw [ht, List.getElem?_append_left h]
noncomputable def succR (g : List Rule) (heads : List Str) (h : Str) : List Str := g.flatMap fun r => if r.1 == h then r.2.filter heads.contains else []
noncomputable def reachOf (g : List Rule) : List Str := clFin (succR g (headsOf g)) ((headsOf g).length + 1) 0 [(ruleAt g 0).1]
theorem filter_fold (heads : List Str) : ∀ (l f : List Str), (l.filter heads.contains).foldl addNew f = l.foldl (fun f s => if heads.contains s && !f.contains s then f ++ [s] else f) f
  | [], _ => rfl
  | s :: l, f => by
    rw [List.filter_cons, List.foldl_cons]
    cases h : heads.contains s with
    | true =>
      rw [if_pos rfl, List.foldl_cons, filter_fold heads l]
      congr 1
      unfold addNew
      cases f.contains s <;> rfl
    | false => rw [if_neg (by decide), filter_fold heads l]; rfl

section
variable {prog : Program} {w : World} {mg mb : Str → Option Value} {P : Params}
theorem fn_reachable (G : G3 prog w mg mb P) {k : Nat} (g : List Rule) (hg0 : 0 < g.length) (hg : g.length ≤ 30) (hb : ∀ r ∈ g, r.2.length ≤ 100) : FnOk (C3 prog w mg mb P) (k + 1 + 1) 88 [gD g] (sD (srt (reachOf g))) := by
  refine fn_intro (ps := ["g"]) (fnDef_of rfl rfl rfl rfl rfl rfl rfl (by ((intro vs h; rcases vs with _ | ⟨_, _ | ⟨_, _ | ⟨_, _ | ⟨_, _ | ⟨_, _ | ⟨_, _⟩⟩⟩⟩⟩⟩ <;> first | rfl | (simp at h; done)))) (by decide) rfl rfl rfl rfl rfl rfl) rfl fun A L s₀ Z₀ E hA hO hF => ?_
  have hsl : sizeLine = 16777216 := rfl
  have hhl : (headsOf g).length ≤ 30 := by have := dd_len (g.map (·.1)); unfold headsOf; simp only [List.length_map] at this; omega
  refine ex_cons (xs_assign (ev_call hA rfl (G.at rfl) rfl rfl (evs_cons (ev_var rfl rfl) evs_nil rfl) rfl (fn_heads_of G g (by omega))) rfl (hO _) rfl ?_)
  have h0 : (g.map rD)[(0 : Int).toNat]? = some (rD (ruleAt g 0)) := by
    show (g.map rD)[0]? = _
    rw [List.getElem?_map]; unfold ruleAt; rw [List.getElem?_eq_getElem hg0]; rfl
  refine ex_cons (xs_newL (ds := [(ruleAt g 0).1].map .str) (evs_cons (e_item (e_item (ev_var rfl rfl) (ev_int 0) rfl (by decide) (by decide) h0) (ev_int 0) rfl (by decide) (by decide) rfl) evs_nil rfl) (by show 1 ≤ sizeLine; decide) rfl (hO _) rfl ?_)
  refine ex_cons (xs_assign (ev_int 0) rfl (hO _) rfl ?_)
  refine ex_cons (xs_while (fun n Γ' => ∃ p f, p + n = (headsOf g).length + 1 ∧ f.length + clLeft (headsOf g) f ≤ (headsOf g).length + 1 ∧ clFin (succR g (headsOf g)) n p f = reachOf g ∧ Has Γ' [("found", .own (f.map .str)), ("place", .fz (.int (p : Int))), ("heads", .fz (sD (headsOf g))), ("g", .fz (gD g))]) ((headsOf g).length + 1) ⟨0, [(ruleAt g 0).1], by omega, ?_, rfl, by (repeat (first | exact Has.nil _ | refine Has.add rfl ?_))⟩ fun n Γ' hJ => ?_)
  · have : clLeft (headsOf g) [(ruleAt g 0).1] ≤ (headsOf g).length := by unfold clLeft; exact List.length_filter_le _ _
    simp only [List.length_cons, List.length_nil]; omega
  obtain ⟨p, f, hpn, hinv, hfin, hH⟩ := hJ
  refine ⟨decide ((p : Int) < (f.length : Int)), (c_lt hA (ev_var rfl rfl) (e_len (n := f.length) (G.b rfl rfl PyProof.Rows.Boot.«len» (by decide)) (ev_own rfl rfl) rfl (by simp [lenD]) (by omega))).has hH, fun hc => ?_, fun hc => ?_⟩
  · have hp : p < f.length := by have := of_decide_eq_true hc; omega
    obtain ⟨n', rfl⟩ : ∃ n', n = n' + 1 := ⟨n - 1, by omega⟩
    refine ex_has hH ?_
    have hstep : ∀ i (hi : i < g.length), ((g.take (i + 1)).flatMap fun r => if r.1 == f[p] then r.2.filter (headsOf g).contains else []).foldl addNew f = (if g[i].1 == f[p] then g[i].2.filter (headsOf g).contains else []).foldl addNew (((g.take i).flatMap fun r => if r.1 == f[p] then r.2.filter (headsOf g).contains else []).foldl addNew f) := fun i hi => by
      rw [List.take_add_one, List.getElem?_eq_getElem hi, List.flatMap_append, List.foldl_append]; simp
    have hsub : ∀ i, ∀ s ∈ ((g.take i).flatMap fun r => if r.1 == f[p] then r.2.filter (headsOf g).contains else []), s ∈ headsOf g := fun i s hs => by
      obtain ⟨r, _, hr⟩ := List.mem_flatMap.mp hs
      split at hr
      · have := (List.mem_filter.mp hr).2; simpa using this
      · cases hr
    refine ex_cons (xs_for (k := 0) (fun i Γ' => Has Γ' [("found", .own ((((g.take i).flatMap fun r => if r.1 == f[p] then r.2.filter (headsOf g).contains else []).foldl addNew f).map .str)), ("place", .fz (.int (p : Int))), ("heads", .fz (sD (headsOf g))), ("g", .fz (gD g))])
      (src_list (ds := g.map rD) hA.hd (ev_var rfl rfl)) (fun _ => rfl) (by (repeat (first | exact Has.nil _ | refine Has.add rfl ?_))) (fun i Γ' hi hJ => ?_) (fun Γ' hJ => ?_))
    · have hi' : i < g.length := by simpa using hi
      rw [getD_map rD hi', hstep i hi']
      have hbi := hb _ (List.getElem_mem hi')
      have hin := foldNew_inv (U := headsOf g) _ f (hsub i)
      have hgp : (((g.take i).flatMap fun r => if r.1 == f[p] then r.2.filter (headsOf g).contains else []).foldl addNew f)[p]? = some f[p] := by rw [foldNew_get hp, List.getElem?_eq_getElem hp]
      generalize ((g.take i).flatMap fun r => if r.1 == f[p] then r.2.filter (headsOf g).contains else []).foldl addNew f = fi at *
      refine ⟨_, as_name rfl (hO _), ex_has hJ.cons ?_⟩
      refine ex_cons (xs_if (c_eqS hA (e_item (ev_var rfl rfl) (ev_int 0) rfl (by decide) (by decide) rfl) (e_item (d := .str f[p]) (ev_own rfl rfl) (ev_var rfl rfl) rfl (by omega) (by omega) (by rw [Int.toNat_natCast, List.getElem?_map, hgp]; rfl))) (fun hbb => ?_) (fun hbb => ?_))
      · rw [if_pos hbb, filter_fold]
        refine ex_cons (xs_for (k := 0) (fun j Γ' => Has Γ' [("found", .own (((g[i].2.take j).foldl (fun f s => if (headsOf g).contains s && !f.contains s then f ++ [s] else f) fi).map .str)), ("place", .fz (.int (p : Int))), ("heads", .fz (sD (headsOf g))), ("g", .fz (gD g))])
          (src_list (ds := g[i].2.map .str) hA.hd (e_item (ev_var rfl rfl) (ev_int 1) rfl (by decide) (by decide) rfl)) (fun _ => rfl) (by (repeat (first | exact Has.nil _ | refine Has.add rfl ?_))) (fun j Γ'' hj hJ' => ?_) (fun Γ'' hJ' => ?_))
        · have hj' : j < g[i].2.length := by simpa using hj
          rw [getD_map PyData.str hj']
          have hst : (g[i].2.take (j + 1)).foldl (fun f s => if (headsOf g).contains s && !f.contains s then f ++ [s] else f) fi = (fun f s => if (headsOf g).contains s && !f.contains s then f ++ [s] else f) ((g[i].2.take j).foldl (fun f s => if (headsOf g).contains s && !f.contains s then f ++ [s] else f) fi) g[i].2[j] := by
            rw [List.take_add_one, List.getElem?_eq_getElem hj', List.foldl_append]; rfl
          have hin2 : ((g[i].2.take j).foldl (fun f s => if (headsOf g).contains s && !f.contains s then f ++ [s] else f) fi).length ≤ 100 := by
            rw [← filter_fold]
            have := foldNew_inv (U := headsOf g) ((g[i].2.take j).filter (headsOf g).contains) fi fun s hs => by have := (List.mem_filter.mp hs).2; simpa using this
            omega
          rw [hst]
          generalize (g[i].2.take j).foldl (fun f s => if (headsOf g).contains s && !f.contains s then f ++ [s] else f) fi = acc at *
          refine ⟨_, as_name rfl (hO _), ex_has hJ'.cons ?_⟩
          refine ex_cons (xs_if (cd_and (c_inL hA (ev_var rfl rfl) (ev_var rfl rfl) rfl) fun _ => cd_and (c_notInL hA (ev_var rfl rfl) (ev_own rfl rfl) rfl) fun _ => cd_and0) (fun hb2 => ?_) (fun hb2 => ?_))
          · refine ex_cons (xs_append rfl rfl (by rw [List.length_map]; omega) (ev_var rfl rfl) rfl rfl rfl (ex_nil (ex_nil (Has.add ?_ (by (repeat (first | exact Has.nil _ | refine Has.add rfl ?_)))))))
            show some (Ent.own _) = some (Ent.own _)
            dsimp only
            rw [if_pos (by simpa using hb2), List.map_append]; rfl
          · refine ex_nil (ex_nil (Has.add ?_ (by (repeat (first | exact Has.nil _ | refine Has.add rfl ?_)))))
            dsimp only
            rw [if_neg (by intro q; rw [Bool.and_true, q] at hb2; cases hb2)]; rfl
        · rw [show (g[i].2.map PyData.str).length = g[i].2.length by simp, List.take_length] at hJ'
          exact ex_nil (ex_nil hJ')
      · rw [if_neg (by rw [hbb]; decide)]
        exact ex_nil (ex_nil (by (repeat (first | exact Has.nil _ | refine Has.add rfl ?_))))
    · rw [show (g.map rD).length = g.length by simp, List.take_length] at hJ
      refine ex_has hJ (ex_cons (xs_assign (e_addI (ev_var rfl rfl) (ev_int 1)) rfl (hO _) rfl (ex_nil ⟨n', by omega, p + 1, (succR g (headsOf g) f[p]).foldl addNew f, by omega, ?_, ?_, by (repeat (first | exact Has.nil _ | refine Has.add rfl ?_))⟩)))
      · have := foldNew_inv (U := headsOf g) (succR g (headsOf g) f[p]) f (by have := hsub g.length; rw [List.take_length] at this; exact this)
        omega
      · rw [← hfin]
        show _ = if p < f.length then clFin _ n' (p + 1) _ else f
        rw [if_pos hp, List.getElem?_eq_getElem hp]; rfl
  · have hp : ¬ p < f.length := by have := of_decide_eq_false hc; omega
    have hR : reachOf g = f := by
      rw [← hfin]
      cases n with
      | zero => rfl
      | succ n => show (if p < f.length then _ else f) = f; rw [if_neg hp]
    refine ex_has hH (ex_cons (xs_return (e_srt (G.b rfl rfl PyProof.Rows.Boot.«sorted» (by decide)) (ev_own rfl rfl) rfl (by omega)) ?_))
    show Out.ret _ = Out.ret _
    rw [hR]
end
end

section
set_option autoImplicit false
set_option linter.unusedVariables false
set_option maxRecDepth 100000
open PySem PyProof.Rows PySem.W

section
variable {C : Cx} {A : Around} {env : Env} {Γ : Tab}
theorem evn_callF {k : Nat} {x : Str} {f : Addr} {o : Obj} {fd : FuncData} {a : Expr} {es : List Expr} {ds out : List PyData} {p pos : Pos} (hA : OkA A k) (hx : isGlob env x = true) (hm : C.mg x = some (.ref f)) (ho : C.K.lookup f = some o) (hf : o.data = .func fd)
    (ha : Evs C A env Γ (a :: es) false ds) (hn : notStar a = true) (hfn : FnNew C k f ds out) (hfl : ∀ d ∈ out, flat d = true) : EvN C A env Γ (.Call (.Name x p) (a :: es) [] pos) out := fun E s m Z₀ Z I =>
  Call_Name rfl (loadGlob I hx hm (Calls.callWith_function (ha.args hn I fun vs s' kp I' r => ⟨⟨I'.base.k _ _ ho, hf⟩, by
    rw [List.nil_append]
    exact wpAny_mono (hfn A E s' noZ vs hA I'.fr I'.base ⟨fun _ q => q.elim, fun _ q => q.elim⟩ r) (fun v s'' ⟨kp', a, us, n, hv, na, h1, h2⟩ => ⟨kp.trans kp', a, us, n, hv, (by
      cases e : s.heap.get? a with
      | none => rfl
      | some o => obtain ⟨o', q, _⟩ := kp.ext.stays e; rw [na] at q; cases q), h1, h2.ofFlat hfl⟩) fun _ _ x => x⟩)))
end

noncomputable def dlcB (heads nul : List Str) : List Str → List Str → List Str
  | [], f => f
  | s :: r, f => if nul.contains s then dlcB heads nul r (if heads.contains s then srt (dd (f ++ [s])) else f) else (if heads.contains s then srt (dd (f ++ [s])) else f)
theorem dlcB_cons (heads nul : List Str) (s : Str) (r f : List Str) : dlcB heads nul (s :: r) f = if nul.contains s then dlcB heads nul r (if heads.contains s then srt (dd (f ++ [s])) else f) else (if heads.contains s then srt (dd (f ++ [s])) else f) := rfl
noncomputable def dlcG (heads nul : List Str) (h : Str) (g : List Rule) : List Str := g.foldl (fun f r => if r.1 == h then dlcB heads nul r.2 f else f) []
noncomputable def dlcOf (g : List Rule) (h : Str) : List Str := dlcG (headsOf g) (srt (hbOf g [])) h g
theorem dlcB_len (heads nul : List Str) : ∀ (b f : List Str), (dlcB heads nul b f).length ≤ f.length + b.length
  | [], f => by simp [dlcB]
  | s :: b, f => by
    have h1 : ((if heads.contains s then srt (dd (f ++ [s])) else f) : List Str).length ≤ f.length + 1 := by
      split
      · rw [srt_len]; have := dd_len (f ++ [s]); simpa using this
      · omega
    unfold dlcB
    split
    · have := dlcB_len heads nul b (if heads.contains s then srt (dd (f ++ [s])) else f)
      rw [List.length_cons]; omega
    · rw [List.length_cons]; omega
theorem dlcG_snoc (heads nul : List Str) (h : Str) (g : List Rule) (r : Rule) : dlcG heads nul h (g ++ [r]) = if r.1 == h then dlcB heads nul r.2 (dlcG heads nul h g) else dlcG heads nul h g := by
  unfold dlcG; rw [List.foldl_append]; rfl
theorem dlcG_len (heads nul : List Str) (h : Str) (n : Nat) : ∀ (g : List Rule), (∀ r ∈ g, r.2.length ≤ n) → (dlcG heads nul h g).length ≤ g.length * n := by
  have key : ∀ (g : List Rule) (f : List Str), (∀ r ∈ g, r.2.length ≤ n) → (g.foldl (fun f r => if r.1 == h then dlcB heads nul r.2 f else f) f).length ≤ f.length + g.length * n := by
    intro g
    induction g with
    | nil => intro f _; simp
    | cons r g ih =>
      intro f hb
      have h3 := hb r List.mem_cons_self
      have h1 := ih (if r.1 == h then dlcB heads nul r.2 f else f) fun r hr => hb r (List.mem_cons_of_mem _ hr)
      have h2 : ((if r.1 == h then dlcB heads nul r.2 f else f) : List Str).length ≤ f.length + n := by
        split
        · have := dlcB_len heads nul r.2 f; omega
        · omega
      rw [List.foldl_cons, List.length_cons, Nat.succ_mul]; omega
  intro g hb
  have := key g [] hb
  simpa [dlcG] using this
theorem flat_strs (l : List Str) : ∀ d ∈ l.map PyData.str, flat d = true := fun d hd => by
  obtain ⟨s, _, rfl⟩ := List.mem_map.mp hd; rfl

section
variable {prog : Program} {w : World} {mg mb : Str → Option Value} {P : Params}
theorem fn_dlc (G : G3 prog w mg mb P) {k : Nat} (g : List Rule) (h : Str) (hg : g.length ≤ 15) (hb : ∀ r ∈ g, r.2.length ≤ 4) : FnNew (C3 prog w mg mb P) (k + 1 + 1 + 1) 95 [gD g, .str h] ((dlcOf g h).map .str) := by
  refine fnNew_intro (ps := ["g", "head"]) (fnDef_of rfl rfl rfl rfl rfl rfl rfl (by ((intro vs h; rcases vs with _ | ⟨_, _ | ⟨_, _ | ⟨_, _ | ⟨_, _ | ⟨_, _ | ⟨_, _⟩⟩⟩⟩⟩⟩ <;> first | rfl | (simp at h; done)))) (by decide) rfl rfl rfl rfl rfl rfl) rfl fun A L s₀ Z₀ E hA hO hF => ?_
  have hsl : sizeLine = 16777216 := rfl
  refine ex_cons (xs_assign (ev_call hA rfl (G.at rfl) rfl rfl (evs_cons (ev_var rfl rfl) evs_nil rfl) rfl (fn_heads_of G g (by omega))) rfl (hO _) rfl ?_)
  refine ex_cons (xs_assign (ev_call hA rfl (G.at rfl) rfl rfl (evs_cons (ev_var rfl rfl) evs_nil rfl) rfl (fn_nullable G g hg fun r hr => by have := hb r hr; omega)) rfl (hO _) rfl ?_)
  refine ex_cons (xs_new rfl (hO _) ?_)
  unfold dlcOf
  generalize headsOf g = heads
  generalize srt (hbOf g []) = nul
  refine ex_cons (xs_for (k := 0) (fun i Γ' => Has Γ' [("found", .own ((dlcG heads nul h (g.take i)).map .str)), ("heads", .fz (sD heads)), ("nullables", .fz (sD nul)), ("head", .fz (.str h))]) (src_list (ds := g.map rD) hA.hd (ev_var rfl rfl)) (fun _ => rfl) (by (repeat (first | exact Has.nil _ | refine Has.add rfl ?_))) (fun i Γ' hi hJ => ?_) (fun Γ' hJ => ?_))
  · have hi' : i < g.length := by simpa using hi
    rw [getD_map rD hi']
    have hbi := hb _ (List.getElem_mem hi')
    have hst : dlcG heads nul h (g.take (i + 1)) = if g[i].1 == h then dlcB heads nul g[i].2 (dlcG heads nul h (g.take i)) else dlcG heads nul h (g.take i) := by
      rw [List.take_add_one, List.getElem?_eq_getElem hi']; exact dlcG_snoc _ _ _ _ _
    have hln := dlcG_len heads nul h 4 (g.take i) fun r hr => hb r (List.mem_of_mem_take hr)
    have hln2 : (dlcG heads nul h (g.take i)).length ≤ 56 := by
      rw [List.length_take] at hln
      have : min i g.length ≤ 14 := by omega
      omega
    rw [hst]
    generalize dlcG heads nul h (g.take i) = f0 at *
    refine ⟨_, as_name rfl (hO _), ex_has hJ.cons ?_⟩
    refine ex_cons (xs_if (c_eqS hA (e_item (ev_var rfl rfl) (ev_int 0) rfl (by decide) (by decide) rfl) (ev_var rfl rfl)) (fun hbb => ?_) (fun hbb => ?_))
    · rw [if_pos hbb]
      refine ex_cons (xs_for (k := 0) (fun j Γ' => ∃ f, f.length ≤ f0.length + j ∧ dlcB heads nul (g[i].2.drop j) f = dlcB heads nul g[i].2 f0 ∧ Has Γ' [("found", .own (f.map .str)), ("heads", .fz (sD heads)), ("nullables", .fz (sD nul)), ("head", .fz (.str h))])
        (src_list (ds := g[i].2.map .str) hA.hd (e_item (ev_var rfl rfl) (ev_int 1) rfl (by decide) (by decide) rfl)) (fun _ => rfl) ⟨f0, by omega, rfl, by (repeat (first | exact Has.nil _ | refine Has.add rfl ?_))⟩ (fun j Γ'' hj hJ' => ?_) (fun Γ'' hJ' => ?_))
      · have hj' : j < g[i].2.length := by simpa using hj
        rw [getD_map PyData.str hj']
        obtain ⟨f, hfl, hfe, hH⟩ := hJ'
        rw [List.drop_eq_getElem_cons hj'] at hfe
        rw [dlcB_cons] at hfe
        refine ⟨_, as_name rfl (hO _), ex_has hH.cons ?_⟩
        refine ex_join (fun Γ' => Has Γ' [("found", .own (((if heads.contains g[i].2[j] then srt (dd (f ++ [g[i].2[j]])) else f) : List Str).map .str)), ("symbol", .fz (.str g[i].2[j])), ("heads", .fz (sD heads)), ("nullables", .fz (sD nul)), ("head", .fz (.str h))])
          (xs_if (c_inL hA (ev_var rfl rfl) (ev_var rfl rfl) rfl) (fun hb1 => ?_) (fun hb1 => ?_)) (fun Γ' hG => ex_has hG ?_)
        · rw [if_pos hb1]
          exact ex_cons (xs_assignN (evn_callF hA rfl (G.at rfl) rfl rfl (evs_cons (ev_own rfl rfl) (evs_cons (ev_list (evs_cons (ev_var rfl rfl) evs_nil rfl) (by show 1 ≤ sizeLine; decide)) evs_nil rfl) rfl) rfl (fn_merged G f [g[i].2[j]] (by simp only [List.length_cons, List.length_nil]; omega)) (flat_strs _)) rfl (hO _) rfl (ex_nil (by (repeat (first | exact Has.nil _ | refine Has.add rfl ?_)))))
        · rw [if_neg (by rw [hb1]; decide)]
          exact ex_nil (by (repeat (first | exact Has.nil _ | refine Has.add rfl ?_)))
        have hl2 : ((if heads.contains g[i].2[j] then srt (dd (f ++ [g[i].2[j]])) else f) : List Str).length ≤ f.length + 1 := by
          split
          · rw [srt_len]; have := dd_len (f ++ [g[i].2[j]]); simpa using this
          · omega
        generalize ((if heads.contains g[i].2[j] then srt (dd (f ++ [g[i].2[j]])) else f) : List Str) = f1 at *
        refine ex_cons (xs_if (c_notInL hA (ev_var rfl rfl) (ev_var rfl rfl) rfl) (fun hb2 => ?_) (fun hb2 => ?_))
        · have hn2 : nul.contains g[i].2[j] = false := by simpa using hb2
          rw [hn2, if_neg (by decide)] at hfe
          refine ex_cons (xs_break (ex_nil (ex_nil ?_)))
          rw [← hfe]; (repeat (first | exact Has.nil _ | refine Has.add rfl ?_))
        · have hn2 : nul.contains g[i].2[j] = true := by simpa using hb2
          rw [hn2, if_pos rfl] at hfe
          exact ex_nil (ex_nil ⟨f1, by omega, hfe, by (repeat (first | exact Has.nil _ | refine Has.add rfl ?_))⟩)
      · obtain ⟨f, hfl, hfe, hH⟩ := hJ'
        rw [show (g[i].2.map PyData.str).length = g[i].2.length by simp, List.drop_length] at hfe
        refine ex_nil (ex_nil ?_)
        have : dlcB heads nul g[i].2 f0 = f := hfe.symm
        rw [this]; exact hH
    · rw [if_neg (by rw [hbb]; decide)]
      exact ex_nil (ex_nil (by (repeat (first | exact Has.nil _ | refine Has.add rfl ?_))))
  · rw [show (g.map rD).length = g.length by simp, List.take_length] at hJ
    exact ex_has hJ (ex_cons (xs_returnOwn rfl rfl rfl))
end
end

section
set_option autoImplicit false
set_option linter.unusedVariables false
set_option maxRecDepth 100000
open PySem PyProof.Rows PySem.W

theorem EvN.ev {C : Cx} {A : Around} {env : Env} {Γ : Tab} {e : Expr} {out : List PyData} {μ : Bool} (h : EvN C A env Γ e out) : Ev C A env Γ e μ (.list out) := fun E s m Z₀ Z I =>
  wpAny_mono (h E s m Z₀ Z I) (fun v s' ⟨kp, a, vs, n, hv, na, ha, r⟩ => ⟨kp, by
    subst hv
    refine Rd.sel μ (.list ha (fun z => ?_) (r.reZ fun b o _ q => .inl q))
    obtain ⟨o, e⟩ := I.z.st a z; rw [na] at e; cases e⟩) fun _ _ x => x

theorem mem_addNew {f : List Str} {s x : Str} : x ∈ addNew f s ↔ x ∈ f ∨ x = s := by
  unfold addNew
  split
  · rename_i h
    constructor
    · exact .inl
    · rintro (h' | rfl)
      · exact h'
      · simpa using h
  · simp
theorem mem_foldNew : ∀ (l f : List Str) (x : Str), x ∈ l.foldl addNew f ↔ x ∈ f ∨ x ∈ l
  | [], f, x => by simp
  | s :: l, f, x => by
    rw [List.foldl_cons, mem_foldNew l, mem_addNew, List.mem_cons]
    constructor
    · rintro ((h | h) | h)
      · exact .inl h
      · exact .inr (.inl h)
      · exact .inr (.inr h)
    · rintro (h | h | h)
      · exact .inl (.inl h)
      · exact .inl (.inr h)
      · exact .inr h
theorem mem_dd (l : List Str) (x : Str) : x ∈ dd l ↔ x ∈ l := by unfold dd; rw [mem_foldNew]; simp
theorem mem_srt (l : List Str) (x : Str) : x ∈ srt l ↔ x ∈ l := (srt_perm l).mem_iff
theorem dlcB_mem (heads nul : List Str) : ∀ (b f : List Str), (∀ x ∈ f, x ∈ heads) → ∀ x ∈ dlcB heads nul b f, x ∈ heads
  | [], f, h => h
  | s :: b, f, h => by
    have h1 : ∀ x ∈ ((if heads.contains s then srt (dd (f ++ [s])) else f) : List Str), x ∈ heads := fun x hx => by
      split at hx
      · rename_i hs
        rw [mem_srt, mem_dd] at hx
        rcases List.mem_append.mp hx with q | q
        · exact h x q
        · cases List.mem_singleton.mp q; simpa using hs
      · exact h x hx
    rw [dlcB_cons]
    split
    · exact dlcB_mem heads nul b _ h1
    · exact h1
theorem dlcG_mem (heads nul : List Str) (h : Str) : ∀ (g : List Rule) (f : List Str), (∀ x ∈ f, x ∈ heads) → ∀ x ∈ g.foldl (fun f r => if r.1 == h then dlcB heads nul r.2 f else f) f, x ∈ heads
  | [], _, hf => hf
  | r :: g, f, hf => by
    rw [List.foldl_cons]
    refine dlcG_mem heads nul h g _ ?_
    split
    · exact dlcB_mem heads nul r.2 f hf
    · exact hf
theorem dlcOf_mem (g : List Rule) (h : Str) : ∀ x ∈ dlcOf g h, x ∈ headsOf g := dlcG_mem _ _ h g [] fun x hx => by cases hx
noncomputable def lcOf (g : List Rule) (h : Str) : List Str := clFin (dlcOf g) ((dlcOf g h).length + clLeft (headsOf g) (dlcOf g h)) 0 (dlcOf g h)

section
variable {prog : Program} {w : World} {mg mb : Str → Option Value} {P : Params}
theorem fn_lc (G : G3 prog w mg mb P) {k : Nat} (g : List Rule) (h : Str) (hg : g.length ≤ 15) (hb : ∀ r ∈ g, r.2.length ≤ 4) (hsmall : (dlcOf g h).length + (headsOf g).length < 64) : FnOk (C3 prog w mg mb P) (k + 1 + 1 + 1 + 1) 102 [gD g, .str h] (sD (srt (lcOf g h))) := by
  refine fn_intro (ps := ["g", "head"]) (fnDef_of rfl rfl rfl rfl rfl rfl rfl (by ((intro vs h; rcases vs with _ | ⟨_, _ | ⟨_, _ | ⟨_, _ | ⟨_, _ | ⟨_, _ | ⟨_, _⟩⟩⟩⟩⟩⟩ <;> first | rfl | (simp at h; done)))) (by decide) rfl rfl rfl rfl rfl rfl) rfl fun A L s₀ Z₀ E hA hO hF => ?_
  have hsl : sizeLine = 16777216 := rfl
  have hcl : clLeft (headsOf g) (dlcOf g h) ≤ (headsOf g).length := by unfold clLeft; exact List.length_filter_le _ _
  refine ex_cons (xs_assignN (evn_call hA rfl (G.at rfl) rfl rfl (evs_cons (ev_var rfl rfl) (evs_cons (ev_var rfl rfl) evs_nil rfl) rfl) rfl (fn_dlc G g h hg hb)) rfl (hO _) rfl ?_)
  refine ex_cons (xs_assign (ev_int 0) rfl (hO _) rfl ?_)
  refine ex_cons (xs_while (fun n Γ' => ∃ p f, p + n = (dlcOf g h).length + clLeft (headsOf g) (dlcOf g h) ∧ f.length + clLeft (headsOf g) f ≤ (dlcOf g h).length + clLeft (headsOf g) (dlcOf g h) ∧ clFin (dlcOf g) n p f = lcOf g h ∧ Has Γ' [("found", .own (f.map .str)), ("place", .fz (.int (p : Int))), ("g", .fz (gD g))]) _ ⟨0, dlcOf g h, by omega, Nat.le_refl _, rfl, by (repeat (first | exact Has.nil _ | refine Has.add rfl ?_))⟩ fun n Γ' hJ => ?_)
  obtain ⟨p, f, hpn, hinv, hfin, hH⟩ := hJ
  refine ⟨decide ((p : Int) < (f.length : Int)), (c_lt hA (ev_var rfl rfl) (e_len (n := f.length) (G.b rfl rfl PyProof.Rows.Boot.«len» (by decide)) (ev_own rfl rfl) rfl (by simp [lenD]) (by omega))).has hH, fun hc => ?_, fun hc => ?_⟩
  · have hp : p < f.length := by have := of_decide_eq_true hc; omega
    obtain ⟨n', rfl⟩ : ∃ n', n = n' + 1 := ⟨n - 1, by omega⟩
    refine ex_has hH ?_
    have hit : (f.map PyData.str)[((p : Nat) : Int).toNat]? = some (.str f[p]) := by simp [hp]
    refine ex_cons (xs_for (k := 0) (fun i Γ' => Has Γ' [("found", .own ((((dlcOf g f[p]).take i).foldl addNew f).map .str)), ("place", .fz (.int (p : Int))), ("g", .fz (gD g))])
      (src_list (ds := (dlcOf g f[p]).map .str) hA.hd (evn_callF hA rfl (G.at rfl) rfl rfl (evs_cons (ev_var rfl rfl) (evs_cons (e_item (ev_own rfl rfl) (ev_var rfl rfl) rfl (by omega) (by omega) hit) evs_nil rfl) rfl) rfl (fn_dlc G g f[p] hg hb) (flat_strs _)).ev) (fun _ => rfl) (by (repeat (first | exact Has.nil _ | refine Has.add rfl ?_))) (fun i Γ' hi hJ => ?_) (fun Γ' hJ => ?_))
    · have hi' : i < (dlcOf g f[p]).length := by simpa using hi
      rw [getD_map PyData.str hi']
      have hst : ((dlcOf g f[p]).take (i + 1)).foldl addNew f = addNew (((dlcOf g f[p]).take i).foldl addNew f) (dlcOf g f[p])[i] := by
        rw [List.take_add_one, List.getElem?_eq_getElem hi', List.foldl_append]; rfl
      have hin := foldNew_inv (U := headsOf g) ((dlcOf g f[p]).take i) f fun s hs => dlcOf_mem g f[p] s (List.mem_of_mem_take hs)
      rw [hst]
      generalize ((dlcOf g f[p]).take i).foldl addNew f = fi at *
      refine ⟨_, as_name rfl (hO _), ex_has hJ.cons ?_⟩
      refine ex_cons (xs_if (c_notInL hA (ev_var rfl rfl) (ev_own rfl rfl) rfl) (fun hb2 => ?_) (fun hb2 => ?_))
      · refine ex_cons (xs_append rfl rfl (by rw [List.length_map]; omega) (ev_var rfl rfl) rfl rfl rfl (ex_nil (ex_nil (Has.add ?_ (by (repeat (first | exact Has.nil _ | refine Has.add rfl ?_)))))))
        show some (Ent.own _) = some (Ent.own _)
        have hb' : fi.contains (dlcOf g f[p])[i] = false := by simpa using hb2
        rw [addNew, if_neg (by rw [hb']; decide), List.map_append]; rfl
      · refine ex_nil (ex_nil (Has.add ?_ (by (repeat (first | exact Has.nil _ | refine Has.add rfl ?_)))))
        have hb' : fi.contains (dlcOf g f[p])[i] = true := by simpa using hb2
        rw [addNew, if_pos hb']; rfl
    · rw [show ((dlcOf g f[p]).map PyData.str).length = (dlcOf g f[p]).length by simp, List.take_length] at hJ
      refine ex_has hJ (ex_cons (xs_assign (e_addI (ev_var rfl rfl) (ev_int 1)) rfl (hO _) rfl (ex_nil ⟨n', by omega, p + 1, (dlcOf g f[p]).foldl addNew f, by omega, ?_, ?_, by (repeat (first | exact Has.nil _ | refine Has.add rfl ?_))⟩)))
      · have := foldNew_inv (U := headsOf g) (dlcOf g f[p]) f (dlcOf_mem g f[p])
        omega
      · rw [← hfin]
        show _ = if p < f.length then clFin _ n' (p + 1) _ else f
        rw [if_pos hp, List.getElem?_eq_getElem hp]; rfl
  · have hp : ¬ p < f.length := by have := of_decide_eq_false hc; omega
    have hR : lcOf g h = f := by
      rw [← hfin]
      cases n with
      | zero => rfl
      | succ n => show (if p < f.length then _ else f) = f; rw [if_neg hp]
    refine ex_has hH (ex_cons (xs_return (e_srt (G.b rfl rfl PyProof.Rows.Boot.«sorted» (by decide)) (ev_own rfl rfl) rfl (by omega)) ?_))
    show Out.ret _ = Out.ret _
    rw [hR]
end
end

section
set_option autoImplicit false
set_option linter.unusedVariables false
set_option maxRecDepth 100000
open PySem PyProof.Rows PySem.W

noncomputable def blankS (s : Str) : Str := Str.ofString " " ++ s
noncomputable def lawL (r : Rule) : Str := r.1 ++ Str.ofString " ->" ++ Str.join "" (r.2.map blankS)

theorem join_none (l : List Str) : (Str.join "" l).cps.toList = l.flatMap fun s => s.cps.toList := by
  induction l with
  | nil => rfl
  | cons a l ih =>
    cases l with
    | nil => simp [Str.join]
    | cons b r =>
      have h : Str.join "" (a :: b :: r) = a ++ "" ++ Str.join "" (b :: r) := rfl
      rw [h, Str.cps_append, Str.cps_append]
      simp only [Array.toList_append, ih, List.flatMap_cons]
      have : ("" : Str).cps.toList = [] := by decide
      rw [this]; simp
theorem jl_cons (a : List Nat) (l : List (List Nat)) : jl (a :: l) = a ++ l.flatMap fun b => 32 :: b := by
  induction l generalizing a with
  | nil => simp [jl]
  | cons b l ih => simp only [jl, ih, List.flatMap_cons, List.cons_append]
theorem lawL_eq (r : Rule) : lawL r = lineOf r := str_ext (by
  unfold lawL lineOf
  rw [Str.cps_append, Str.cps_append, join_cps]
  simp only [Array.toList_append, join_none, List.map_cons, jl_cons, List.flatMap_map, List.flatMap_cons]
  have h1 : (Str.ofString " ->").cps.toList = 32 :: ("->" : Str).cps.toList := by decide
  rw [h1, List.append_assoc]
  congr 2
  congr 1
  funext a
  unfold blankS
  rw [Str.cps_append, Array.toList_append]; rfl)

section
variable {prog : Program} {w : World} {mg mb : Str → Option Value} {P : Params}
theorem fn_lines (G : G3 prog w mg mb P) {k : Nat} (g : List Rule) (hg : Small g) : FnOk (C3 prog w mg mb P) (k + 1) 190 [gD g] (sD (g.map lineOf)) := by
  refine fn_intro (ps := ["rules"]) (fnDef_of rfl rfl rfl rfl rfl rfl rfl (by ((intro vs h; rcases vs with _ | ⟨_, _ | ⟨_, _ | ⟨_, _ | ⟨_, _ | ⟨_, _ | ⟨_, _⟩⟩⟩⟩⟩⟩ <;> first | rfl | (simp at h; done)))) (by decide) rfl rfl rfl rfl rfl rfl) rfl fun A L s₀ Z₀ E hA hO hF => ?_
  have hsl : sizeLine = 16777216 := rfl
  have h1 := hg.len
  refine ex_cons (xs_return ((e_comp g rD (fun r => [.str (lawL r)]) ⟨rfl, rfl, rfl, rfl⟩ ((src_list hA.hd (ev_var rfl rfl)).cast (by simp) rfl) (fun _ => rfl) (by rw [flat_one]; simp; omega) fun L s₀ Z₀ r own hr => ?_).cast ?_) rfl)
  · refine turn_pair true hA rfl rfl (own _ rfl) (own _ rfl) rfl rfl rfl rfl (fun ds => rfl) (fun q => by cases q) (fun ds _ => inn_emit rfl ?_)
    have hr1 := hg.hd r hr
    have hr2 := hg.bl r hr
    have e1 : (Str.ofString " ").length = 1 := by decide
    have e3 : (Str.ofString " ->").length = 3 := by decide
    have e0 : (Str.ofString "").length = 0 := by decide
    have hr3 : ((r.2.map blankS).map (·.length)).sum ≤ r.2.length * 1001 := by
      have := sum_le (l := r.2.map blankS) (n := 1001) fun s hs => by
        obtain ⟨t, ht, rfl⟩ := List.mem_map.mp hs
        have := hg.sy r hr t ht
        unfold blankS; rw [Str.length_append]; omega
      rwa [List.length_map] at this
    have hr4 : r.2.length * 1001 ≤ 1000 * 1001 := Nat.mul_le_mul_right _ hr2
    have hj : (Str.join "" (r.2.map blankS)).length ≤ r.2.length * 1001 := by
      refine Nat.le_trans ?_ hr3
      have : ∀ l : List Str, (Str.join "" l).length = (l.map (·.length)).sum := fun l => by
        show (Str.join "" l).cps.size = _
        rw [← Array.length_toList, join_none, List.length_flatMap]; rfl
      rw [this]; exact Nat.le_refl _
    refine e_addS (e_addS (ev_var rfl rfl) (ev_str _ (strOk_ofString _)) (by omega)) (e_join (ts := r.2.map blankS) (ev_str _ (strOk_ofString _)) ?_ rfl rfl rfl (by rw [List.length_map, e0]; omega)) (by rw [Str.length_append]; omega)
    refine (e_comp r.2 .str (fun s => [.str (blankS s)]) ⟨rfl, rfl, rfl, rfl⟩ ((src_list (ds := r.2.map .str) hA.hd (ev_var rfl rfl)).cast (by simp) rfl) (fun _ => rfl) (by rw [flat_one]; simp; omega) fun L s₀ Z₀ s own hs => ?_).cast (by rw [flat_one, List.map_map]; rfl)
    have := hg.sy r hr s hs
    exact turn_name true rfl (own _ rfl) rfl rfl (fun ds => rfl) (fun q => by cases q) (fun ds _ => inn_emit rfl (e_addS (ev_str _ (strOk_ofString _)) (ev_var rfl rfl) (by omega)))
  · show PyData.list _ = PyData.list _
    rw [flat_one, List.map_map]
    congr 1
    exact List.map_congr_left fun r _ => by rw [lawL_eq]; rfl

theorem fn_read_rz (G : G3 prog w mg mb P) {k : Nat} (lines : List Str) (msg : Str) (hf : FnRz (C3 prog w mg mb P) k 114 [sD lines] 24 msg) :
    FnOk (C3 prog w mg mb P) (k + 1) 197 [sD lines] (.tuple [.none, .str msg]) := by
  refine fn_intro (ps := ["lines"]) (fnDef_of rfl rfl rfl rfl rfl rfl rfl (by ((intro vs h; rcases vs with _ | ⟨_, _ | ⟨_, _ | ⟨_, _ | ⟨_, _ | ⟨_, _ | ⟨_, _⟩⟩⟩⟩⟩⟩ <;> first | rfl | (simp at h; done)))) (by decide) rfl rfl rfl rfl rfl rfl) rfl fun A L s₀ Z₀ E hA hO hF => ?_
  refine ex_cons (xs_assign ev_none rfl (hO _) rfl ?_)
  refine ex_cons (xs_assign ev_none rfl (hO _) rfl ?_)
  refine ex_cons (xs_try_rz (μ := false) hA hF rfl rfl (G.at rfl) rfl rfl (evs_cons (ev_var rfl rfl) evs_nil rfl) rfl hf rfl rfl (G.at rfl) excAt3 rfl hO rfl (fun A' hu => su_str (k := 0) (by rw [hu]; have := hA.un; omega) excAt3 (G.b rfl rfl PyProof.Rows.Boot.«str» (by decide)) rfl rfl rfl (by decide) su_nil) ?_)
  exact ex_cons (xs_return (ev_tuple (evs_cons (ev_var rfl rfl) (evs_cons (ev_var rfl rfl) evs_nil rfl) rfl) (by show 2 ≤ sizeLine; decide)) rfl)
theorem fn_read_ok (G : G3 prog w mg mb P) {k : Nat} (lines : List Str) (d : PyData) (hf : FnOk (C3 prog w mg mb P) k 114 [sD lines] d) :
    FnOk (C3 prog w mg mb P) (k + 1) 197 [sD lines] (.tuple [d, .none]) := by
  refine fn_intro (ps := ["lines"]) (fnDef_of rfl rfl rfl rfl rfl rfl rfl (by ((intro vs h; rcases vs with _ | ⟨_, _ | ⟨_, _ | ⟨_, _ | ⟨_, _ | ⟨_, _ | ⟨_, _⟩⟩⟩⟩⟩⟩ <;> first | rfl | (simp at h; done)))) (by decide) rfl rfl rfl rfl rfl rfl) rfl fun A L s₀ Z₀ E hA hO hF => ?_
  refine ex_cons (xs_assign ev_none rfl (hO _) rfl ?_)
  refine ex_cons (xs_assign ev_none rfl (hO _) rfl ?_)
  refine ex_join (fun Γ' => Has Γ' [("got", .fz d), ("told", .fz .none)])
    (xs_try_ok fun E' => ex_cons (xs_assign (ev_call hA rfl (G.at rfl) rfl rfl (evs_cons (ev_var rfl rfl) evs_nil rfl) rfl hf) rfl (hO _) rfl (ex_nil (by (repeat (first | exact Has.nil _ | refine Has.add rfl ?_)))))) (fun Γ' hG => ex_has hG ?_)
  exact ex_cons (xs_return (ev_tuple (evs_cons (ev_var rfl rfl) (evs_cons (ev_var rfl rfl) evs_nil rfl) rfl) (by show 2 ≤ sizeLine; decide)) rfl)
end
end

section
set_option autoImplicit false
set_option linter.unusedVariables false
set_option maxRecDepth 100000
open PySem PyProof.Rows PySem.W

noncomputable def headT : List Str := ["A", "B", "C"]
noncomputable def symT : List Str := ["A", "B", "C", "a", "b", "c"]
noncomputable def baseT : List (List Rule) := [[("A", ["a"])], [("B", ["A", "b"]), ("A", []), ("A", ["a", "A"])], [("C", ["B", "A"]), ("B", ["A", "c"]), ("A", ["C"]), ("A", [])], [("A", ["B", "b"]), ("B", ["C"]), ("C", ["c", "A"]), ("B", [])], [("C", ["c", "C"]), ("A", ["B"])]]
noncomputable def bodyT : List (List Str) := [[], ["a"], ["A", "b"], ["B", "A"], ["C", "c", "C"], ["b", "B"], ["B", "C", "A"], ["A", "A"]]
noncomputable def badT : List (Str × Bool) := [("A", true), ("", true), ("A a -> b", true), ("A => a", true), ("A  -> a", true), (" -> a", false), ("A ->  a", false), ("B -> b ", false), ("A -> a $ b", false), ("A -> a -> b", false), ("$ -> a", false), ("B -> a\nb c", false)]
noncomputable def oddT : List (Str × Bool) := [("$", false), ("", false), ("->", false), ("a b", false), (" ", false), ("a\n", false), ("\n", false), ("$$", true), ("-", true), (">", true), ("a$", true), ("->-", true)]
noncomputable def tD (l : List Str) : PyData := .tuple (l.map .str)
noncomputable def rtD (r : Rule) : PyData := .tuple [.str r.1, tD r.2]
noncomputable def grD (g : List Rule) : PyData := .tuple (g.map rtD)
noncomputable def sbD (r : Str × Bool) : PyData := .tuple [.str r.1, .bool r.2]
section
variable {prog : Program} {w : World} {mg mb : Str → Option Value} {P : Params}
theorem top_heads : TopD (C3 prog w mg mb P) (.ref 115) (.tuple (headT.map .str)) := by (repeat (first | exact TopD.none | exact TopD.bool _ | exact TopD.int _ _ | exact TopD.str _ _ (strOk_ofString _) | exact TopDs.nil | refine TopDs.cons ?_ ?_ | refine TopD.tuple rfl ?_ | refine TopD.list rfl ?_))
theorem top_syms : TopD (C3 prog w mg mb P) (.ref 116) (.tuple (symT.map .str)) := by (repeat (first | exact TopD.none | exact TopD.bool _ | exact TopD.int _ _ | exact TopD.str _ _ (strOk_ofString _) | exact TopDs.nil | refine TopDs.cons ?_ ?_ | refine TopD.tuple rfl ?_ | refine TopD.list rfl ?_))
theorem top_bases : TopD (C3 prog w mg mb P) (.ref 150) (.tuple (baseT.map grD)) := by (repeat (first | exact TopD.none | exact TopD.bool _ | exact TopD.int _ _ | exact TopD.str _ _ (strOk_ofString _) | exact TopDs.nil | refine TopDs.cons ?_ ?_ | refine TopD.tuple rfl ?_ | refine TopD.list rfl ?_))
theorem top_bodies : TopD (C3 prog w mg mb P) (.ref 159) (.tuple (bodyT.map tD)) := by (repeat (first | exact TopD.none | exact TopD.bool _ | exact TopD.int _ _ | exact TopD.str _ _ (strOk_ofString _) | exact TopDs.nil | refine TopDs.cons ?_ ?_ | refine TopD.tuple rfl ?_ | refine TopD.list rfl ?_))
theorem top_bad : TopD (C3 prog w mg mb P) (.ref 172) (.tuple (badT.map sbD)) := by (repeat (first | exact TopD.none | exact TopD.bool _ | exact TopD.int _ _ | exact TopD.str _ _ (strOk_ofString _) | exact TopDs.nil | refine TopDs.cons ?_ ?_ | refine TopD.tuple rfl ?_ | refine TopD.list rfl ?_))
theorem top_odd : TopD (C3 prog w mg mb P) (.ref 185) (.tuple (oddT.map sbD)) := by (repeat (first | exact TopD.none | exact TopD.bool _ | exact TopD.int _ _ | exact TopD.str _ _ (strOk_ofString _) | exact TopDs.nil | refine TopDs.cons ?_ ?_ | refine TopD.tuple rfl ?_ | refine TopD.list rfl ?_))
end

noncomputable def newRule (x y : Int) : Rule := (headT[idx x 3]?.getD "", bodyT[idx y 8]?.getD [])
noncomputable def afterOf (rules : List Rule) (kind place x y : Int) : List Rule :=
  if kind = 0 then rules.take (idx place rules.length) ++ rules.drop (idx place rules.length + 1)
  else if kind = 1 then [rules[idx place rules.length]?.getD ("", [])] ++ rules.take (idx place rules.length) ++ rules.drop (idx place rules.length + 1)
  else rules.take (idx place (rules.length + 1)) ++ [newRule x y] ++ rules.drop (idx place (rules.length + 1))
noncomputable def badAt (x : Int) : Str × Bool := badT[idx x 12]?.getD ("", false)
noncomputable def brokenOf (rules : List Rule) (place x : Int) : List Str := (rules.take (idx place (rules.length + 1))).map lineOf ++ [(badAt x).1] ++ (rules.drop (idx place (rules.length + 1))).map lineOf
structure Edit where
  lines : List Str
  due : Option (List Rule)
  number : Int
noncomputable def editOf (rules : List Rule) (kind place x y : Int) : Edit :=
  if kind = 2 then ⟨brokenOf rules place x, none, if (badAt x).2 then (idx place (rules.length + 1) : Int) + 1 else 0⟩
  else if (afterOf rules kind place x y).length = 0 then ⟨[], none, 0⟩
  else ⟨(afterOf rules kind place x y).map lineOf, some (afterOf rules kind place x y), 0⟩
noncomputable def optG : Option (List Rule) → PyData
  | none => .none
  | some g => gD g
noncomputable def editD (e : Edit) : PyData := .tuple [sD e.lines, optG e.due, .int e.number]
theorem Small.sub {g g' : List Rule} (h : Small g) (hl : g'.length ≤ 1000) (hs : ∀ r ∈ g', r ∈ g) : Small g' := ⟨hl, fun r hr => h.hd r (hs r hr), fun r hr => h.bl r (hs r hr), fun r hr => h.sy r (hs r hr)⟩
theorem newRule_small (x y : Int) : (newRule x y).1.length ≤ 1000 ∧ (newRule x y).2.length ≤ 1000 ∧ ∀ s ∈ (newRule x y).2, s.length ≤ 1000 := by
  have h1 : ∀ i < 3, ((headT[i]?.getD "" : Str)).length ≤ 1000 := by decide
  have h2 : ∀ i < 8, (bodyT[i]?.getD []).length ≤ 1000 ∧ ∀ s ∈ bodyT[i]?.getD [], s.length ≤ 1000 := by decide
  exact ⟨h1 _ (idx_lt x (by decide)), (h2 _ (idx_lt y (by decide))).1, (h2 _ (idx_lt y (by decide))).2⟩
theorem after_mem {rules : List Rule} {kind place x y : Int} (hn : 0 < rules.length) : ∀ r ∈ afterOf rules kind place x y, r ∈ rules ∨ r = newRule x y := fun r hr => by
  unfold afterOf at hr
  have hq := idx_lt place hn
  split at hr
  · rcases List.mem_append.mp hr with h | h
    · exact .inl (List.mem_of_mem_take h)
    · exact .inl (List.mem_of_mem_drop h)
  · split at hr
    · rcases List.mem_append.mp hr with h | h
      · rcases List.mem_append.mp h with h | h
        · rw [List.mem_singleton.mp h, List.getElem?_eq_getElem hq]; exact .inl (List.getElem_mem hq)
        · exact .inl (List.mem_of_mem_take h)
      · exact .inl (List.mem_of_mem_drop h)
    · rcases List.mem_append.mp hr with h | h
      · rcases List.mem_append.mp h with h | h
        · exact .inl (List.mem_of_mem_take h)
        · exact .inr (List.mem_singleton.mp h)
      · exact .inl (List.mem_of_mem_drop h)
theorem after_len {rules : List Rule} {kind place x y : Int} (hn : 0 < rules.length) : (afterOf rules kind place x y).length ≤ rules.length + 1 := by
  unfold afterOf
  have hq := idx_lt place hn
  have hp := idx_lt place (n := rules.length + 1) (by omega)
  split
  · simp only [List.length_append, List.length_take, List.length_drop]; omega
  · split
    · simp only [List.length_append, List.length_take, List.length_drop, List.length_cons, List.length_nil]; omega
    · simp only [List.length_append, List.length_take, List.length_drop, List.length_cons, List.length_nil]; omega
theorem after_small {rules : List Rule} {kind place x y : Int} (hs : Small rules) (hl : rules.length ≤ 100) (hn : 0 < rules.length) : Small (afterOf rules kind place x y) := by
  obtain ⟨n1, n2, n3⟩ := newRule_small x y
  have hl' := after_len (kind := kind) (place := place) (x := x) (y := y) hn
  refine ⟨by omega, fun r hr => ?_, fun r hr => ?_, fun r hr => ?_⟩ <;> rcases after_mem hn r hr with h | rfl
  · exact hs.hd r h
  · exact n1
  · exact hs.bl r h
  · exact n2
  · exact hs.sy r h
  · exact n3

section
variable {prog : Program} {w : World} {mg mb : Str → Option Value} {P : Params}
theorem fn_edit (G : G3 prog w mg mb P) {k : Nat} (rules : List Rule) (kind place x y : Int) (hs : Small rules) (hl : rules.length ≤ 100) (hn : 0 < rules.length) :
    FnOk (C3 prog w mg mb P) (k + 1 + 1) 204 [gD rules, .int kind, .int place, .int x, .int y] (editD (editOf rules kind place x y)) := by
  refine fn_intro (ps := ["rules", "kind", "place", "x", "y"]) (fnDef_of rfl rfl rfl rfl rfl rfl rfl (by ((intro vs h; rcases vs with _ | ⟨_, _ | ⟨_, _ | ⟨_, _ | ⟨_, _ | ⟨_, _ | ⟨_, _⟩⟩⟩⟩⟩⟩ <;> first | rfl | (simp at h; done)))) (by decide) rfl rfl rfl rfl rfl rfl) rfl fun A L s₀ Z₀ E hA hO hF => ?_
  have hsl : sizeLine = 16777216 := rfl
  have hq := idx_lt place hn
  have hp := idx_lt place (n := rules.length + 1) (by omega)
  have hx3 := idx_lt x (n := 3) (by omega)
  have hy8 := idx_lt y (n := 8) (by omega)
  have hx12 := idx_lt x (n := 12) (by omega)
  have hL : (rules.map rD).length = rules.length := by simp
  have hat : (rules.map rD)[((idx place rules.length : Int)).toNat]? = some (rD (rules[idx place rules.length]?.getD ("", []))) := by
    rw [Int.toNat_natCast, List.getElem?_map, List.getElem?_eq_getElem hq]; rfl
  refine ex_cons (xs_assign (e_len (n := rules.length) (G.b rfl rfl PyProof.Rows.Boot.«len» (by decide)) (ev_var rfl rfl) rfl (by simp [lenD, gD]) (by omega)) rfl (hO _) rfl ?_)
  refine ex_cons (xs_assign ((e_mod (ev_var rfl rfl) (ev_var rfl rfl) (by omega)).cast (d' := .int (idx place rules.length)) (by rw [fmod_idx _ hn])) rfl (hO _) rfl ?_)
  refine ex_cons (xs_assign ((e_mod (ev_var rfl rfl) (e_addI (ev_var rfl rfl) (ev_int 1)) (by omega)).cast (d' := .int (idx place (rules.length + 1))) (by rw [← fmod_idx _ (by omega)]; rfl)) rfl (hO _) rfl ?_)
  refine ex_join (fun Γ' => Has Γ' [("after", .fz (gD (afterOf rules kind place x y))), ("p", .fz (.int (idx place (rules.length + 1)))), ("rules", .fz (gD rules)), ("kind", .fz (.int kind)), ("x", .fz (.int x))])
    (xs_if (c_eqI hA (ev_var rfl rfl) (ev_int 0)) (fun hb => ?_) (fun hb => ex_cons (xs_if (c_eqI hA (ev_var rfl rfl) (ev_int 1)) (fun hb1 => ?_) (fun hb1 => ?_)))) (fun Γ' hG => ex_has hG ?_)
  · have hk : kind = 0 := by simpa using hb
    refine ex_cons (xs_assign (e_addL (ev_slice (ev_var rfl rfl) o_none (o_some (ev_var rfl rfl)) (by rw [hL]; omega)) (ev_slice (ev_var rfl rfl) (o_some (e_addI (ev_var rfl rfl) (ev_int 1))) o_none (by rw [hL]; omega)) ?_) rfl (hO _) rfl ?_)
    · rw [sliceD_to _ _ (by omega), sliceD_from' _ _ (by omega) (by rw [hL]; omega)]; simp only [List.length_take, List.length_map, List.length_drop]; omega
    · refine ex_nil (Has.add ?_ (by (repeat (first | exact Has.nil _ | refine Has.add rfl ?_))))
      show some (Ent.fz (.list _)) = some (Ent.fz (.list _))
      rw [sliceD_to _ _ (by omega), sliceD_from' _ _ (by omega) (by rw [hL]; omega)]
      unfold afterOf
      rw [if_pos hk, List.map_append, List.map_take, List.map_drop]
      congr 4
  · have hk : ¬ kind = 0 := by simpa using hb
    have hk1 : kind = 1 := by simpa using hb1
    refine ex_cons (xs_assign (e_addL (e_addL (ev_list (evs_cons (e_item (ev_var rfl rfl) (ev_var rfl rfl) rfl (by omega) (by omega) hat) evs_nil rfl) (by show 1 ≤ sizeLine; decide)) (ev_slice (ev_var rfl rfl) o_none (o_some (ev_var rfl rfl)) (by rw [hL]; omega)) ?_) (ev_slice (ev_var rfl rfl) (o_some (e_addI (ev_var rfl rfl) (ev_int 1))) o_none (by rw [hL]; omega)) ?_) rfl (hO _) rfl ?_)
    · rw [sliceD_to _ _ (by omega)]; simp only [List.length_take, List.length_map, List.length_cons, List.length_nil]; omega
    · rw [sliceD_to _ _ (by omega), sliceD_from' _ _ (by omega) (by rw [hL]; omega)]; simp only [List.length_append, List.length_take, List.length_map, List.length_drop, List.length_cons, List.length_nil]; omega
    · refine ex_nil (ex_nil (Has.add ?_ (by (repeat (first | exact Has.nil _ | refine Has.add rfl ?_)))))
      show some (Ent.fz (.list _)) = some (Ent.fz (.list _))
      rw [sliceD_to _ _ (by omega), sliceD_from' _ _ (by omega) (by rw [hL]; omega)]
      unfold afterOf
      rw [if_neg hk, if_pos hk1, List.map_append, List.map_append, List.map_take, List.map_drop]
      congr 4
  · have hk : ¬ kind = 0 := by simpa using hb
    have hk1 : ¬ kind = 1 := by simpa using hb1
    have hhd : (headT.map PyData.str)[(x.fmod 3).toNat]? = some (.str (newRule x y).1) := by
      have : (x.fmod 3).toNat = idx x 3 := rfl
      rw [this, List.getElem?_map]
      unfold newRule
      rw [List.getElem?_eq_getElem (show idx x 3 < headT.length from hx3)]; rfl
    have hbd : (bodyT.map tD)[(y.fmod 8).toNat]? = some (tD (newRule x y).2) := by
      have : (y.fmod 8).toNat = idx y 8 := rfl
      rw [this, List.getElem?_map]
      unfold newRule
      rw [List.getElem?_eq_getElem (show idx y 8 < bodyT.length from hy8)]; rfl
    have f3 : x.fmod 3 = (idx x 3 : Int) := fmod_idx x (n := 3) (by omega)
    have f8 : y.fmod 8 = (idx y 8 : Int) := fmod_idx y (n := 8) (by omega)
    obtain ⟨n1, n2, n3⟩ := newRule_small x y
    refine ex_cons (xs_assign (e_addL (b := sliceD (rules.map rD) (some (idx place (rules.length + 1))) none) (e_addL (b := [rD (newRule x y)]) (ev_slice (ev_var rfl rfl) o_none (o_some (ev_var rfl rfl)) (by rw [hL]; omega)) (ev_list (evs_cons (ev_tuple (evs_cons (e_item (ev_glob rfl (G.at rfl) top_heads) (e_mod (ev_var rfl rfl) (ev_int 3) (by decide)) rfl (by omega) (by omega) hhd) (evs_cons (e_copy (ds := (newRule x y).2.map .str) (G.b rfl rfl PyProof.Rows.Boot.«list» (by decide)) (e_item (ev_glob rfl (G.at rfl) top_bodies) (e_mod (ev_var rfl rfl) (ev_int 8) (by decide)) rfl (by omega) (by omega) hbd) rfl rfl (by rw [List.length_map]; omega)) evs_nil rfl) rfl) (by show 2 ≤ sizeLine; decide)) evs_nil rfl) (by show 1 ≤ sizeLine; decide)) ?_) (ev_slice (ev_var rfl rfl) (o_some (ev_var rfl rfl)) o_none (by rw [hL]; omega)) ?_) rfl (hO _) rfl ?_)
    · rw [sliceD_to _ _ (by omega)]; simp only [List.length_take, List.length_map, List.length_cons, List.length_nil]; omega
    · rw [sliceD_to _ _ (by omega), sliceD_from' _ _ (by omega) (by rw [hL]; omega)]; simp only [List.length_append, List.length_take, List.length_map, List.length_drop, List.length_cons, List.length_nil]; omega
    · refine ex_nil (ex_nil (Has.add ?_ (by (repeat (first | exact Has.nil _ | refine Has.add rfl ?_)))))
      show some (Ent.fz (.list _)) = some (Ent.fz (.list _))
      rw [sliceD_to _ _ (by omega), sliceD_from' _ _ (by omega) (by rw [hL]; omega)]
      unfold afterOf
      rw [if_neg hk, if_neg hk1, List.map_append, List.map_append, List.map_take, List.map_drop]
      congr 4
  · have f12 : x.fmod 12 = (idx x 12 : Int) := fmod_idx x (n := 12) (by omega)
    refine ex_join (fun Γ' => kind ≠ 2 ∧ Has Γ' [("after", .fz (gD (afterOf rules kind place x y)))]) (xs_if (c_eqI hA (ev_var rfl rfl) (ev_int 2)) (fun hb => ?_) (fun hb => ex_nil ⟨by simpa using hb, by (repeat (first | exact Has.nil _ | refine Has.add rfl ?_))⟩)) (fun Γ' hG => ?_)
    · have hk : kind = 2 := by simpa using hb
      have hbad : (badT.map sbD)[(x.fmod 12).toNat]? = some (sbD (badAt x)) := by
        have : (x.fmod 12).toNat = idx x 12 := rfl
        rw [this, List.getElem?_map]
        unfold badAt
        rw [List.getElem?_eq_getElem (show idx x 12 < badT.length from hx12)]; rfl
      refine ex_cons (xs_unpack hA (e_item (d := .tuple [.str (badAt x).1, .bool (badAt x).2]) (ev_glob rfl (G.at rfl) top_bad) (e_mod (ev_var rfl rfl) (ev_int 12) (by decide)) rfl (by omega) (by omega) hbad) (asl_cons (as_name rfl (hO _)) (asl_cons (as_name rfl (hO _)) asl_nil rfl) rfl) rfl rfl ?_)
      have hE : ∀ n : Int, n = (if (badAt x).2 then (idx place (rules.length + 1) : Int) + 1 else 0) → editD (editOf rules kind place x y) = .tuple [sD (brokenOf rules place x), .none, .int n] := fun n e => by
        unfold editOf; rw [if_pos hk, e]; rfl
      have t1 : Small (rules.take (idx place (rules.length + 1))) := hs.sub (by rw [List.length_take]; omega) fun r hr => List.mem_of_mem_take hr
      have t2 : Small (rules.drop (idx place (rules.length + 1))) := hs.sub (by rw [List.length_drop]; omega) fun r hr => List.mem_of_mem_drop hr
      refine ex_cons (xs_assign ((e_addL (a := (((rules.take (idx place (rules.length + 1))).map lineOf).map .str) ++ [.str (badAt x).1]) (b := ((rules.drop (idx place (rules.length + 1))).map lineOf).map .str) (e_addL (a := ((rules.take (idx place (rules.length + 1))).map lineOf).map .str) (b := [.str (badAt x).1])
        (ev_call hA rfl (G.at rfl) rfl rfl (evs_cons ((ev_slice (ev_var rfl rfl) o_none (o_some (ev_var rfl rfl)) (by rw [hL]; omega)).cast (d' := gD (rules.take (idx place (rules.length + 1)))) (by rw [sliceD_to _ _ (by omega), ← List.map_take]; rfl)) evs_nil rfl) rfl (fn_lines G _ t1)) (ev_list (evs_cons (ev_var rfl rfl) evs_nil rfl) (by show 1 ≤ sizeLine; decide)) ?_)
        (ev_call hA rfl (G.at rfl) rfl rfl (evs_cons ((ev_slice (ev_var rfl rfl) (o_some (ev_var rfl rfl)) o_none (by rw [hL]; omega)).cast (d' := gD (rules.drop (idx place (rules.length + 1)))) (by rw [sliceD_from' _ _ (by omega) (by rw [hL]; omega), ← List.map_drop]; rfl)) evs_nil rfl) rfl (fn_lines G _ t2)) ?_).cast (d' := sD (brokenOf rules place x)) (by unfold brokenOf sD; rw [List.map_append, List.map_append]; rfl)) rfl (hO _) rfl ?_)
      · simp only [List.length_map, List.length_take, List.length_cons, List.length_nil]; omega
      · simp only [List.length_append, List.length_map, List.length_take, List.length_cons, List.length_nil, List.length_drop]; omega
      · refine ex_cons (xs_if (c_bool (ev_var rfl rfl) (fun _ => rfl)) (fun hb2 => ?_) (fun hb2 => ex_nil ?_))
        · exact ex_cons (xs_return (ev_tuple (evs_cons (ev_var rfl rfl) (evs_cons ev_none (evs_cons (e_addI (ev_var rfl rfl) (ev_int 1)) evs_nil rfl) rfl) rfl) (by show 3 ≤ sizeLine; decide)) (by rw [hE ((idx place (rules.length + 1) : Int) + 1) (by rw [hb2]; rfl)]; rfl))
        · exact ex_cons (xs_return (ev_tuple (evs_cons (ev_var rfl rfl) (evs_cons ev_none (evs_cons (ev_int 0) evs_nil rfl) rfl) rfl) (by show 3 ≤ sizeLine; decide)) (by rw [hE 0 (by rw [hb2]; rfl)]; rfl))
    · obtain ⟨hk, hG⟩ := hG
      refine ex_has hG ?_
      have hal := after_len (kind := kind) (place := place) (x := x) (y := y) hn
      refine ex_cons (xs_if (c_eqI hA (e_len (n := (afterOf rules kind place x y).length) (G.b rfl rfl PyProof.Rows.Boot.«len» (by decide)) (ev_var rfl rfl) rfl (by simp [lenD, gD]) (by omega)) (ev_int 0)) (fun hb => ?_) (fun hb => ex_nil ?_))
      · have h0 : (afterOf rules kind place x y).length = 0 := by
          have : ((afterOf rules kind place x y).length : Int) = 0 := by simpa using hb
          omega
        exact ex_cons (xs_return (ev_tuple (evs_cons (ev_list evs_nil (by decide)) (evs_cons ev_none (evs_cons (ev_int 0) evs_nil rfl) rfl) rfl) (by show 3 ≤ sizeLine; decide)) (by unfold editOf; rw [if_neg hk, if_pos h0]; rfl))
      · have h0 : ¬ (afterOf rules kind place x y).length = 0 := fun q => by rw [q] at hb; simp at hb
        exact ex_cons (xs_return (ev_tuple (evs_cons (ev_call hA rfl (G.at rfl) rfl rfl (evs_cons (ev_var rfl rfl) evs_nil rfl) rfl (fn_lines G _ (after_small hs hl hn))) (evs_cons (ev_var rfl rfl) (evs_cons (ev_int 0) evs_nil rfl) rfl) rfl) (by show 3 ≤ sizeLine; decide)) (by unfold editOf; rw [if_neg hk, if_neg h0]; rfl))
end
end

section
set_option autoImplicit false
set_option linter.unusedVariables false
set_option maxRecDepth 100000
open PySem PyProof.Rows PySem.W

noncomputable def builtT (rules : List Rule) (given found : List Str) (t : Str) : Bool := rules.any fun r => r.1 == t && r.2.all fun s => given.contains s || found.contains s
noncomputable def builtN (rules : List Rule) (rising given : List Str) : Nat → List Str
  | 0 => []
  | n + 1 => rising.filter (builtT rules given (builtN rules rising given n))
section
variable {prog : Program} {w : World} {mg mb : Str → Option Value} {P : Params}
theorem fn_built (G : G3 prog w mg mb P) {k : Nat} (rules : List Rule) (rising given : List Str) (hr : rules.length ≤ 100) (hb : ∀ r ∈ rules, r.2.length ≤ 100) (hri : rising.length ≤ 100) :
    FnOk (C3 prog w mg mb P) (k + 1) 209 [gD rules, sD rising, sD given] (sD (builtN rules rising given 3)) := by
  refine fn_intro (ps := ["rules", "rising", "given"]) (fnDef_of rfl rfl rfl rfl rfl rfl rfl (by ((intro vs h; rcases vs with _ | ⟨_, _ | ⟨_, _ | ⟨_, _ | ⟨_, _ | ⟨_, _ | ⟨_, _⟩⟩⟩⟩⟩⟩ <;> first | rfl | (simp at h; done)))) (by decide) rfl rfl rfl rfl rfl rfl) rfl fun A L s₀ Z₀ E hA hO hF => ?_
  have hsl : sizeLine = 16777216 := rfl
  refine ex_cons (xs_assign ((ev_list evs_nil (by decide)).cast (d' := sD (builtN rules rising given 0)) rfl) rfl (hO _) rfl ?_)
  refine ex_cons (xs_for (k := 0) (fun i Γ' => Has Γ' [("found", .fz (sD (builtN rules rising given i))), ("rules", .fz (gD rules)), ("rising", .fz (sD rising)), ("given", .fz (sD given))])
    (s_range (n := 3) hA.hd (G.b rfl rfl PyProof.Rows.Boot.«range» (by decide)) (ev_int 3) rfl (by omega)) (fun _ => rfl) (by (repeat (first | exact Has.nil _ | refine Has.add rfl ?_))) (fun i Γ' hi hJ => ?_) (fun Γ' hJ => ?_))
  · refine ⟨_, as_name rfl (hO _), ex_has hJ.cons ?_⟩
    refine ex_cons (xs_assign (e_filter rising .str (builtT rules given (builtN rules rising given i)) .str ⟨rfl, rfl, rfl, rfl⟩ (src_list (ds := rising.map .str) hA.hd (ev_var rfl rfl)) (fun _ => rfl) (by omega) fun L s₀ Z₀ t own ht => ?_) rfl (hO _) rfl (ex_nil (by (repeat (first | exact Has.nil _ | refine Has.add rfl ?_)))))
    refine turn_if _ rfl rfl (own _ rfl) rfl rfl (fun ds => cds_one (c_bool (e_any (bs := rules.map fun r => r.1 == t && r.2.all fun s => given.contains s || (builtN rules rising given i).contains s) hA.hd (G.b rfl rfl PyProof.Rows.Boot.«any» (by decide)) ?_ rfl) (fun _ => rfl) |>.cast (by unfold builtT; rw [List.any_map]; rfl))) fun ds _ => ev_var rfl rfl
    refine (e_map rules rD (fun r => .bool (r.1 == t && r.2.all fun s => given.contains s || (builtN rules rising given i).contains s)) ⟨rfl, rfl, rfl, rfl⟩ (src_list (ds := rules.map rD) hA.hd (ev_var rfl rfl)) (fun _ => rfl) (by omega) fun L s₀ Z₀ r own hrr => ?_).cast (by rw [List.map_map]; rfl)
    refine turn_pall rfl hA rfl rfl (own _ rfl) (own _ rfl) rfl rfl rfl rfl fun ds => ev_and (e_eqS hA (ev_var rfl rfl) (ev_var rfl rfl)) fun _ => ev_op1 ((e_all (bs := r.2.map fun s => given.contains s || (builtN rules rising given i).contains s) hA.hd (G.b rfl rfl PyProof.Rows.Boot.«all» (by decide)) ?_ rfl).cast (by rw [List.all_map]; rfl))
    have hbr := hb r hrr
    refine (e_map r.2 .str (fun s => .bool (given.contains s || (builtN rules rising given i).contains s)) ⟨rfl, rfl, rfl, rfl⟩ (src_list (ds := r.2.map .str) hA.hd (ev_var rfl rfl)) (fun _ => rfl) (by omega) fun L s₀ Z₀ s own hs => ?_).cast (by rw [List.map_map]; rfl)
    exact turn_all rfl rfl (own _ rfl) rfl rfl fun ds => ev_or (e_inL hA (ev_var rfl rfl) (ev_var rfl rfl) rfl) fun _ => ev_op1 (e_inL hA (ev_var rfl rfl) (ev_var rfl rfl) rfl)
  · exact ex_has hJ (ex_cons (xs_return (ev_var rfl rfl) rfl))
end
end

section
set_option autoImplicit false
set_option linter.unusedVariables false
set_option maxRecDepth 100000
open PySem PyProof.Rows PySem.W

noncomputable def risingOf (g : List Rule) : List Str := headT.filter (headsOf g).contains
noncomputable def looseOf (g : List Rule) : List Str := symT.filter fun s => !(headsOf g).contains s && g.any fun r => r.2.contains s
noncomputable def voidOf (g : List Rule) : List Str := builtN g (risingOf g) [] 3
noncomputable def reachT (g : List Rule) (start : Str) (found : List Str) (s : Str) : Bool := s == start || g.any fun r => found.contains r.1 && r.2.contains s
noncomputable def reachN (g : List Rule) : Nat → List Str
  | 0 => [(ruleAt g 0).1]
  | n + 1 => (risingOf g).filter (reachT g (ruleAt g 0).1 (reachN g n))
noncomputable def nearT (heads void b : List Str) (j : Nat) : Bool := heads.contains (b[j]?.getD "") && (b.take j).all void.contains
noncomputable def nearB (heads void : List Str) (r : Rule) : List (Str × Str) := (List.range r.2.length).flatMap fun j => if nearT heads void r.2 j then [(r.1, r.2[j]?.getD "")] else []
noncomputable def nearOf (g : List Rule) : List (Str × Str) := g.flatMap (nearB (headsOf g) (voidOf g))
noncomputable def closeT (near : List (Str × Str)) (top : Str) (found : List Str) (s : Str) : Bool := near.contains (top, s) || found.any fun t => near.contains (t, s)
noncomputable def closeN (g : List Rule) (top : Str) : Nat → List Str
  | 0 => (risingOf g).filter fun s => (nearOf g).contains (top, s)
  | n + 1 => (risingOf g).filter (closeT (nearOf g) top (closeN g top n))

structure SetsOk (g : List Rule) : Prop where
  keys : (storeAllD [] (g.map fun r => (r.1, PyData.int 0))).map (fun q => PyData.str q.1) = (headsOf g).map .str
  kok : ∀ q ∈ storeAllD [] (g.map fun r => (r.1, PyData.int 0)), PyData.strOk q.1 = true
  klen : (storeAllD [] (g.map fun r => (r.1, PyData.int 0))).length ≤ 100
  toks : srt (toksUpTo (headsOf g) g) = looseOf g
  void : srt (hbOf g []) = voidOf g
  prod : srt (hbOf g (looseOf g)) = builtN g (risingOf g) (looseOf g) 3
  reach : srt (reachOf g) = reachN g 3
  dlc : ∀ h ∈ risingOf g, dlcOf g h = closeN g h 0
  lc : ∀ h ∈ risingOf g, srt (lcOf g h) = closeN g h 3
  dlen : ∀ h, (dlcOf g h).length + (headsOf g).length < 64

theorem rising_len (g : List Rule) : (risingOf g).length ≤ 3 := List.length_filter_le _ headT
theorem loose_len (g : List Rule) : (looseOf g).length ≤ 6 := List.length_filter_le _ symT
theorem close_len (g : List Rule) (top : Str) (n : Nat) : (closeN g top n).length ≤ 3 := by
  cases n with
  | zero => exact Nat.le_trans (List.length_filter_le _ _) (rising_len g)
  | succ n => exact Nat.le_trans (List.length_filter_le _ _) (rising_len g)
theorem flat_pD (heads void : List Str) (r : Rule) : (List.range r.2.length).flatMap (fun j => if nearT heads void r.2 j then [pD (r.1, r.2[j]?.getD "")] else []) = (nearB heads void r).map pD := by
  unfold nearB
  rw [List.map_flatMap]
  congr 1
  funext j
  split <;> rfl
theorem nearB_len (heads void : List Str) (r : Rule) : (nearB heads void r).length ≤ r.2.length := by
  unfold nearB
  have : ∀ (l : List Nat) (p : Nat → Bool) (f : Nat → Str × Str), (l.flatMap fun j => if p j then [f j] else []).length ≤ l.length := by
    intro l p f
    induction l with
    | nil => simp
    | cons a l ih =>
      have h1 : (if p a then [f a] else []).length ≤ 1 := by split <;> simp
      rw [List.flatMap_cons, List.length_append, List.length_cons]; omega
  have := this (List.range r.2.length) (nearT heads void r.2) fun j => (r.1, r.2[j]?.getD "")
  simpa using this
theorem near_len (g : List Rule) (hb : ∀ r ∈ g, r.2.length ≤ 4) : (nearOf g).length ≤ g.length * 4 := by
  unfold nearOf
  generalize headsOf g = heads
  generalize voidOf g = void
  induction g with
  | nil => simp
  | cons r g ih =>
    have h1 := nearB_len heads void r
    have h2 := hb r List.mem_cons_self
    have h3 := ih fun r hr => hb r (List.mem_cons_of_mem _ hr)
    rw [List.flatMap_cons, List.length_append, List.length_cons]; omega

section
variable {C : Cx} {A : Around} {env : Env} {scope : Scope}
theorem inn_nestP {elt target iter : Expr} {ifs : List Expr} {gens : List Comprehension} {pos : Pos} {dep n : Nat} {dat : Nat → PyData} {L : Addr} {s₀ : Shared} {Z₀ : Addr → Prop} {y z : Str} {ey ez : Ent} {ds : List PyData} {Γt : Tab} (hg : gens[dep + 1]? = some ⟨target, iter, ifs, 0⟩)
    (src : Src C A (compEnv scope env L) ((z, ez) :: (y, ey) :: (".acc", .own ds) :: Γt) iter n dat) (hs : ∀ x, foldedSetIterable iter (compEnv scope env L) x = pure x) (outs : Nat → List PyData)
    (turn : ∀ i, i < n → Turn C A scope env ((z, ez) :: (y, ey) :: Γt) target ifs elt gens pos (dep + 1) L s₀ Z₀ (dat i) (outs i)) :
    Inn C A (compEnv scope env L) s₀ Z₀ elt gens scope pos dep ((z, ez) :: (y, ey) :: (".acc", .own ds) :: Γt) ((List.range n).flatMap outs) := by
  have key : ∀ x : Str, x ≠ ".acc" → List.lookup x ((z, ez) :: (y, ey) :: (".acc", Ent.own ds) :: Γt) = List.lookup x ((z, ez) :: (y, ey) :: Γt) := fun x hx => by
    by_cases h1 : x = z
    · subst h1; rw [lookup_cons_eq, lookup_cons_eq]
    · rw [lookup_cons_ne h1, lookup_cons_ne h1]
      by_cases h2 : x = y
      · subst h2; rw [lookup_cons_eq, lookup_cons_eq]
      · rw [lookup_cons_ne h2, lookup_cons_ne h2, lookup_cons_ne hx]
  exact inn_nest hg src hs outs _ (fun x e hx l => (key x hx).trans l) (fun x e hx l => (key x hx).symm.trans l) turn
end

section
variable {prog : Program} {w : World} {mg mb : Str → Option Value} {P : Params}
theorem fn_sets (G : G3 prog w mg mb P) {k : Nat} (g : List Rule) (h0 : 0 < g.length) (hg : g.length ≤ 15) (hb : ∀ r ∈ g, r.2.length ≤ 4) (S : SetsOk g) :
    FnOk (C3 prog w mg mb P) (k + 1 + 1 + 1 + 1 + 1) 214 [gD g, gD g] (.bool true) := by
  refine fn_intro (ps := ["g", "rules"]) (fnDef_of rfl rfl rfl rfl rfl rfl rfl (by ((intro vs h; rcases vs with _ | ⟨_, _ | ⟨_, _ | ⟨_, _ | ⟨_, _ | ⟨_, _ | ⟨_, _⟩⟩⟩⟩⟩⟩ <;> first | rfl | (simp at h; done)))) (by decide) rfl rfl rfl rfl rfl rfl) rfl fun A L s₀ Z₀ E hA hO hF => ?_
  have hsl : sizeLine = 16777216 := rfl
  have hkl := S.klen
  have hb' : ∀ r ∈ g, r.2.length ≤ 100 := fun r hr => by have := hb r hr; omega
  refine ex_cons (xs_assign ((e_keys hA.hd (G.b rfl rfl PyProof.Rows.Boot.«list» (by decide)) (e_dict (kds := g.map fun r => (r.1, PyData.int 0)) hA.hd (G.b rfl rfl PyProof.Rows.Boot.«dict» (by decide)) ((e_map g rD (fun r => .tuple [.str r.1, .int 0]) ⟨rfl, rfl, rfl, rfl⟩ (src_list (ds := g.map rD) hA.hd (ev_var rfl rfl)) (fun _ => rfl) (by omega) fun L s₀ Z₀ r own hr => ?_).cast (by rw [List.map_map]; rfl)) rfl (by rw [List.length_map]; omega)) rfl (by omega) S.kok).cast (d' := sD (headsOf g)) (by rw [S.keys]; rfl)) rfl (hO _) rfl ?_)
  · exact turn_pall rfl hA rfl rfl (own _ rfl) (own _ rfl) rfl rfl rfl rfl fun ds => ev_tuple (evs_cons (ev_var rfl rfl) (evs_cons (ev_int 0) evs_nil rfl) rfl) (by show 2 ≤ sizeLine; decide)
  refine ex_cons (xs_filter headT .str (headsOf g).contains .str rfl rfl (hO _) ⟨rfl, rfl, rfl, rfl⟩ (src_tuple (ds := headT.map .str) hA.hd (ev_glob rfl (G.at rfl) top_heads)) (fun _ => rfl) (by decide) (fun L s₀ Z₀ s own hs => ?_) ?_)
  · exact turn_if _ rfl rfl (own _ rfl) rfl rfl (fun ds => cds_one (c_inL hA (ev_var rfl rfl) (ev_var rfl rfl) rfl)) fun ds _ => ev_var rfl rfl
  refine ex_cons (xs_filter symT .str (fun s => !(headsOf g).contains s && g.any fun r => r.2.contains s) .str rfl rfl (hO _) ⟨rfl, rfl, rfl, rfl⟩ (src_tuple (ds := symT.map .str) hA.hd (ev_glob rfl (G.at rfl) top_syms)) (fun _ => rfl) (by decide) (fun L s₀ Z₀ s own hs => ?_) ?_)
  · refine turn_if _ rfl rfl (own _ rfl) rfl rfl (fun ds => cds_one ((cd_and (c_notInL hA (ev_var rfl rfl) (ev_var rfl rfl) rfl) fun _ => cd_and (c_bool (e_any (bs := g.map fun r => r.2.contains s) hA.hd (G.b rfl rfl PyProof.Rows.Boot.«any» (by decide)) ?_ rfl) (fun _ => rfl)) fun _ => cd_and0).cast (by rw [List.any_map, Bool.and_true]; rfl))) fun ds _ => ev_var rfl rfl
    refine (e_map g rD (fun r => .bool (r.2.contains s)) ⟨rfl, rfl, rfl, rfl⟩ (src_list (ds := g.map rD) hA.hd (ev_var rfl rfl)) (fun _ => rfl) (by omega) fun L s₀ Z₀ r own hr => ?_).cast (by rw [List.map_map]; rfl)
    exact turn_pall rfl hA rfl rfl (own _ rfl) (own _ rfl) rfl rfl rfl rfl fun ds => e_inL hA (ev_var rfl rfl) (ev_var rfl rfl) rfl
  have hri := rising_len g
  have hlo := loose_len g
  refine ex_cons (xs_assign (ev_call hA rfl (G.at rfl) rfl rfl (evs_cons (ev_var rfl rfl) (evs_cons (ev_var rfl rfl) (evs_cons (ev_list evs_nil (by decide)) evs_nil rfl) rfl) rfl) rfl (fn_built G g (risingOf g) [] (by omega) hb' (by omega))) rfl (hO _) rfl ?_)
  refine ex_cons (xs_if (c_neSame hA (ev_call hA rfl (G.at rfl) rfl rfl (evs_cons (ev_var rfl rfl) evs_nil rfl) rfl (fn_heads_of G g (by omega))) (ev_var rfl rfl) (dOk_sD _) (by decide)) (fun hb => by cases hb) fun _ => ex_nil ?_)
  refine ex_cons (xs_if (c_neSame hA ((ev_call hA rfl (G.at rfl) rfl rfl (evs_cons (ev_var rfl rfl) evs_nil rfl) rfl (fn_tokens_of G g hg hb)).cast (d' := sD (looseOf g)) (by rw [S.toks])) (ev_var rfl rfl) (dOk_sD _) (by decide)) (fun hb => by cases hb) fun _ => ex_nil ?_)
  refine ex_cons (xs_if (c_neSame hA ((ev_call hA rfl (G.at rfl) rfl rfl (evs_cons (ev_var rfl rfl) evs_nil rfl) rfl (fn_nullable G g hg hb')).cast (d' := sD (voidOf g)) (by rw [S.void])) (ev_var rfl rfl) (dOk_sD _) (by decide)) (fun hb => by cases hb) fun _ => ex_nil ?_)
  refine ex_cons (xs_if (c_neSame hA ((ev_call hA rfl (G.at rfl) rfl rfl (evs_cons (ev_var rfl rfl) evs_nil rfl) rfl (fn_productive G g hg hb)).cast (d' := sD (builtN g (risingOf g) (looseOf g) 3)) (by rw [S.toks, S.prod])) (ev_call hA rfl (G.at rfl) rfl rfl (evs_cons (ev_var rfl rfl) (evs_cons (ev_var rfl rfl) (evs_cons (ev_var rfl rfl) evs_nil rfl) rfl) rfl) rfl (fn_built G g (risingOf g) (looseOf g) (by omega) hb' (by omega))) (dOk_sD _) (by decide)) (fun hb => by cases hb) fun _ => ex_nil ?_)
  have hat : (g.map rD)[((0 : Int)).toNat]? = some (rD (ruleAt g 0)) := by
    show (g.map rD)[0]? = _
    unfold ruleAt
    rw [List.getElem?_map, List.getElem?_eq_getElem h0]; rfl
  refine ex_cons (xs_assign (e_item (d := .str (ruleAt g 0).1) (e_item (ev_var rfl rfl) (ev_int 0) rfl (by decide) (by decide) hat) (ev_int 0) rfl (by decide) (by decide) rfl) rfl (hO _) rfl ?_)
  refine ex_cons (xs_assign ((ev_list (evs_cons (ev_var rfl rfl) evs_nil rfl) (by show 1 ≤ sizeLine; decide)).cast (d' := sD (reachN g 0)) rfl) rfl (hO _) rfl ?_)
  refine ex_cons (xs_for (k := 0) (fun i Γ' => Has Γ' [("reach", .fz (sD (reachN g i))), ("start", .fz (.str (ruleAt g 0).1)), ("void", .fz (sD (voidOf g))), ("rising", .fz (sD (risingOf g))), ("heads", .fz (sD (headsOf g))), ("rules", .fz (gD g)), ("g", .fz (gD g))])
    (s_range (n := 3) hA.hd (G.b rfl rfl PyProof.Rows.Boot.«range» (by decide)) (ev_int 3) rfl (by omega)) (fun _ => rfl) (by (repeat (first | exact Has.nil _ | refine Has.add rfl ?_))) (fun i Γ' hi hJ => ?_) (fun Γ' hJ => ?_))
  · refine ⟨_, as_name rfl (hO _), ex_has hJ.cons ?_⟩
    refine ex_cons (xs_assign (e_filter (risingOf g) .str (reachT g (ruleAt g 0).1 (reachN g i)) .str ⟨rfl, rfl, rfl, rfl⟩ (src_list (ds := (risingOf g).map .str) hA.hd (ev_var rfl rfl)) (fun _ => rfl) (by omega) fun L s₀ Z₀ s own hs => ?_) rfl (hO _) rfl (ex_nil (by (repeat (first | exact Has.nil _ | refine Has.add rfl ?_)))))
    refine turn_if _ rfl rfl (own _ rfl) rfl rfl (fun ds => cds_one ((cd_or (c_eqS hA (ev_var rfl rfl) (ev_var rfl rfl)) fun _ => cd_or (c_bool (e_any (bs := g.map fun r => (reachN g i).contains r.1 && r.2.contains s) hA.hd (G.b rfl rfl PyProof.Rows.Boot.«any» (by decide)) ?_ rfl) (fun _ => rfl)) fun _ => cd_or0).cast (by unfold reachT; rw [List.any_map, Bool.or_false]; rfl))) fun ds _ => ev_var rfl rfl
    refine (e_map g rD (fun r => .bool ((reachN g i).contains r.1 && r.2.contains s)) ⟨rfl, rfl, rfl, rfl⟩ (src_list (ds := g.map rD) hA.hd (ev_var rfl rfl)) (fun _ => rfl) (by omega) fun L s₀ Z₀ r own hr => ?_).cast (by rw [List.map_map]; rfl)
    exact turn_pall rfl hA rfl rfl (own _ rfl) (own _ rfl) rfl rfl rfl rfl fun ds => ev_and (e_inL hA (ev_var rfl rfl) (ev_var rfl rfl) rfl) fun _ => ev_op1 (e_inL hA (ev_var rfl rfl) (ev_var rfl rfl) rfl)
  refine ex_has hJ ?_
  refine ex_cons (xs_if (c_neSame hA ((ev_call hA rfl (G.at rfl) rfl rfl (evs_cons (ev_var rfl rfl) evs_nil rfl) rfl (fn_reachable G g h0 (by omega) hb')).cast (d' := sD (reachN g 3)) (by rw [S.reach])) (ev_var rfl rfl) (dOk_sD _) (by decide)) (fun hb => by cases hb) fun _ => ex_nil ?_)
  have hnl := near_len g hb
  refine ex_cons (xs_assign ((e_comp g rD (fun r => (nearB (headsOf g) (voidOf g) r).map pD) ⟨rfl, rfl, rfl, rfl⟩ ((src_list (ds := g.map rD) hA.hd (ev_var rfl rfl)).cast (by simp) rfl) (fun _ => rfl) (by rw [← List.map_flatMap, List.length_map]; show (nearOf g).length ≤ _; omega) fun L s₀ Z₀ r own hr => ?_).cast (d' := .list ((nearOf g).map pD)) (by unfold nearOf; rw [List.map_flatMap])) rfl (hO _) rfl ?_)
  · have hbr := hb r hr
    refine turn_pair true hA rfl rfl (own _ rfl) (own _ rfl) rfl rfl rfl rfl (fun ds => rfl) (fun q => by cases q) (fun ds _ => ?_)
    rw [← flat_pD]
    refine inn_nestP rfl (s_range (n := r.2.length) hA.hd (G.b rfl rfl PyProof.Rows.Boot.«range» (by decide)) (e_len (n := r.2.length) (G.b rfl rfl PyProof.Rows.Boot.«len» (by decide)) (ev_var rfl rfl) rfl (by simp [lenD, sD]) (by omega)) rfl (by omega)) (fun _ => rfl) _ fun j hj => ?_
    have hbj : (r.2.map PyData.str)[((j : Int)).toNat]? = some (.str (r.2[j]?.getD "")) := by
      rw [Int.toNat_natCast, List.getElem?_map, List.getElem?_eq_getElem hj]; rfl
    refine turn_if _ rfl rfl (own _ rfl) rfl rfl (fun ds => cds_one ((cd_and (c_inL hA (e_item (ev_var rfl rfl) (ev_var rfl rfl) rfl (by omega) (by omega) hbj) (ev_var rfl rfl) rfl) fun _ => cd_and (c_bool (e_all (bs := (r.2.take j).map (voidOf g).contains) hA.hd (G.b rfl rfl PyProof.Rows.Boot.«all» (by decide)) ?_ rfl) (fun _ => rfl)) fun _ => cd_and0).cast (by unfold nearT; rw [List.all_map, Bool.and_true]; rfl)))
      fun ds _ => ev_tuple (evs_cons (ev_var rfl rfl) (evs_cons (e_item (ev_var rfl rfl) (ev_var rfl rfl) rfl (by omega) (by omega) hbj) evs_nil rfl) rfl) (by show 2 ≤ sizeLine; decide)
    refine (e_map (r.2.take j) .str (fun s => .bool ((voidOf g).contains s)) ⟨rfl, rfl, rfl, rfl⟩ (src_list (ds := (r.2.take j).map .str) hA.hd ((ev_slice (ev_var rfl rfl) o_none (o_some (ev_var rfl rfl)) (by rw [List.length_map]; omega)).cast (by rw [sliceD_to _ _ (by omega), Int.toNat_natCast, ← List.map_take]))) (fun _ => rfl) (by rw [List.length_take]; omega) fun L s₀ Z₀ s own hs => ?_).cast (by rw [List.map_map]; rfl)
    exact turn_all rfl rfl (own _ rfl) rfl rfl fun ds => e_inL hA (ev_var rfl rfl) (ev_var rfl rfl) rfl
  refine ex_cons (xs_for (k := 0) (fun i Γ' => Has Γ' [("near", .fz (.list ((nearOf g).map pD))), ("rising", .fz (sD (risingOf g))), ("g", .fz (gD g))]) (src_list (ds := (risingOf g).map .str) hA.hd (ev_var rfl rfl)) (fun _ => rfl) (by (repeat (first | exact Has.nil _ | refine Has.add rfl ?_))) (fun i Γ' hi hJ => ?_) (fun Γ' hJ => ex_has hJ (ex_cons (xs_return (ev_bool true) rfl))))
  have hi' : i < (risingOf g).length := by simpa using hi
  rw [getD_map PyData.str hi']
  have htop := List.getElem_mem hi'
  generalize (risingOf g)[i] = top at *
  refine ⟨_, as_name rfl (hO _), ex_has hJ.cons ?_⟩
  refine ex_cons (xs_assign ((e_filter (risingOf g) .str (fun s => (nearOf g).contains (top, s)) .str ⟨rfl, rfl, rfl, rfl⟩ (src_list (ds := (risingOf g).map .str) hA.hd (ev_var rfl rfl)) (fun _ => rfl) (by omega) fun L s₀ Z₀ s own hs => ?_).cast (d' := sD (closeN g top 0)) rfl) rfl (hO _) rfl ?_)
  · exact turn_if _ rfl rfl (own _ rfl) rfl rfl (fun ds => cds_one (c_inP (p := (top, s)) hA (ev_tuple (evs_cons (ev_var rfl rfl) (evs_cons (ev_var rfl rfl) evs_nil rfl) rfl) (by show 2 ≤ sizeLine; decide)) (ev_var rfl rfl) rfl)) fun ds _ => ev_var rfl rfl
  refine ex_cons (xs_if (c_neSame hA ((ev_call hA rfl (G.at rfl) rfl rfl (evs_cons (ev_var rfl rfl) (evs_cons (ev_var rfl rfl) evs_nil rfl) rfl) rfl (fn_dlc G g top hg hb).ok).cast (d' := sD (closeN g top 0)) (by rw [S.dlc top htop]; rfl)) (ev_var rfl rfl) (dOk_sD _) (by decide)) (fun hb => by cases hb) fun _ => ex_nil ?_)
  refine ex_cons (xs_for (k := 0) (fun i Γ' => Has Γ' [("close", .fz (sD (closeN g top i))), ("top", .fz (.str top)), ("near", .fz (.list ((nearOf g).map pD))), ("rising", .fz (sD (risingOf g))), ("g", .fz (gD g))])
    (s_range (n := 3) hA.hd (G.b rfl rfl PyProof.Rows.Boot.«range» (by decide)) (ev_int 3) rfl (by omega)) (fun _ => rfl) (by (repeat (first | exact Has.nil _ | refine Has.add rfl ?_))) (fun i Γ' hi hJ => ?_) (fun Γ' hJ => ex_has hJ ?_))
  · refine ⟨_, as_name rfl (hO _), ex_has hJ.cons ?_⟩
    have hcl := close_len g top i
    refine ex_cons (xs_assign (e_filter (risingOf g) .str (closeT (nearOf g) top (closeN g top i)) .str ⟨rfl, rfl, rfl, rfl⟩ (src_list (ds := (risingOf g).map .str) hA.hd (ev_var rfl rfl)) (fun _ => rfl) (by omega) fun L s₀ Z₀ s own hs => ?_) rfl (hO _) rfl (ex_nil (by (repeat (first | exact Has.nil _ | refine Has.add rfl ?_)))))
    refine turn_if _ rfl rfl (own _ rfl) rfl rfl (fun ds => cds_one ((cd_or (c_inP (p := (top, s)) hA (ev_tuple (evs_cons (ev_var rfl rfl) (evs_cons (ev_var rfl rfl) evs_nil rfl) rfl) (by show 2 ≤ sizeLine; decide)) (ev_var rfl rfl) rfl) fun _ => cd_or (c_bool (e_any (bs := (closeN g top i).map fun t => (nearOf g).contains (t, s)) hA.hd (G.b rfl rfl PyProof.Rows.Boot.«any» (by decide)) ?_ rfl) (fun _ => rfl)) fun _ => cd_or0).cast (by unfold closeT; rw [List.any_map, Bool.or_false]; rfl))) fun ds _ => ev_var rfl rfl
    refine (e_map (closeN g top i) .str (fun t => .bool ((nearOf g).contains (t, s))) ⟨rfl, rfl, rfl, rfl⟩ (src_list (ds := (closeN g top i).map .str) hA.hd (ev_var rfl rfl)) (fun _ => rfl) (by omega) fun L s₀ Z₀ t own ht => ?_).cast (by rw [List.map_map]; rfl)
    exact turn_all rfl rfl (own _ rfl) rfl rfl fun ds => e_inP (p := (t, s)) hA (ev_tuple (evs_cons (ev_var rfl rfl) (evs_cons (ev_var rfl rfl) evs_nil rfl) rfl) (by show 2 ≤ sizeLine; decide)) (ev_var rfl rfl) rfl
  exact ex_cons (xs_if (c_neSame hA ((ev_call hA rfl (G.at rfl) rfl rfl (evs_cons (ev_var rfl rfl) (evs_cons (ev_var rfl rfl) evs_nil rfl) rfl) rfl (fn_lc G g top hg hb (S.dlen top))).cast (d' := sD (closeN g top 3)) (by rw [S.lc top htop])) (ev_var rfl rfl) (dOk_sD _) (by decide)) (fun hb => by cases hb) fun _ => ex_nil (ex_nil (by (repeat (first | exact Has.nil _ | refine Has.add rfl ?_)))))
end
end

section
set_option autoImplicit false
set_option linter.unusedVariables false
set_option maxRecDepth 100000
open PySem PyProof.Rows PySem.W

noncomputable def spotsN (H form : List Str) : List Nat := (List.range form.length).filter fun i => H.contains (form[i]?.getD "")
theorem spots_head (H form : List Str) : (spotsN H form)[0]? = if firstHead H form < form.length then some (firstHead H form) else none := by
  unfold spotsN
  rw [← List.head?_eq_getElem?, List.head?_filter]
  split
  · rename_i h
    rw [List.find?_range_eq_some]
    refine ⟨?_, List.mem_range.mpr h, fun j hj => ?_⟩
    · rw [List.getElem?_eq_getElem h]
      exact List.findIdx_getElem (w := h) (p := fun s => H.contains s) (xs := form)
    · have := List.not_of_lt_findIdx (p := fun s => H.contains s) (xs := form) hj
      rw [List.getElem?_eq_getElem (by omega)]
      simpa using this
  · rename_i h
    rw [List.find?_eq_none]
    intro i hi
    have hi := List.mem_range.mp hi
    have hj : i < firstHead H form := by have := firstHead_le H form; omega
    have := List.not_of_lt_findIdx (p := fun s => H.contains s) (xs := form) hj
    rw [List.getElem?_eq_getElem hi]; simpa using this
theorem spots_pos (H form : List Str) : decide (0 < ((spotsN H form).length : Int)) = decide (firstHead H form < form.length) := by
  have h := spots_head H form
  by_cases c : firstHead H form < form.length
  · rw [if_pos c] at h
    obtain ⟨q, _⟩ := List.getElem?_eq_some_iff.mp h
    rw [decide_eq_true c, decide_eq_true (by omega)]
  · rw [if_neg c] at h
    have := List.getElem?_eq_none_iff.mp h
    rw [decide_eq_false c, decide_eq_false (by omega)]
noncomputable def fitB (g : List Rule) (H form : List Str) (j : Nat) : Bool := decide (firstHead H form < form.length) && ((ruleAt g j).1 == form[firstHead H form]?.getD "")
noncomputable def fitsI (g : List Rule) (H form : List Str) : List Int := ((List.range g.length).filter (fitB g H form)).map fun (j : Nat) => (j : Int)
theorem fits_len (g : List Rule) (H form : List Str) : (fitsI g H form).length ≤ g.length := by
  unfold fitsI
  rw [List.length_map]
  exact Nat.le_trans (List.length_filter_le _ _) (by simp)
theorem mem_fits {g : List Rule} {H form : List Str} {k : Int} : k ∈ fitsI g H form ↔ 0 ≤ k ∧ k < g.length ∧ firstHead H form < form.length ∧ (ruleAt g k.toNat).1 = form[firstHead H form]?.getD "" := by
  unfold fitsI fitB
  rw [List.mem_map]
  constructor
  · rintro ⟨j, hj, rfl⟩
    rw [List.mem_filter, List.mem_range, Bool.and_eq_true, decide_eq_true_eq, beq_iff_eq] at hj
    refine ⟨by omega, by omega, hj.2.1, ?_⟩
    rw [Int.toNat_natCast]; exact hj.2.2
  · rintro ⟨h1, h2, h3, h4⟩
    refine ⟨k.toNat, ?_, by omega⟩
    rw [List.mem_filter, List.mem_range, Bool.and_eq_true, decide_eq_true_eq, beq_iff_eq]
    exact ⟨by omega, h3, h4⟩
theorem firstHead_heads (g : List Rule) (form : List Str) : firstHead (headsOf g) form = firstHead (g.map (·.1)) form := by
  unfold firstHead
  congr 1
  funext s
  rw [Bool.eq_iff_iff]
  simp only [List.contains_iff_mem]
  unfold headsOf
  exact mem_dd _ _
theorem step_fit {g : List Rule} {form : List Str} {k : Int} (h : k ∈ fitsI g (g.map (·.1)) form) : stepForm g (headsOf g) form k = some (form.take (firstHead (g.map (·.1)) form) ++ (ruleAt g k.toNat).2 ++ form.drop (firstHead (g.map (·.1)) form + 1)) := by
  obtain ⟨h1, h2, h3, h4⟩ := mem_fits.mp h
  unfold stepForm
  rw [firstHead_heads, if_neg (by omega), if_neg (by omega), if_pos h4]
theorem step_unfit {g : List Rule} {form : List Str} {k : Int} (h : ¬ k ∈ fitsI g (g.map (·.1)) form) : stepForm g (headsOf g) form k = none := by
  unfold stepForm
  rw [firstHead_heads]
  split
  · rfl
  · rename_i c1
    split
    · rfl
    · rename_i c2
      split
      · rename_i c3
        have := firstHead_le (g.map (·.1)) form
        exact absurd (mem_fits.mpr ⟨by omega, by omega, by omega, c3⟩) h
      · rfl
theorem replay_snoc (g : List Rule) (ks : List Int) (k : Int) {form : List Str} (h : replay g ks = some form) : replay g (ks ++ [k]) = stepForm g (headsOf g) form k := by
  unfold replay at h ⊢
  rw [List.foldl_append, h]; rfl

section
variable {prog : Program} {w : World} {mg mb : Str → Option Value} {P : Params}
theorem fn_derive (G : G3 prog w mg mb P) {k : Nat} (g : List Rule) (picks : List Int) (h0 : 0 < g.length) (hg : g.length ≤ 15) (hb : ∀ r ∈ g, r.2.length ≤ 10) (hp : picks.length ≤ 50) :
    FnOk (C3 prog w mg mb P) (k + 1 + 1 + 1) 219 [gD g, gD g, .tuple (picks.map .int)] (.bool true) := by
  refine fn_intro (ps := ["g", "rules", "picks"]) (fnDef_of rfl rfl rfl rfl rfl rfl rfl (by ((intro vs h; rcases vs with _ | ⟨_, _ | ⟨_, _ | ⟨_, _ | ⟨_, _ | ⟨_, _ | ⟨_, _⟩⟩⟩⟩⟩⟩ <;> first | rfl | (simp at h; done)))) (by decide) rfl rfl rfl rfl rfl rfl) rfl fun A L s₀ Z₀ E hA hO hF => ?_
  have hsl : sizeLine = 16777216 := rfl
  have hat : (g.map rD)[((0 : Int)).toNat]? = some (rD (ruleAt g 0)) := by
    show (g.map rD)[0]? = _
    unfold ruleAt
    rw [List.getElem?_map, List.getElem?_eq_getElem h0]; rfl
  have hgj : ∀ j, j < g.length → (g.map rD)[((j : Nat) : Int).toNat]? = some (rD (ruleAt g j)) := fun j hj => by
    rw [Int.toNat_natCast, List.getElem?_map]; unfold ruleAt; rw [List.getElem?_eq_getElem hj]; rfl
  refine ex_cons (xs_assign ((e_map g rD (fun r => .str r.1) ⟨rfl, rfl, rfl, rfl⟩ (src_list (ds := g.map rD) hA.hd (ev_var rfl rfl)) (fun _ => rfl) (by omega) fun L s₀ Z₀ r own hr => ?_).cast (d' := sD (g.map (·.1))) (by unfold sD; rw [List.map_map]; rfl)) rfl (hO _) rfl ?_)
  · exact turn_pall rfl hA rfl rfl (own _ rfl) (own _ rfl) rfl rfl rfl rfl fun ds => ev_var rfl rfl
  refine ex_cons (xs_assign (e_len (n := g.length) (G.b rfl rfl PyProof.Rows.Boot.«len» (by decide)) (ev_var rfl rfl) rfl (by simp [lenD, gD]) (by omega)) rfl (hO _) rfl ?_)
  refine ex_cons (xs_assign ((ev_list (evs_cons (e_item (e_item (ev_var rfl rfl) (ev_int 0) rfl (by decide) (by decide) hat) (ev_int 0) rfl (by decide) (by decide) rfl) evs_nil rfl) (by show 1 ≤ sizeLine; decide)).cast (d' := sD [(ruleAt g 0).1]) rfl) rfl (hO _) rfl ?_)
  refine ex_cons (xs_assign ((ev_list evs_nil (by decide)).cast (d' := .list (([] : List Int).map .int)) rfl) rfl (hO _) rfl ?_)
  refine ex_cons (xs_for (k := 0) (fun i Γ' => ∃ form steps, Has Γ' [("form", .fz (sD form)), ("steps", .fz (.list (steps.map .int))), ("heads", .fz (sD (g.map (·.1)))), ("n", .fz (.int (g.length : Int))), ("rules", .fz (gD g)), ("g", .fz (gD g))] ∧ replay g steps = some form ∧ steps.length ≤ i ∧ form.length ≤ 1 + i * 10)
    (src_tuple (ds := picks.map .int) hA.hd (ev_var rfl rfl)) (fun _ => rfl) ⟨[(ruleAt g 0).1], [], by (repeat (first | exact Has.nil _ | refine Has.add rfl ?_)), rfl, by simp, by simp⟩ (fun i Γ' hi hJ => ?_) (fun Γ' hJ => ?_))
  · have hi' : i < picks.length := by simpa using hi
    rw [getD_map PyData.int hi']
    obtain ⟨form, steps, hH, hrep, hsl', hfl⟩ := hJ
    refine ⟨_, as_name rfl (hO _), ex_has hH.cons ?_⟩
    generalize picks[i] = c
    have hlf : lenD (sD form) = some form.length := by simp [lenD, sD]
    have hz : form.length ≤ 600 := by omega
    refine ex_cons (xs_assign (e_filterR (n := form.length) (fun i => (g.map (·.1)).contains (form[i]?.getD "")) (fun (i : Nat) => .int (i : Int)) ⟨rfl, rfl, rfl, rfl⟩ (s_range (n := form.length) hA.hd (G.b rfl rfl PyProof.Rows.Boot.«range» (by decide)) (e_len (n := form.length) (G.b rfl rfl PyProof.Rows.Boot.«len» (by decide)) (ev_var rfl rfl) rfl hlf (by omega)) rfl (by omega)) (fun _ => rfl) (by omega) fun L s₀ Z₀ i own hi => ?_) rfl (hO _) rfl ?_)
    · have hit : (form.map PyData.str)[((i : Nat) : Int).toNat]? = some (.str (form[i]?.getD "")) := by
        rw [Int.toNat_natCast, List.getElem?_map, List.getElem?_eq_getElem hi]; rfl
      exact turn_if _ rfl rfl (own _ rfl) rfl rfl (fun ds => cds_one (c_inL hA (e_item (ev_var rfl rfl) (ev_var rfl rfl) rfl (by omega) (by omega) hit) (ev_var rfl rfl) rfl)) fun ds _ => ev_var rfl rfl
    have hsp := spots_head (g.map (·.1)) form
    have hspos := spots_pos (g.map (·.1)) form
    have hsplen : (spotsN (g.map (·.1)) form).length ≤ form.length := Nat.le_trans (List.length_filter_le _ _) (by simp)
    change Ex _ _ _ _ _ _ ((_, .fz (.list ((spotsN (g.map fun r => r.1) form).map fun (i : Nat) => PyData.int (i : Int)))) :: _) _ _
    have hfle := firstHead_le (g.map (·.1)) form
    generalize hfh : firstHead (g.map (·.1)) form = p at *
    generalize hspE : spotsN (g.map (·.1)) form = sp at *
    have hsp0 : p < form.length → (sp.map fun (i : Nat) => PyData.int (i : Int))[((0 : Int)).toNat]? = some (.int (p : Int)) := fun q => by
      show (sp.map fun (i : Nat) => PyData.int (i : Int))[0]? = _
      rw [List.getElem?_map, hsp, if_pos q]; rfl
    have hitp : p < form.length → (form.map PyData.str)[((p : Nat) : Int).toNat]? = some (.str (form[p]?.getD "")) := fun q => by
      rw [Int.toNat_natCast, List.getElem?_map, List.getElem?_eq_getElem q]; rfl
    refine ex_cons (xs_filterR (n := g.length) (fitB g (g.map (·.1)) form) (fun (j : Nat) => .int (j : Int)) rfl rfl (hO _) ⟨rfl, rfl, rfl, rfl⟩ (s_range (n := g.length) hA.hd (G.b rfl rfl PyProof.Rows.Boot.«range» (by decide)) (ev_var rfl rfl) rfl (by omega)) (fun _ => rfl) (by omega) (fun L s₀ Z₀ j own hj => ?_) ?_)
    · refine turn_if _ rfl rfl (own _ rfl) rfl rfl (fun ds => cds_one ((cd_and (b := decide (p < form.length) && ((ruleAt g j).1 == form[p]?.getD "")) (c_gt hA (e_len (n := sp.length) (G.b rfl rfl PyProof.Rows.Boot.«len» (by decide)) (ev_var rfl rfl) rfl (by simp [lenD]) (by omega)) (ev_int 0)) fun hb => ?_).cast ?_)) fun ds _ => ev_var rfl rfl
      · have q : p < form.length := of_decide_eq_true (hspos ▸ hb)
        rw [decide_eq_true q, Bool.true_and]
        exact (cd_and (c_eqS hA (e_item (e_item (ev_var rfl rfl) (ev_var rfl rfl) rfl (by omega) (by omega) (hgj j hj)) (ev_int 0) rfl (by decide) (by decide) rfl) (e_item (ev_var rfl rfl) (e_item (ev_var rfl rfl) (ev_int 0) rfl (by decide) (by decide) (hsp0 q)) rfl (by omega) (by omega) (hitp q))) fun _ => cd_and0).cast (by rw [Bool.and_true])
      · unfold fitB
        rw [hfh, hspos]
        cases decide (p < form.length) <;> rfl
    have eqF : PyData.list (((List.range g.length).filter (fitB g (g.map (·.1)) form)).map fun (j : Nat) => PyData.int (j : Int)) = .list ((fitsI g (g.map (·.1)) form).map .int) := by
      unfold fitsI; rw [List.map_map]; rfl
    rw [eqF]
    have hFl := fits_len g (g.map (·.1)) form
    generalize hF' : fitsI g (g.map (·.1)) form = F at *
    refine ex_cons (xs_assign ((e_addL (e_addL (ev_var rfl rfl) (ev_var rfl rfl) (by simp only [List.length_map]; omega)) (ev_list (evs_cons (ev_var rfl rfl) (evs_cons (e_neg (ev_int 1)) (evs_cons (ev_int 0) (evs_cons (ev_var rfl rfl) evs_nil rfl) rfl) rfl) rfl) (by show 4 ≤ sizeLine; decide)) (by simp only [List.length_map, List.length_append, List.length_cons, List.length_nil]; omega)).cast (d' := .list ((F ++ F ++ [(g.length : Int), -1, 0, c]).map .int)) (by rw [List.map_append, List.map_append]; rfl)) rfl (hO _) rfl ?_)
    have hcl : 0 < (F ++ F ++ [(g.length : Int), -1, 0, c]).length := by simp only [List.length_append, List.length_cons, List.length_nil]; omega
    have hcl2 : (F ++ F ++ [(g.length : Int), -1, 0, c]).length ≤ 100 := by simp only [List.length_append, List.length_cons, List.length_nil]; omega
    generalize F ++ F ++ [(g.length : Int), -1, 0, c] = ch at *
    have hix := idx_lt c hcl
    have hk : (ch.map PyData.int)[((idx c ch.length : Nat) : Int).toNat]? = some (.int ch[idx c ch.length]) := by
      rw [Int.toNat_natCast, List.getElem?_map, List.getElem?_eq_getElem hix]; rfl
    refine ex_cons (xs_assign (e_item (ev_var rfl rfl) ((e_mod (ev_var rfl rfl) (e_len (n := ch.length) (G.b rfl rfl PyProof.Rows.Boot.«len» (by decide)) (ev_var rfl rfl) rfl (by simp [lenD]) (by omega)) (by omega)).cast (d' := .int ((idx c ch.length : Nat) : Int)) (by rw [fmod_idx _ hcl])) rfl (by omega) (by omega) hk) rfl (hO _) rfl ?_)
    generalize ch[idx c ch.length] = kv at *
    refine ex_cons (xs_assign ((e_addL (ev_var rfl rfl) (ev_list (evs_cons (ev_var rfl rfl) evs_nil rfl) (by show 1 ≤ sizeLine; decide)) (by simp only [List.length_map, List.length_cons, List.length_nil]; omega)).cast (d' := .list ((steps ++ [kv]).map .int)) (by rw [List.map_append]; rfl)) rfl (hO _) rfl ?_)
    have hsnoc := replay_snoc g steps kv hrep
    refine ex_cons (xs_assign (ev_call hA rfl (G.at rfl) rfl rfl (evs_cons (ev_var rfl rfl) (evs_cons (ev_var rfl rfl) evs_nil rfl) rfl) rfl (fn_replayed G g (steps ++ [kv]) h0 (by omega) hb (by rw [List.length_append]; simp only [List.length_cons, List.length_nil]; omega))) rfl (hO _) rfl ?_)
    refine ex_cons (xs_if (c_neSame hA (ev_var rfl rfl) ((e_addL (ev_var rfl rfl) (ev_list (evs_cons (ev_var rfl rfl) evs_nil rfl) (by show 1 ≤ sizeLine; decide)) (by simp only [List.length_map, List.length_cons, List.length_nil]; omega)).cast (d' := .list ((steps ++ [kv]).map .int)) (by rw [List.map_append]; rfl)) (dOk_ints _) (by decide)) (fun hb => by cases hb) fun _ => ex_nil ?_)
    refine ex_join (fun Γ' => ∃ form steps, Has Γ' [("form", .fz (sD form)), ("steps", .fz (.list (steps.map .int))), ("heads", .fz (sD (g.map (·.1)))), ("n", .fz (.int (g.length : Int))), ("rules", .fz (gD g)), ("g", .fz (gD g))] ∧ replay g steps = some form ∧ steps.length ≤ i + 1 ∧ form.length ≤ 1 + (i + 1) * 10)
      (xs_if (c_inI hA (ev_var rfl rfl) (ev_var rfl rfl) rfl) (fun hb1 => ?_) (fun hb1 => ?_)) (fun Γ' hG => ?_)
    · have hin : kv ∈ fitsI g (g.map (·.1)) form := by rw [hF']; simpa using hb1
      have hstep := step_fit hin
      obtain ⟨k1, k2, k3, k4⟩ := mem_fits.mp hin
      rw [hfh] at hstep k3 k4
      have hkl : kv.toNat < g.length := by omega
      have hgk : (g.map rD)[kv.toNat]? = some (rD (ruleAt g kv.toNat)) := by
        rw [List.getElem?_map]; unfold ruleAt; rw [List.getElem?_eq_getElem hkl]; rfl
      have hrl : (ruleAt g kv.toNat).2.length ≤ 10 := by
        unfold ruleAt; rw [List.getElem?_eq_getElem hkl]; exact hb _ (List.getElem_mem hkl)
      have hmz : (form.map PyData.str).length ≤ sizeLine := by rw [List.length_map]; omega
      have hlm : (form.map PyData.str).length = form.length := List.length_map _
      refine ex_cons (xs_assign (e_item (ev_var rfl rfl) (ev_int 0) rfl (by decide) (by decide) (hsp0 k3)) rfl (hO _) rfl ?_)
      refine ex_cons (xs_assign ((e_addL (e_addL (b := (ruleAt g kv.toNat).2.map .str) (ev_slice (ev_var rfl rfl) o_none (o_some (ev_var rfl rfl)) hmz) (e_item (e_item (ev_var rfl rfl) (ev_var rfl rfl) rfl (by omega) (by omega) hgk) (ev_int 1) rfl (by decide) (by decide) rfl) ?_) (ev_slice (ev_var rfl rfl) (o_some (e_addI (ev_var rfl rfl) (ev_int 1))) o_none hmz) ?_).cast (d' := sD (form.take p ++ (ruleAt g kv.toNat).2 ++ form.drop (p + 1))) ?_) rfl (hO _) rfl ?_)
      · rw [sliceD_to _ _ (by omega)]; simp only [List.length_take, List.length_map]; omega
      · rw [sliceD_to _ _ (by omega), sliceD_from' _ _ (by omega) (by rw [hlm]; omega)]; simp only [List.length_append, List.length_take, List.length_map, List.length_drop]; omega
      · show PyData.list _ = PyData.list _
        rw [sliceD_to _ _ (by omega), sliceD_from' _ _ (by omega) (by rw [hlm]; omega), List.map_append, List.map_append, List.map_take, List.map_drop]
        have e1 : ((p : Int)).toNat = p := by omega
        have e2 : ((p : Int) + 1).toNat = p + 1 := by omega
        rw [e1, e2]
      refine ex_cons (xs_assign ((e_addL (ev_var rfl rfl) (ev_list (evs_cons (ev_var rfl rfl) evs_nil rfl) (by show 1 ≤ sizeLine; decide)) (by simp only [List.length_map, List.length_cons, List.length_nil]; omega)).cast (d' := .list ((steps ++ [kv]).map .int)) (by rw [List.map_append]; rfl)) rfl (hO _) rfl ?_)
      have hfl2 := stepForm_len hb hstep
      rw [hstep] at hsnoc
      refine ex_cons (xs_if (c_neSame hA ((ev_var rfl rfl).cast (by rw [hsnoc]; rfl)) (ev_var rfl rfl) (dOk_sD (form.take p ++ (ruleAt g kv.toNat).2 ++ form.drop (p + 1))) (by decide)) (fun hb => by cases hb) fun _ => ex_nil (ex_nil ⟨_, _, by (repeat (first | exact Has.nil _ | refine Has.add rfl ?_)), hsnoc, ?_, by omega⟩))
      rw [List.length_append]; simp only [List.length_cons, List.length_nil]; omega
    · have hin : ¬ kv ∈ fitsI g (g.map (·.1)) form := by rw [hF']; simpa using hb1
      rw [step_unfit hin] at hsnoc
      exact ex_cons (xs_if (c_is (d₁ := .none) ((ev_var rfl rfl).cast (by rw [hsnoc]; rfl)) ev_none rfl rfl) (fun hb => by cases hb) fun _ => ex_nil (ex_nil ⟨form, steps, by (repeat (first | exact Has.nil _ | refine Has.add rfl ?_)), hrep, by omega, by omega⟩))
    · obtain ⟨form', steps', hH', hrep', hs', hf'⟩ := hG
      refine ex_has hH' ?_
      exact ex_cons (xs_if (c_neSame hA ((ev_call hA rfl (G.at rfl) rfl rfl (evs_cons (ev_var rfl rfl) (evs_cons (ev_var rfl rfl) evs_nil rfl) rfl) rfl (fn_replayed G g steps' h0 (by omega) hb (by omega))).cast (d' := sD form') (by rw [hrep']; rfl)) (ev_var rfl rfl) (dOk_sD _) (by decide)) (fun hb => by cases hb) fun _ => ex_nil (ex_nil ⟨form', steps', by (repeat (first | exact Has.nil _ | refine Has.add rfl ?_)), hrep', hs', hf'⟩))
  · obtain ⟨form, steps, hH, _⟩ := hJ
    exact ex_has hH (ex_cons (xs_return (ev_bool true) rfl))
end
end

section
set_option autoImplicit false
set_option linter.unusedVariables false
set_option maxRecDepth 100000
open PySem

structure Alpha (g : List Rule) : Prop where
  hd : ∀ r ∈ g, r.1 ∈ headT
  sy : ∀ r ∈ g, ∀ s ∈ r.2, s ∈ symT

theorem con_iff {l : List Str} {x : Str} : l.contains x = true ↔ x ∈ l := by simp
theorem con_false {l : List Str} {x : Str} : l.contains x = false ↔ ¬ x ∈ l := by simp
theorem headT_sorted : headT.Pairwise fun a b => leS a b = true := by decide
theorem headT_nodup : headT.Nodup := by decide
theorem symT_sorted : symT.Pairwise fun a b => leS a b = true := by decide
theorem symT_nodup : symT.Nodup := by decide
theorem same_perm {a b : List Str} (ha : a.Nodup) (hb : b.Nodup) (h : ∀ x, x ∈ a ↔ x ∈ b) : a.Perm b := (List.perm_ext_iff_of_nodup ha hb).mpr h
theorem srt_same {a b : List Str} (ha : a.Nodup) (hb : b.Nodup) (hs : b.Pairwise fun a b => leS a b = true) (h : ∀ x, x ∈ a ↔ x ∈ b) : srt a = b :=
  perm_sorted_eq (srt_pairwise a) hs ((srt_perm a).trans (same_perm ha hb h))
theorem rising_sorted (g : List Rule) : (risingOf g).Pairwise fun a b => leS a b = true := headT_sorted.filter _
theorem rising_nodup (g : List Rule) : (risingOf g).Nodup := headT_nodup.filter _

theorem addNew_nodup {f : List Str} {s : Str} (h : f.Nodup) : (addNew f s).Nodup := by
  unfold addNew
  split
  · exact h
  · rename_i hc
    rw [List.nodup_append]
    refine ⟨h, by simp, fun a ha b hb e => ?_⟩
    cases List.mem_singleton.mp hb
    subst e
    exact hc (con_iff.mpr ha)
theorem foldNew_nodup : ∀ (l f : List Str), f.Nodup → (l.foldl addNew f).Nodup
  | [], _, h => h
  | s :: l, f, h => foldNew_nodup l _ (addNew_nodup h)
theorem dd_nodup (l : List Str) : (dd l).Nodup := foldNew_nodup l [] .nil
theorem mem_heads {g : List Rule} {x : Str} : x ∈ headsOf g ↔ ∃ r ∈ g, r.1 = x := by unfold headsOf; rw [mem_dd]; simp
theorem mem_rising {g : List Rule} (A : Alpha g) {x : Str} : x ∈ risingOf g ↔ x ∈ headsOf g := by
  unfold risingOf
  rw [List.mem_filter, con_iff]
  refine ⟨fun h => h.2, fun h => ⟨?_, h⟩⟩
  obtain ⟨r, hr, rfl⟩ := mem_heads.mp h
  exact A.hd r hr
theorem mem_newToks {hs acc : List Str} {s x : Str} : x ∈ newToks hs acc s ↔ x ∈ acc ∨ (x = s ∧ ¬ x ∈ hs) := by
  unfold newToks
  by_cases h1 : s ∈ hs
  · rw [if_neg (by simp [h1])]
    refine ⟨.inl, ?_⟩
    rintro (h | ⟨rfl, h⟩)
    · exact h
    · exact absurd h1 h
  · by_cases h2 : s ∈ acc
    · rw [if_neg (by simp [h2])]
      refine ⟨.inl, ?_⟩
      rintro (h | ⟨rfl, h⟩)
      · exact h
      · exact h2
    · rw [if_pos (by simp [h1, h2]), List.mem_append, List.mem_singleton]
      refine ⟨?_, ?_⟩
      · rintro (h | rfl)
        · exact .inl h
        · exact .inr ⟨rfl, h1⟩
      · rintro (h | ⟨rfl, h⟩)
        · exact .inl h
        · exact .inr rfl
theorem newToks_nodup {hs acc : List Str} {s : Str} (h : acc.Nodup) : (newToks hs acc s).Nodup := by
  unfold newToks
  split
  · rename_i hc
    rw [List.nodup_append]
    refine ⟨h, by simp, fun a ha b hb e => ?_⟩
    cases List.mem_singleton.mp hb
    subst e
    simp [ha] at hc
  · exact h
theorem mem_foldToks {hs : List Str} : ∀ (l acc : List Str) (x : Str), x ∈ l.foldl (newToks hs) acc ↔ x ∈ acc ∨ (x ∈ l ∧ ¬ x ∈ hs)
  | [], acc, x => by simp
  | s :: l, acc, x => by
    rw [List.foldl_cons, mem_foldToks l, mem_newToks, List.mem_cons]
    constructor
    · rintro ((h | h) | h)
      · exact .inl h
      · exact .inr ⟨.inl h.1, h.2⟩
      · exact .inr ⟨.inr h.1, h.2⟩
    · rintro (h | ⟨h | h, h'⟩)
      · exact .inl (.inl h)
      · exact .inl (.inr ⟨h, h'⟩)
      · exact .inr ⟨h, h'⟩
theorem foldToks_nodup {hs : List Str} : ∀ (l acc : List Str), acc.Nodup → (l.foldl (newToks hs) acc).Nodup
  | [], _, h => h
  | s :: l, acc, h => foldToks_nodup l _ (newToks_nodup h)
theorem toks_key {hs : List Str} : ∀ (g : List Rule) (acc : List Str), acc.Nodup → (g.foldl (fun acc r => r.2.foldl (newToks hs) acc) acc).Nodup ∧ ∀ x, x ∈ g.foldl (fun acc r => r.2.foldl (newToks hs) acc) acc ↔ x ∈ acc ∨ (¬ x ∈ hs ∧ ∃ r ∈ g, x ∈ r.2)
  | [], acc, h => ⟨h, fun x => by simp⟩
  | r :: g, acc, h => by
    obtain ⟨h1, h2⟩ := toks_key (hs := hs) g (r.2.foldl (newToks hs) acc) (foldToks_nodup _ _ h)
    refine ⟨h1, fun x => ?_⟩
    rw [List.foldl_cons, h2, mem_foldToks]
    constructor
    · rintro ((h | h) | ⟨h, r', hr', h'⟩)
      · exact .inl h
      · exact .inr ⟨h.2, r, List.mem_cons_self, h.1⟩
      · exact .inr ⟨h, r', List.mem_cons_of_mem _ hr', h'⟩
    · rintro (h | ⟨h, r', hr', h'⟩)
      · exact .inl (.inl h)
      · rcases List.mem_cons.mp hr' with rfl | hr'
        · exact .inl (.inr ⟨h', h⟩)
        · exact .inr ⟨h, r', hr', h'⟩
theorem sets_toks {g : List Rule} (A : Alpha g) : srt (toksUpTo (headsOf g) g) = looseOf g := by
  obtain ⟨h1, h2⟩ := toks_key (hs := headsOf g) g [] .nil
  refine srt_same h1 (symT_nodup.filter _) (symT_sorted.filter _) fun x => ?_
  unfold toksUpTo looseOf
  rw [h2, List.mem_filter]
  simp only [List.not_mem_nil, false_or, Bool.and_eq_true, Bool.not_eq_true', con_false, List.any_eq_true, con_iff]
  constructor
  · rintro ⟨h, r, hr, hx⟩
    exact ⟨A.sy r hr x hx, h, r, hr, hx⟩
  · rintro ⟨_, h⟩
    exact h

noncomputable def rounds (T : List Str) (op : List Str → Str → Bool) (a0 : List Str) : Nat → List Str
  | 0 => a0
  | n + 1 => T.filter (op (rounds T op a0 n))
theorem filter_eq_of_len {p q : Str → Bool} {l : List Str} (h : ∀ x ∈ l, p x = true → q x = true) (hl : (l.filter p).length = (l.filter q).length) : l.filter p = l.filter q := by
  refine List.filter_congr fun x hx => ?_
  cases hp : p x with
  | true => exact (h x hx hp).symm
  | false =>
    cases hq : q x with
    | false => rfl
    | true => have := filter_lt p q l h hx hp hq; omega
theorem rounds_fix {T : List Str} {op : List Str → Str → Bool} {a0 : List Str} (hT : T.length ≤ 3) (mono : ∀ a b : List Str, (∀ x ∈ a, x ∈ b) → ∀ x ∈ T, op a x = true → op b x = true) (h0 : ∀ x ∈ a0, x ∈ rounds T op a0 1) : rounds T op a0 3 = rounds T op a0 4 := by
  have sub : ∀ n, ∀ x ∈ rounds T op a0 n, x ∈ rounds T op a0 (n + 1) := by
    intro n
    induction n with
    | zero => exact h0
    | succ n ih =>
      intro x hx
      obtain ⟨h1, h2⟩ := List.mem_filter.mp hx
      exact List.mem_filter.mpr ⟨h1, mono _ _ ih x h1 h2⟩
  have step : ∀ n, rounds T op a0 n = rounds T op a0 (n + 1) → rounds T op a0 (n + 1) = rounds T op a0 (n + 2) := fun n h => by
    show T.filter (op (rounds T op a0 n)) = T.filter (op (rounds T op a0 (n + 1)))
    rw [← h]
  have len : ∀ n, (rounds T op a0 (n + 1)).length = (rounds T op a0 (n + 2)).length → rounds T op a0 (n + 1) = rounds T op a0 (n + 2) := fun n h => filter_eq_of_len (fun x hx => mono _ _ (sub n) x hx) h
  have le : ∀ n, (rounds T op a0 (n + 1)).length ≤ (rounds T op a0 (n + 2)).length := fun n => filter_le _ _ _ fun x hx => mono _ _ (sub n) x hx
  have l4 : (rounds T op a0 4).length ≤ 3 := Nat.le_trans (List.length_filter_le _ _) hT
  have d1 := le 0
  have d2 := le 1
  have d3 := le 2
  by_cases e1 : (rounds T op a0 1).length = (rounds T op a0 2).length
  · exact step 2 (step 1 (len 0 e1))
  by_cases e2 : (rounds T op a0 2).length = (rounds T op a0 3).length
  · exact step 2 (len 1 e2)
  by_cases e3 : (rounds T op a0 3).length = (rounds T op a0 4).length
  · exact len 2 e3
  exfalso
  simp only [Nat.zero_add, Nat.reduceAdd] at d1 d2 d3
  have z : rounds T op a0 1 = [] := List.length_eq_zero_iff.mp (by omega)
  have z0 : a0 = [] := List.eq_nil_iff_forall_not_mem.mpr fun x hx => by have := h0 x hx; rw [z] at this; cases this
  exact e1 (congrArg List.length (step 0 (by rw [z]; exact z0)))
theorem rounds_in {T : List Str} {op : List Str → Str → Bool} {a0 : List Str} (X : Str → Prop) (h0 : ∀ x ∈ a0, X x) (hs : ∀ a : List Str, (∀ x ∈ a, X x) → ∀ x ∈ T, op a x = true → X x) : ∀ n, ∀ x ∈ rounds T op a0 n, X x
  | 0, x, hx => h0 x hx
  | n + 1, x, hx => hs _ (rounds_in X h0 hs n) x (List.mem_filter.mp hx).1 (List.mem_filter.mp hx).2

theorem mem_hbTest {given f : List Str} {r : Rule} : hbTest given f r = true ↔ ¬ r.1 ∈ f ∧ ∀ s ∈ r.2, s ∈ given ∨ s ∈ f := by
  unfold hbTest
  simp only [Bool.and_eq_true, Bool.not_eq_true', con_false, List.all_eq_true, Bool.or_eq_true, con_iff]
theorem hbStep_ok {given : List Str} {p : List Str × Bool} {r : Rule} {X : Str → Prop} (hX : (∀ s ∈ r.2, s ∈ given ∨ X s) → X r.1) (h : p.1.Nodup ∧ ∀ x ∈ p.1, X x) : (hbStep given p r).1.Nodup ∧ ∀ x ∈ (hbStep given p r).1, X x := by
  unfold hbStep
  split
  · rename_i ht
    obtain ⟨h1, h2⟩ := mem_hbTest.mp ht
    constructor
    · rw [List.nodup_append]
      refine ⟨h.1, by simp, fun a ha b hb e => ?_⟩
      cases List.mem_singleton.mp hb
      subst e; exact h1 ha
    · intro x hx
      rcases List.mem_append.mp hx with q | q
      · exact h.2 x q
      · cases List.mem_singleton.mp q
        exact hX fun s hs => (h2 s hs).imp id (h.2 s)
  · exact h
theorem hbFold_ok {given : List Str} {X : Str → Prop} : ∀ (g : List Rule) (p : List Str × Bool), (∀ r ∈ g, (∀ s ∈ r.2, s ∈ given ∨ X s) → X r.1) → (p.1.Nodup ∧ ∀ x ∈ p.1, X x) → (g.foldl (hbStep given) p).1.Nodup ∧ ∀ x ∈ (g.foldl (hbStep given) p).1, X x
  | [], _, _, h => h
  | r :: g, p, hX, h => hbFold_ok g _ (fun r hr => hX r (List.mem_cons_of_mem _ hr)) (hbStep_ok (hX r List.mem_cons_self) h)
theorem hbFin_ok {given : List Str} {g : List Rule} {X : Str → Prop} (hX : ∀ r ∈ g, (∀ s ∈ r.2, s ∈ given ∨ X s) → X r.1) : ∀ (n : Nat) (f : List Str) (c : Bool), (f.Nodup ∧ ∀ x ∈ f, X x) → (hbFin given g n f c).Nodup ∧ ∀ x ∈ hbFin given g n f c, X x
  | 0, f, c, h => h
  | n + 1, f, c, h => by
    unfold hbFin
    split
    · exact hbFin_ok hX n _ _ (hbFold_ok g _ hX h)
    · exact h
theorem hbFin_closed {given : List Str} {g : List Rule} : ∀ (n : Nat) (f : List Str) (c : Bool), hbLeft g f + (if c then 1 else 0) ≤ n → (c = false → ∀ r ∈ g, hbTest given f r = false) → ∀ r ∈ g, hbTest given (hbFin given g n f c) r = false
  | 0, f, c, hn, hc => by
    cases c with
    | true => simp only [if_true] at hn; omega
    | false => exact hc rfl
  | n + 1, f, c, hn, hc => by
    unfold hbFin
    cases c with
    | false => exact hc rfl
    | true =>
      simp only [if_true] at hn ⊢
      refine hbFin_closed n _ _ ?_ fun h2 => ?_
      · cases hp : (hbPass given g f).2 with
        | true =>
          have := hbFold_left given g g (f, false) (fun _ h => h) rfl hp
          simp only at this
          simp only [if_true]
          show hbLeft g (g.foldl (hbStep given) (f, false)).1 + 1 ≤ n
          omega
        | false =>
          have := (hbFold_same given g (f, false) hp).1
          simp only [Bool.false_eq_true, if_false]
          show hbLeft g (g.foldl (hbStep given) (f, false)).1 + 0 ≤ n
          rw [this]; simp only; omega
      · have := hbFold_same given g (f, false) h2
        show ∀ r ∈ g, hbTest given (g.foldl (hbStep given) (f, false)).1 r = false
        rw [this.1]; exact this.2
theorem hbOf_nodup (g : List Rule) (given : List Str) : (hbOf g given).Nodup := (hbFin_ok (X := fun _ => True) (fun _ _ _ => trivial) _ [] true ⟨.nil, fun _ _ => trivial⟩).1
theorem hbOf_least (g : List Rule) (given : List Str) (X : Str → Prop) (hX : ∀ r ∈ g, (∀ s ∈ r.2, s ∈ given ∨ X s) → X r.1) : ∀ x ∈ hbOf g given, X x := (hbFin_ok hX _ [] true ⟨.nil, fun x hx => by cases hx⟩).2
theorem hbOf_closed (g : List Rule) (given : List Str) : ∀ r ∈ g, (∀ s ∈ r.2, s ∈ given ∨ s ∈ hbOf g given) → r.1 ∈ hbOf g given := fun r hr h => by
  have h0 : hbLeft g [] ≤ g.length := by unfold hbLeft; exact List.length_filter_le _ _
  have := hbFin_closed (given := given) (g := g) (g.length + 1) [] true (by simp only [if_true]; omega) (fun q => by cases q) r hr
  refine Classical.byContradiction fun hn => ?_
  have ht : hbTest given (hbOf g given) r = true := mem_hbTest.mpr ⟨hn, h⟩
  unfold hbOf at ht
  rw [this] at ht; cases ht
theorem builtT_iff {g : List Rule} {given a : List Str} {x : Str} : builtT g given a x = true ↔ ∃ r ∈ g, r.1 = x ∧ ∀ s ∈ r.2, s ∈ given ∨ s ∈ a := by
  unfold builtT
  simp only [List.any_eq_true, Bool.and_eq_true, beq_iff_eq, List.all_eq_true, Bool.or_eq_true, con_iff]
theorem sets_built {g : List Rule} (A : Alpha g) (given : List Str) : srt (hbOf g given) = builtN g (risingOf g) given 3 := by
  have e : ∀ n, builtN g (risingOf g) given n = rounds (risingOf g) (builtT g given) [] n := by
    intro n
    induction n with
    | zero => rfl
    | succ n ih => unfold builtN rounds; rw [ih]
  have fix := rounds_fix (T := risingOf g) (op := builtT g given) (a0 := []) (rising_len g) (fun a b hab x _ h => by
    obtain ⟨r, hr, h1, h2⟩ := builtT_iff.mp h
    exact builtT_iff.mpr ⟨r, hr, h1, fun s hs => (h2 s hs).imp id (hab s)⟩) (fun x hx => by cases hx)
  rw [e]
  refine srt_same (hbOf_nodup g given) ((rising_nodup g).filter _) ((rising_sorted g).filter _) fun x => ⟨fun hx => ?_, fun hx => ?_⟩
  · refine hbOf_least g given (· ∈ rounds (risingOf g) (builtT g given) [] 3) (fun r hr h => ?_) x hx
    show r.1 ∈ rounds (risingOf g) (builtT g given) [] 3
    rw [fix]
    exact List.mem_filter.mpr ⟨(mem_rising A).mpr (mem_heads.mpr ⟨r, hr, rfl⟩), builtT_iff.mpr ⟨r, hr, rfl, h⟩⟩
  · refine rounds_in (· ∈ hbOf g given) (fun x hx => by cases hx) (fun a ha x _ h => ?_) 3 x hx
    obtain ⟨r, hr, rfl, h2⟩ := builtT_iff.mp h
    exact hbOf_closed g given r hr fun s hs => (h2 s hs).imp id (ha s)

theorem clFin_ok {succ : Str → List Str} {U : List Str} (hU : ∀ x, ∀ s ∈ succ x, s ∈ U) : ∀ (n p : Nat) (f : List Str), f.Nodup → f.length + clLeft U f ≤ p + n → (∀ i (hi : i < f.length), i < p → ∀ s ∈ succ f[i], s ∈ f) →
    (clFin succ n p f).Nodup ∧ (∀ x ∈ f, x ∈ clFin succ n p f) ∧ (∀ x ∈ clFin succ n p f, ∀ s ∈ succ x, s ∈ clFin succ n p f) ∧ ∀ X : Str → Prop, (∀ x ∈ f, X x) → (∀ x, X x → ∀ s ∈ succ x, X s) → ∀ x ∈ clFin succ n p f, X x
  | 0, p, f, hd, hl, hc => ⟨hd, fun _ h => h, fun x hx s hs => by
      have hx' : x ∈ f := hx
      obtain ⟨i, hi, rfl⟩ := List.getElem_of_mem hx'
      exact hc i hi (by omega) s hs, fun X h _ => h⟩
  | n + 1, p, f, hd, hl, hc => by
    unfold clFin
    by_cases hp : p < f.length
    · rw [if_pos hp, List.getElem?_eq_getElem hp]
      simp only [Option.getD_some]
      have hinv := foldNew_inv (U := U) (succ f[p]) f (hU _)
      obtain ⟨i1, i2, i3, i4⟩ := clFin_ok hU n (p + 1) ((succ f[p]).foldl addNew f) (foldNew_nodup _ _ hd) (by omega) fun i hi hip s hs => by
        rw [mem_foldNew]
        obtain ⟨t, ht⟩ := foldNew_prefix (succ f[p]) f
        have hif : i < f.length := by omega
        have e : ((succ f[p]).foldl addNew f)[i] = f[i] := by
          have : ((succ f[p]).foldl addNew f)[i]? = f[i]? := foldNew_get hif
          rw [List.getElem?_eq_getElem hi, List.getElem?_eq_getElem hif] at this
          exact Option.some.inj this
        rw [e] at hs
        rcases Nat.lt_or_ge i p with q | q
        · exact .inl (hc i hif q s hs)
        · have : i = p := by omega
          subst this; exact .inr hs
      refine ⟨i1, fun x hx => i2 x ((mem_foldNew _ _ _).mpr (.inl hx)), i3, fun X h0 hs => i4 X (fun x hx => ?_) hs⟩
      rcases (mem_foldNew _ _ _).mp hx with q | q
      · exact h0 x q
      · exact hs _ (h0 _ (List.getElem_mem hp)) x q
    · rw [if_neg hp]
      exact ⟨hd, fun _ h => h, fun x hx s hs => by
        obtain ⟨i, hi, rfl⟩ := List.getElem_of_mem hx
        exact hc i hi (by omega) s hs, fun X h _ => h⟩
theorem mem_succR {g : List Rule} {hs : List Str} {h x : Str} : x ∈ succR g hs h ↔ ∃ r ∈ g, r.1 = h ∧ x ∈ r.2 ∧ x ∈ hs := by
  unfold succR
  rw [List.mem_flatMap]
  constructor
  · rintro ⟨r, hr, hx⟩
    split at hx
    · rename_i e
      obtain ⟨h1, h2⟩ := List.mem_filter.mp hx
      exact ⟨r, hr, by simpa using e, h1, con_iff.mp h2⟩
    · cases hx
  · rintro ⟨r, hr, rfl, h1, h2⟩
    exact ⟨r, hr, by rw [if_pos (by simp)]; exact List.mem_filter.mpr ⟨h1, con_iff.mpr h2⟩⟩
theorem reachT_iff {g : List Rule} {start x : Str} {a : List Str} : reachT g start a x = true ↔ x = start ∨ ∃ r ∈ g, r.1 ∈ a ∧ x ∈ r.2 := by
  unfold reachT
  simp only [Bool.or_eq_true, beq_iff_eq, List.any_eq_true, Bool.and_eq_true, con_iff]
theorem sets_reach {g : List Rule} (A : Alpha g) (h0 : 0 < g.length) : srt (reachOf g) = reachN g 3 := by
  have hst : (ruleAt g 0).1 ∈ headsOf g := mem_heads.mpr ⟨ruleAt g 0, by unfold ruleAt; rw [List.getElem?_eq_getElem h0]; exact List.getElem_mem h0, rfl⟩
  have hst' := (mem_rising A).mpr hst
  unfold reachOf
  have e : ∀ n, reachN g n = rounds (risingOf g) (reachT g (ruleAt g 0).1) [(ruleAt g 0).1] n := by
    intro n
    induction n with
    | zero => rfl
    | succ n ih => unfold reachN rounds; rw [ih]
  rw [e]
  generalize (ruleAt g 0).1 = start at *
  have fix := rounds_fix (T := risingOf g) (op := reachT g start) (a0 := [start]) (rising_len g) (fun a b hab x _ h => by
    rcases reachT_iff.mp h with h | ⟨r, hr, h1, h2⟩
    · exact reachT_iff.mpr (.inl h)
    · exact reachT_iff.mpr (.inr ⟨r, hr, hab _ h1, h2⟩)) (fun x hx => by
      cases List.mem_singleton.mp hx
      exact List.mem_filter.mpr ⟨hst', reachT_iff.mpr (.inl rfl)⟩)
  obtain ⟨c1, c2, c3, c4⟩ := clFin_ok (succ := succR g (headsOf g)) (U := headsOf g) (fun x s hs => by obtain ⟨r, hr, _, _, h⟩ := mem_succR.mp hs; exact h) ((headsOf g).length + 1) 0 [start] (by simp)
    (by have : clLeft (headsOf g) [start] ≤ (headsOf g).length := by unfold clLeft; exact List.length_filter_le _ _
        simp only [List.length_cons, List.length_nil]; omega) (fun i _ h => by omega)
  refine srt_same c1 ((rising_nodup g).filter _) ((rising_sorted g).filter _) fun x => ⟨fun hx => ?_, fun hx => ?_⟩
  · refine c4 (· ∈ rounds (risingOf g) (reachT g start) [start] 3) (fun x hx => ?_) (fun x hx s hs => ?_) x hx
    · cases List.mem_singleton.mp hx
      show start ∈ rounds (risingOf g) (reachT g start) [start] 3
      exact List.mem_filter.mpr ⟨hst', reachT_iff.mpr (.inl rfl)⟩
    · show s ∈ rounds (risingOf g) (reachT g start) [start] 3
      obtain ⟨r, hr, h1, h2, h3⟩ := mem_succR.mp hs
      subst h1
      rw [fix]
      exact List.mem_filter.mpr ⟨(mem_rising A).mpr h3, reachT_iff.mpr (.inr ⟨r, hr, hx, h2⟩)⟩
  · refine rounds_in (· ∈ clFin (succR g (headsOf g)) ((headsOf g).length + 1) 0 [start]) c2 (fun a ha x hT h => ?_) 3 x hx
    rcases reachT_iff.mp h with rfl | ⟨r, hr, h1, h2⟩
    · exact c2 _ (List.mem_singleton.mpr rfl)
    · exact c3 _ (ha _ h1) x (mem_succR.mpr ⟨r, hr, rfl, h2, (mem_rising A).mp hT⟩)

theorem mem_dlcB {heads nul : List Str} : ∀ (b f : List Str) (x : Str), x ∈ dlcB heads nul b f ↔ x ∈ f ∨ (x ∈ heads ∧ ∃ j, ∃ hj : j < b.length, b[j] = x ∧ ∀ y ∈ b.take j, y ∈ nul)
  | [], f, x => by simp [dlcB]
  | s :: b, f, x => by
    have h1 : x ∈ ((if heads.contains s then srt (dd (f ++ [s])) else f) : List Str) ↔ x ∈ f ∨ (x = s ∧ x ∈ heads) := by
      split
      · rename_i hs
        rw [mem_srt, mem_dd, List.mem_append, List.mem_singleton]
        refine ⟨?_, ?_⟩
        · rintro (h | rfl)
          · exact .inl h
          · exact .inr ⟨rfl, con_iff.mp hs⟩
        · rintro (h | ⟨h, _⟩)
          · exact .inl h
          · exact .inr h
      · rename_i hs
        refine ⟨.inl, ?_⟩
        rintro (h | ⟨rfl, h⟩)
        · exact h
        · exact absurd (con_iff.mpr h) hs
    rw [dlcB_cons]
    by_cases hn : s ∈ nul
    · rw [if_pos (con_iff.mpr hn), mem_dlcB b, h1]
      constructor
      · rintro ((h | ⟨rfl, h⟩) | ⟨h, j, hj, e, hy⟩)
        · exact .inl h
        · exact .inr ⟨h, 0, by simp, rfl, by simp⟩
        · refine .inr ⟨h, j + 1, by simpa using hj, by simpa using e, fun y hy' => ?_⟩
          rw [List.take_succ_cons] at hy'
          rcases List.mem_cons.mp hy' with rfl | q
          · exact hn
          · exact hy y q
      · rintro (h | ⟨h, j, hj, e, hy⟩)
        · exact .inl (.inl h)
        · cases j with
          | zero => exact .inl (.inr ⟨by simpa using e.symm, h⟩)
          | succ j => exact .inr ⟨h, j, by simpa using hj, by simpa using e, fun y q => hy y (by rw [List.take_succ_cons]; exact List.mem_cons_of_mem _ q)⟩
    · rw [if_neg (fun q => hn (con_iff.mp q)), h1]
      constructor
      · rintro (h | ⟨rfl, h⟩)
        · exact .inl h
        · exact .inr ⟨h, 0, by simp, rfl, by simp⟩
      · rintro (h | ⟨h, j, hj, e, hy⟩)
        · exact .inl h
        · cases j with
          | zero => exact .inr ⟨by simpa using e.symm, h⟩
          | succ j => exact absurd (hy s (by rw [List.take_succ_cons]; exact List.mem_cons_self)) hn
noncomputable def Ord (f : List Str) : Prop := f.Nodup ∧ f.Pairwise fun a b => leS a b = true
theorem srt_ord {l : List Str} (h : l.Nodup) : Ord (srt l) := ⟨(srt_perm l).nodup_iff.mpr h, srt_pairwise l⟩
theorem dlcB_ord {heads nul : List Str} : ∀ (b f : List Str), Ord f → Ord (dlcB heads nul b f)
  | [], f, h => h
  | s :: b, f, h => by
    have h1 : Ord ((if heads.contains s then srt (dd (f ++ [s])) else f) : List Str) := by
      split
      · exact srt_ord (dd_nodup _)
      · exact h
    rw [dlcB_cons]
    split
    · exact dlcB_ord b _ h1
    · exact h1
theorem dlcG_key {heads nul : List Str} {h : Str} : ∀ (g : List Rule) (f : List Str), Ord f → Ord (g.foldl (fun f r => if r.1 == h then dlcB heads nul r.2 f else f) f) ∧ ∀ x, x ∈ g.foldl (fun f r => if r.1 == h then dlcB heads nul r.2 f else f) f ↔ x ∈ f ∨ (x ∈ heads ∧ ∃ r ∈ g, r.1 = h ∧ ∃ j, ∃ hj : j < r.2.length, r.2[j] = x ∧ ∀ y ∈ r.2.take j, y ∈ nul)
  | [], f, hf => ⟨hf, fun x => by simp⟩
  | r :: g, f, hf => by
    rw [List.foldl_cons]
    by_cases e : r.1 = h
    · rw [if_pos (by simpa using e)]
      obtain ⟨i1, i2⟩ := dlcG_key (heads := heads) (nul := nul) (h := h) g _ (dlcB_ord r.2 f hf)
      refine ⟨i1, fun x => ?_⟩
      rw [i2, mem_dlcB]
      constructor
      · rintro ((q | ⟨q, w⟩) | ⟨q, r', hr', w⟩)
        · exact .inl q
        · exact .inr ⟨q, r, List.mem_cons_self, e, w⟩
        · exact .inr ⟨q, r', List.mem_cons_of_mem _ hr', w⟩
      · rintro (q | ⟨q, r', hr', e', w⟩)
        · exact .inl (.inl q)
        · rcases List.mem_cons.mp hr' with rfl | hr'
          · exact .inl (.inr ⟨q, w⟩)
          · exact .inr ⟨q, r', hr', e', w⟩
    · rw [if_neg (by simpa using e)]
      obtain ⟨i1, i2⟩ := dlcG_key (heads := heads) (nul := nul) (h := h) g f hf
      refine ⟨i1, fun x => ?_⟩
      rw [i2]
      constructor
      · rintro (q | ⟨q, r', hr', w⟩)
        · exact .inl q
        · exact .inr ⟨q, r', List.mem_cons_of_mem _ hr', w⟩
      · rintro (q | ⟨q, r', hr', e', w⟩)
        · exact .inl q
        · rcases List.mem_cons.mp hr' with rfl | hr'
          · exact absurd e' e
          · exact .inr ⟨q, r', hr', e', w⟩
theorem mem_near {g : List Rule} {h x : Str} : (h, x) ∈ nearOf g ↔ x ∈ headsOf g ∧ ∃ r ∈ g, r.1 = h ∧ ∃ j, ∃ hj : j < r.2.length, r.2[j] = x ∧ ∀ y ∈ r.2.take j, y ∈ voidOf g := by
  unfold nearOf
  rw [List.mem_flatMap]
  unfold nearB nearT
  constructor
  · rintro ⟨r, hr, q⟩
    obtain ⟨j, hj, q⟩ := List.mem_flatMap.mp q
    rw [List.mem_range] at hj
    split at q
    · rename_i c
      rw [Bool.and_eq_true, con_iff, List.all_eq_true] at c
      have e := List.mem_singleton.mp q
      rw [List.getElem?_eq_getElem hj] at e c
      simp only [Option.getD_some] at e c
      injection e with e1 e2
      subst e1 e2
      exact ⟨c.1, r, hr, rfl, j, hj, rfl, fun y hy => con_iff.mp (c.2 y hy)⟩
    · cases q
  · rintro ⟨q, r, hr, rfl, j, hj, rfl, hy⟩
    refine ⟨r, hr, List.mem_flatMap.mpr ⟨j, List.mem_range.mpr hj, ?_⟩⟩
    rw [List.getElem?_eq_getElem hj]
    simp only [Option.getD_some]
    rw [if_pos (by rw [Bool.and_eq_true, con_iff, List.all_eq_true]; exact ⟨q, fun y h => con_iff.mpr (hy y h)⟩)]
    exact List.mem_singleton.mpr rfl
theorem dlcOf_ord (g : List Rule) (h : Str) : Ord (dlcOf g h) := (dlcG_key g [] ⟨.nil, .nil⟩).1
theorem mem_dlc {g : List Rule} (A : Alpha g) {h x : Str} : x ∈ dlcOf g h ↔ (h, x) ∈ nearOf g := by
  rw [mem_near]
  unfold dlcOf dlcG
  rw [(dlcG_key g [] ⟨.nil, .nil⟩).2, sets_built A []]
  simp only [List.not_mem_nil, false_or]
  rfl
theorem con_iffP {l : List (Str × Str)} {x : Str × Str} : l.contains x = true ↔ x ∈ l := by simp
theorem sets_dlc {g : List Rule} (A : Alpha g) (h : Str) : dlcOf g h = closeN g h 0 := by
  refine perm_sorted_eq (dlcOf_ord g h).2 ((rising_sorted g).filter _) (same_perm (dlcOf_ord g h).1 ((rising_nodup g).filter _) fun x => ?_)
  show x ∈ dlcOf g h ↔ x ∈ (risingOf g).filter fun s => (nearOf g).contains (h, s)
  rw [List.mem_filter, con_iffP, mem_dlc A, mem_rising A]
  exact ⟨fun q => ⟨(mem_near.mp q).1, q⟩, fun q => q.2⟩
theorem closeT_iff {near : List (Str × Str)} {top x : Str} {a : List Str} : closeT near top a x = true ↔ (top, x) ∈ near ∨ ∃ t ∈ a, (t, x) ∈ near := by
  unfold closeT
  simp only [Bool.or_eq_true, con_iffP, List.any_eq_true]
theorem sets_lc {g : List Rule} (A : Alpha g) (h : Str) : srt (lcOf g h) = closeN g h 3 := by
  have e : ∀ n, closeN g h n = rounds (risingOf g) (closeT (nearOf g) h) (closeN g h 0) n := by
    intro n
    induction n with
    | zero => rfl
    | succ n ih => show (risingOf g).filter (closeT (nearOf g) h (closeN g h n)) = (risingOf g).filter (closeT (nearOf g) h (rounds (risingOf g) (closeT (nearOf g) h) (closeN g h 0) n)); rw [ih]
  have m0 : ∀ {x}, x ∈ closeN g h 0 → x ∈ risingOf g ∧ (h, x) ∈ nearOf g := fun hx => ⟨(List.mem_filter.mp hx).1, con_iffP.mp (List.mem_filter.mp hx).2⟩
  have fix := rounds_fix (T := risingOf g) (op := closeT (nearOf g) h) (a0 := closeN g h 0) (rising_len g) (fun a b hab x _ q => by
    rcases closeT_iff.mp q with q | ⟨t, ht, q⟩
    · exact closeT_iff.mpr (.inl q)
    · exact closeT_iff.mpr (.inr ⟨t, hab t ht, q⟩)) (fun x hx => List.mem_filter.mpr ⟨(m0 hx).1, closeT_iff.mpr (.inl (m0 hx).2)⟩)
  obtain ⟨c1, c2, c3, c4⟩ := clFin_ok (succ := dlcOf g) (U := headsOf g) (fun x s hs => dlcOf_mem g x s hs) _ 0 (dlcOf g h) (dlcOf_ord g h).1 (Nat.le_of_eq (Nat.zero_add _).symm) (fun i _ h => by omega)
  rw [e]
  refine srt_same c1 ((rising_nodup g).filter _) ((rising_sorted g).filter _) fun x => ⟨fun hx => ?_, fun hx => ?_⟩
  · have up : ∀ x, (h, x) ∈ nearOf g → x ∈ rounds (risingOf g) (closeT (nearOf g) h) (closeN g h 0) 3 := fun x q => List.mem_filter.mpr ⟨(mem_rising A).mpr (mem_near.mp q).1, closeT_iff.mpr (.inl q)⟩
    refine c4 (· ∈ rounds (risingOf g) (closeT (nearOf g) h) (closeN g h 0) 3) (fun x hx => up x ((mem_dlc A).mp hx)) (fun x hx s hs => ?_) x hx
    show s ∈ rounds (risingOf g) (closeT (nearOf g) h) (closeN g h 0) 3
    rw [fix]
    have q := (mem_dlc A).mp hs
    exact List.mem_filter.mpr ⟨(mem_rising A).mpr (mem_near.mp q).1, closeT_iff.mpr (.inr ⟨x, hx, q⟩)⟩
  · refine rounds_in (· ∈ lcOf g h) (fun x hx => c2 x ((mem_dlc A).mpr (m0 hx).2)) (fun a ha x hT q => ?_) 3 x hx
    rcases closeT_iff.mp q with q | ⟨t, ht, q⟩
    · exact c2 x ((mem_dlc A).mpr q)
    · exact c3 t (ha t ht) x ((mem_dlc A).mpr q)
end

section
set_option autoImplicit false
set_option linter.unusedVariables false
set_option maxRecDepth 100000
open PySem PyProof.Rows PySem.W

noncomputable def probeRule (word : Str) (spot : Int) : Rule := if spot.fmod 2 = 0 then (word, ["a", "b"]) else ("A", ["a", word, "b"])
noncomputable def twinOf (rules : List Rule) (word : Str) (spot : Int) : List Rule := rules.take (idx spot (rules.length + 1)) ++ [probeRule word spot] ++ rules.drop (idx spot (rules.length + 1))
theorem all_take_true {α : Type} {p : α → Bool} {l : List α} (h : ∀ r ∈ l, p r = true) (n : Nat) : (l.take n).all p = true ∧ (l.drop n).all p = true := by
  rw [List.all_eq_true, List.all_eq_true]
  exact ⟨fun r hr => h r (List.mem_of_mem_take hr), fun r hr => h r (List.mem_of_mem_drop hr)⟩
theorem twin_ok {rules : List Rule} {word : Str} {spot : Int} (hr : ∀ r ∈ rules, ruleOk r = true) : okG (twinOf rules word spot) = symOk word := by
  have hA : symOk "A" = true := by decide +kernel
  have ha : symOk "a" = true := by decide +kernel
  have hb : symOk "b" = true := by decide +kernel
  have hp : ruleOk (probeRule word spot) = symOk word := by
    unfold ruleOk probeRule
    split
    · show ([word, "a", "b"] : List Str).all symOk = _
      simp only [List.all_cons, List.all_nil, ha, hb, Bool.and_true]
    · show (["A", "a", word, "b"] : List Str).all symOk = _
      simp only [List.all_cons, List.all_nil, hA, ha, hb, Bool.and_true, Bool.true_and]
  obtain ⟨h1, h2⟩ := all_take_true hr (idx spot (rules.length + 1))
  unfold okG twinOf
  rw [List.all_append, List.all_append, h1, h2, List.all_cons, List.all_nil, hp]
  have : ((rules.take (idx spot (rules.length + 1)) ++ [probeRule word spot] ++ rules.drop (idx spot (rules.length + 1))).length == 0) = false := by
    rw [beq_eq_false_iff_ne]; simp only [List.length_append, List.length_cons, List.length_nil]; omega
  rw [this]; simp
theorem twin_len (rules : List Rule) (word : Str) (spot : Int) : (twinOf rules word spot).length = rules.length + 1 := by
  have := idx_lt spot (n := rules.length + 1) (by omega)
  unfold twinOf
  simp only [List.length_append, List.length_take, List.length_drop, List.length_cons, List.length_nil]; omega
theorem twin_mem {rules : List Rule} {word : Str} {spot : Int} : ∀ r ∈ twinOf rules word spot, r ∈ rules ∨ r = probeRule word spot := fun r hr => by
  unfold twinOf at hr
  rcases List.mem_append.mp hr with h | h
  · rcases List.mem_append.mp h with h | h
    · exact .inl (List.mem_of_mem_take h)
    · exact .inr (List.mem_singleton.mp h)
  · exact .inl (List.mem_of_mem_drop h)
theorem probe_bl (word : Str) (spot : Int) : (probeRule word spot).2.length ≤ 3 := by
  unfold probeRule; split <;> simp

section
variable {prog : Program} {w : World} {mg mb : Str → Option Value} {P : Params}
theorem fn_probe (G : G3 prog w mg mb P) {k : Nat} (rules : List Rule) (word : Str) (spot : Int) (hl : rules.length ≤ 100) (hr : ∀ r ∈ rules, ruleOk r = true) (hb : ∀ r ∈ rules, r.2.length ≤ 100) :
    FnOk (C3 prog w mg mb P) (k + 1 + 1) 224 [gD rules, .str word, .bool (symOk word), .int spot] (.bool true) := by
  refine fn_intro (ps := ["rules", "word", "lawful", "spot"]) (fnDef_of rfl rfl rfl rfl rfl rfl rfl (by ((intro vs h; rcases vs with _ | ⟨_, _ | ⟨_, _ | ⟨_, _ | ⟨_, _ | ⟨_, _ | ⟨_, _⟩⟩⟩⟩⟩⟩ <;> first | rfl | (simp at h; done)))) (by decide) rfl rfl rfl rfl rfl rfl) rfl fun A L s₀ Z₀ E hA hO hF => ?_
  have hsl : sizeLine = 16777216 := rfl
  have hp := idx_lt spot (n := rules.length + 1) (by omega)
  have hL : (rules.map rD).length = rules.length := by simp
  refine ex_cons (xs_assign ((e_mod (ev_var rfl rfl) (e_addI (e_len (n := rules.length) (G.b rfl rfl PyProof.Rows.Boot.«len» (by decide)) (ev_var rfl rfl) rfl (by simp [lenD, gD]) (by omega)) (ev_int 1)) (by omega)).cast (d' := .int (idx spot (rules.length + 1))) (by rw [← fmod_idx _ (by omega)]; rfl)) rfl (hO _) rfl ?_)
  refine ex_cons (xs_assign ((ev_tuple (evs_cons (ev_str _ (strOk_ofString _)) (evs_cons (ev_list (evs_cons (ev_str _ (strOk_ofString _)) (evs_cons (ev_var rfl rfl) (evs_cons (ev_str _ (strOk_ofString _)) evs_nil rfl) rfl) rfl) (by show 3 ≤ sizeLine; decide)) evs_nil rfl) rfl) (by show 2 ≤ sizeLine; decide)).cast (d' := rD ("A", ["a", word, "b"])) rfl) rfl (hO _) rfl ?_)
  refine ex_join (fun Γ' => Has Γ' [("rule", .fz (rD (probeRule word spot))), ("p", .fz (.int (idx spot (rules.length + 1)))), ("rules", .fz (gD rules)), ("lawful", .fz (.bool (symOk word)))])
    (xs_if (c_eqI hA (e_mod (ev_var rfl rfl) (ev_int 2) (by decide)) (ev_int 0)) (fun hb => ?_) (fun hb => ?_)) (fun Γ' hG => ex_has hG ?_)
  · have hk : spot.fmod 2 = 0 := by simpa using hb
    have e : probeRule word spot = ((word, ["a", "b"]) : Rule) := by unfold probeRule; rw [if_pos hk]
    rw [e]
    exact ex_cons (xs_assign ((ev_tuple (evs_cons (ev_var rfl rfl) (evs_cons (ev_list (evs_cons (ev_str _ (strOk_ofString _)) (evs_cons (ev_str _ (strOk_ofString _)) evs_nil rfl) rfl) (by show 2 ≤ sizeLine; decide)) evs_nil rfl) rfl) (by show 2 ≤ sizeLine; decide)).cast (d' := rD (word, ["a", "b"])) rfl) rfl (hO _) rfl (ex_nil (by (repeat (first | exact Has.nil _ | refine Has.add rfl ?_)))))
  · have hk : ¬ spot.fmod 2 = 0 := by simpa using hb
    have e : probeRule word spot = (("A", ["a", word, "b"]) : Rule) := by unfold probeRule; rw [if_neg hk]
    rw [e]
    exact ex_nil (by (repeat (first | exact Has.nil _ | refine Has.add rfl ?_)))
  refine ex_cons (xs_assign ((e_addL (e_addL (ev_slice (ev_var rfl rfl) o_none (o_some (ev_var rfl rfl)) (by rw [hL]; omega)) (ev_list (evs_cons (ev_var rfl rfl) evs_nil rfl) (by show 1 ≤ sizeLine; decide)) ?_) (ev_slice (ev_var rfl rfl) (o_some (ev_var rfl rfl)) o_none (by rw [hL]; omega)) ?_).cast (d' := gD (twinOf rules word spot)) ?_) rfl (hO _) rfl ?_)
  · rw [sliceD_to _ _ (by omega)]; simp only [List.length_take, List.length_map, List.length_cons, List.length_nil]; omega
  · rw [sliceD_to _ _ (by omega), sliceD_from' _ _ (by omega) (by rw [hL]; omega)]; simp only [List.length_append, List.length_take, List.length_map, List.length_drop, List.length_cons, List.length_nil]; omega
  · show PyData.list _ = PyData.list _
    rw [sliceD_to _ _ (by omega), sliceD_from' _ _ (by omega) (by rw [hL]; omega)]
    unfold twinOf
    rw [List.map_append, List.map_append, List.map_take, List.map_drop]
    have e1 : ((idx spot (rules.length + 1) : Nat) : Int).toNat = idx spot (rules.length + 1) := by omega
    rw [e1]; rfl
  have htl := twin_len rules word spot
  have htb : ∀ r ∈ twinOf rules word spot, r.2.length ≤ 100 := fun r hr => by
    rcases twin_mem r hr with h | rfl
    · exact hb r h
    · have := probe_bl word spot; omega
  have hok := twin_ok (word := word) (spot := spot) hr
  generalize twinOf rules word spot = tw at *
  refine ex_cons (xs_map tw rD rD rfl rfl (hO _) ⟨rfl, rfl, rfl, rfl⟩ (src_list (ds := tw.map rD) hA.hd (ev_var rfl rfl)) (fun _ => rfl) (by omega) (fun L s₀ Z₀ r own hr => ?_) ?_)
  · have := htb r hr
    exact turn_pall rfl hA rfl rfl (own _ rfl) (own _ rfl) rfl rfl rfl rfl fun ds => ev_tuple (evs_cons (ev_var rfl rfl) (evs_cons (e_copy (G.b rfl rfl PyProof.Rows.Boot.«list» (by decide)) (ev_var rfl rfl) rfl rfl (by rw [List.length_map]; omega)) evs_nil rfl) rfl) (by show 2 ≤ sizeLine; decide)
  refine ex_cons (xs_assign ((ev_call hA rfl (G.at rfl) rfl rfl (evs_cons (ev_var rfl rfl) evs_nil rfl) rfl (fn_grammar_ok G tw (by omega) fun r hr => by have := htb r hr; omega)).cast (d' := .bool (symOk word)) (by rw [hok])) rfl (hO _) rfl ?_)
  refine ex_cons (xs_if (c_neSame (d := gD tw) hA (ev_var rfl rfl) (ev_var rfl rfl) (dOk_gD _) (by decide)) (fun hb => by cases hb) fun _ => ex_nil ?_)
  refine ex_cons (xs_if (c_bool (ev_var rfl rfl) (fun _ => rfl)) (fun hb => ?_) (fun hb => ?_))
  · refine ex_cons (xs_if (c_is (ev_var rfl rfl) (ev_bool true) rfl rfl) (fun hb' => by rw [hb] at hb'; cases hb') fun _ => ex_nil (ex_nil ?_))
    exact ex_cons (xs_return (ev_bool true) rfl)
  · refine ex_cons (xs_if (c_is (ev_var rfl rfl) (ev_bool false) rfl rfl) (fun hb' => by rw [hb] at hb'; cases hb') fun _ => ex_nil (ex_nil ?_))
    exact ex_cons (xs_return (ev_bool true) rfl)
end
end

section
set_option autoImplicit false
set_option linter.unusedVariables false
set_option maxRecDepth 100000
open PySem PyProof.Rows PySem.W

structure Gr (g : List Rule) : Prop where
  al : Alpha g
  bl : ∀ r ∈ g, r.2.length ≤ 3
  ps : 0 < g.length

theorem sym_facts : ∀ s ∈ symT, noSp s ∧ symOk s = true ∧ s.length ≤ 1 := by decide +kernel
theorem head_sym : ∀ s ∈ headT, s ∈ symT := by decide +kernel
theorem Gr.word {g : List Rule} (h : Gr g) {r : Rule} (hr : r ∈ g) : ∀ s ∈ r.1 :: r.2, s ∈ symT := fun s hs => by
  rcases List.mem_cons.mp hs with rfl | hs
  · exact head_sym _ (h.al.hd r hr)
  · exact h.al.sy r hr s hs
theorem Gr.small {g : List Rule} (h : Gr g) (hl : g.length ≤ 1000) : Small g := ⟨hl, fun r hr => by have := (sym_facts _ (h.word hr _ List.mem_cons_self)).2.2; omega, fun r hr => by have := h.bl r hr; omega, fun r hr s hs => by have := (sym_facts _ (h.word hr _ (List.mem_cons_of_mem _ hs))).2.2; omega⟩
theorem Gr.rok {g : List Rule} (h : Gr g) : ∀ r ∈ g, ruleOk r = true := fun r hr => by
  unfold ruleOk
  rw [List.all_eq_true]
  exact fun s hs => (sym_facts s (h.word hr s hs)).2.1
theorem Gr.ok {g : List Rule} (h : Gr g) : okG g = true := by
  unfold okG
  have h1 : (g.length == 0) = false := by rw [beq_eq_false_iff_ne]; have := h.ps; omega
  rw [h1, List.all_eq_true.mpr h.rok]; rfl
theorem line_back {r : Rule} (h : ∀ s ∈ r.1 :: r.2, noSp s) : shapeOk (lineOf r) = true ∧ parse (lineOf r) = r := by
  have hw : wordsOf (lineOf r) = r.1 :: "->" :: r.2 := words_join (by simp) fun s hs' => by
    rcases List.mem_cons.mp hs' with rfl | hs'
    · exact h _ List.mem_cons_self
    · rcases List.mem_cons.mp hs' with rfl | hs'
      · decide
      · exact h _ (List.mem_cons_of_mem _ hs')
  unfold shapeOk parse
  rw [hw]
  refine ⟨?_, rfl⟩
  have h2 : (decide ((r.1 :: "->" :: r.2).length < 2)) = false := by simp
  rw [h2]; rfl
theorem Gr.back {g : List Rule} (h : Gr g) : ∀ r ∈ g, shapeOk (lineOf r) = true ∧ parse (lineOf r) = r := fun r hr => line_back fun s hs => (sym_facts s (h.word hr s hs)).1
theorem line_len {g : List Rule} (h : Gr g) : ∀ r ∈ g, (lineOf r).length ≤ 20 := fun r hr => by
  have key : ∀ l : List Str, (∀ s ∈ l, s.length ≤ 2) → (Str.join " " l).length ≤ l.length * 3 := by
    intro l
    induction l with
    | nil => intro _; show (Str.join " " []).length ≤ _; decide
    | cons a l ih =>
      intro hl
      have h1 := hl a List.mem_cons_self
      have h2 := ih fun s hs => hl s (List.mem_cons_of_mem _ hs)
      cases l with
      | nil => show a.length ≤ _; simp; omega
      | cons b l =>
        rw [join_cons (by simp), Str.length_append, Str.length_append]
        have e : (" " : Str).length = 1 := by decide
        rw [e, List.length_cons]; omega
  have hb := h.bl r hr
  have := key (r.1 :: "->" :: r.2) fun s hs => by
    rcases List.mem_cons.mp hs with rfl | hs
    · have := (sym_facts _ (h.word hr _ List.mem_cons_self)).2.2; omega
    · rcases List.mem_cons.mp hs with rfl | hs
      · decide
      · have := (sym_facts _ (h.word hr s (List.mem_cons_of_mem _ hs))).2.2; omega
  simp only [List.length_cons] at this
  unfold lineOf; omega
theorem map_back {g : List Rule} (h : ∀ r ∈ g, shapeOk (lineOf r) = true ∧ parse (lineOf r) = r) : (g.map lineOf).map parse = g := by
  rw [List.map_map]
  conv => rhs; rw [← List.map_id g]
  exact List.map_congr_left fun r hr => (h r hr).2

theorem bad_facts : ∀ q ∈ badT, (q.2 = true → shapeOk q.1 = false) ∧ (q.2 = false → shapeOk q.1 = true ∧ ruleOk (parse q.1) = false) ∧ q.1.length ≤ 20 := by decide +kernel
theorem bad_mem (x : Int) : badAt x ∈ badT := by
  unfold badAt
  have h : idx x 12 < badT.length := idx_lt x (by decide)
  rw [List.getElem?_eq_getElem h]
  exact List.getElem_mem h
noncomputable def numMsg (i : Int) : Str := Str.ofString "line " ++ Str.ofString (toString i) ++ Str.ofString ":"
theorem num_starts : ∀ i < 20, Txt.startswith (msgAt i) (numMsg ((i : Int) + 1)) = true := by decide +kernel
theorem new_facts : (∀ i < 3, ((headT[i]?.getD "") : Str) ∈ headT) ∧ ∀ i < 8, (bodyT[i]?.getD []).length ≤ 3 ∧ ∀ s ∈ bodyT[i]?.getD [], s ∈ symT := by decide +kernel
theorem Gr.after {g : List Rule} (h : Gr g) {kind place x y : Int} (hp : (afterOf g kind place x y).length ≠ 0) : Gr (afterOf g kind place x y) := by
  have f1 := new_facts.1 _ (idx_lt x (n := 3) (by decide))
  have f2 := new_facts.2 _ (idx_lt y (n := 8) (by decide))
  refine ⟨⟨fun r hr => ?_, fun r hr => ?_⟩, fun r hr => ?_, by omega⟩ <;> rcases after_mem h.ps r hr with q | rfl
  · exact h.al.hd r q
  · exact f1
  · exact h.al.sy r q
  · exact f2.2
  · exact h.bl r q
  · exact f2.1

section
variable {prog : Program} {w : World} {mg mb : Str → Option Value} {P : Params}
theorem read_good (G : G3 prog w mg mb P) {k : Nat} {g : List Rule} (h : Gr g) (hl : g.length ≤ 20) : FnOk (C3 prog w mg mb P) (k + 1 + 1 + 1) 197 [sD (g.map lineOf)] (.tuple [gD g, .none]) := by
  have hb := h.back
  have hm := map_back hb
  have hs : ∀ l ∈ g.map lineOf, shapeOk l = true := fun l hl => by
    obtain ⟨r, hr, rfl⟩ := List.mem_map.mp hl; exact (hb r hr).1
  refine fn_read_ok G _ _ ((fn_gft G (g.map lineOf) ⟨by rw [List.length_map]; omega, fun l hl => by
    obtain ⟨r, hr, rfl⟩ := List.mem_map.mp hl
    have := line_len h r hr; omega⟩).1 _ (fun d' ⟨_, _, q⟩ => by rw [q, hm]) fun msg q => ?_)
  rcases q with ⟨i, hi, _, q, _⟩ | ⟨_, q, _⟩
  · rw [hs _ (List.getElem_mem hi)] at q; cases q
  · rw [hm, h.ok] at q; cases q
theorem read_none (G : G3 prog w mg mb P) {k : Nat} : FnOk (C3 prog w mg mb P) (k + 1 + 1 + 1) 197 [sD []] (.tuple [.none, .str msgBad]) := by
  refine fn_read_rz G _ _ ((fn_gft G [] ⟨by simp, fun l hl => by cases hl⟩).2 _ (fun d ⟨_, q, _⟩ => by revert q; decide) fun msg q => ?_)
  rcases q with ⟨i, hi, _⟩ | ⟨_, _, q⟩
  · simp at hi
  · exact q
theorem read_broken (G : G3 prog w mg mb P) {k : Nat} {g : List Rule} (h : Gr g) (hl : g.length ≤ 15) (place x : Int) : FnOk (C3 prog w mg mb P) (k + 1 + 1 + 1) 197 [sD (brokenOf g place x)] (.tuple [.none, .str (if (badAt x).2 then msgAt (idx place (g.length + 1)) else msgBad)]) := by
  obtain ⟨f1, f2, f3⟩ := bad_facts _ (bad_mem x)
  have hp := idx_lt place (n := g.length + 1) (by omega)
  have hb := h.back
  have hlen : (brokenOf g place x).length = g.length + 1 := by
    unfold brokenOf
    simp only [List.length_append, List.length_map, List.length_take, List.length_drop, List.length_cons, List.length_nil]; omega
  have hsm : SmallL (brokenOf g place x) := ⟨by omega, fun l hl => by
    unfold brokenOf at hl
    rcases List.mem_append.mp hl with q | q
    · rcases List.mem_append.mp q with q | q
      · obtain ⟨r, hr, rfl⟩ := List.mem_map.mp q
        have := line_len h r (List.mem_of_mem_take hr); omega
      · rw [List.mem_singleton.mp q]; omega
    · obtain ⟨r, hr, rfl⟩ := List.mem_map.mp q
      have := line_len h r (List.mem_of_mem_drop hr); omega⟩
  have htl : ((g.take (idx place (g.length + 1))).map lineOf).length = idx place (g.length + 1) := by
    rw [List.length_map, List.length_take]; omega
  have hat : ∀ hi : idx place (g.length + 1) < (brokenOf g place x).length, (brokenOf g place x)[idx place (g.length + 1)] = (badAt x).1 := fun hi => by
    have e : (brokenOf g place x)[idx place (g.length + 1)]? = some (badAt x).1 := by
      unfold brokenOf
      rw [List.getElem?_append_left (by simp only [List.length_append, htl, List.length_cons, List.length_nil]; omega), List.getElem?_append_right (by omega), htl]
      simp
    rw [List.getElem?_eq_getElem hi] at e; exact Option.some.inj e
  have hmem : (badAt x).1 ∈ brokenOf g place x := by unfold brokenOf; simp
  have hother : ∀ i (hi : i < (brokenOf g place x).length), i ≠ idx place (g.length + 1) → shapeOk (brokenOf g place x)[i] = true := fun i hi hne => by
    have e := List.getElem?_eq_getElem hi
    rcases Nat.lt_or_ge i (idx place (g.length + 1)) with q | q
    · have : (brokenOf g place x)[i]? = ((g.take (idx place (g.length + 1))).map lineOf)[i]? := by
        unfold brokenOf
        rw [List.getElem?_append_left (by simp only [List.length_append, htl, List.length_cons, List.length_nil]; omega), List.getElem?_append_left (by omega)]
      rw [this] at e
      obtain ⟨r, hr, q'⟩ := List.mem_map.mp (List.mem_of_getElem? e)
      rw [← q']; exact (hb r (List.mem_of_mem_take hr)).1
    · have : (brokenOf g place x)[i]? = ((g.drop (idx place (g.length + 1))).map lineOf)[i - (idx place (g.length + 1) + 1)]? := by
        unfold brokenOf
        rw [List.getElem?_append_right (by simp only [List.length_append, htl, List.length_cons, List.length_nil]; omega)]
        simp only [List.length_append, htl, List.length_cons, List.length_nil]
      rw [this] at e
      obtain ⟨r, hr, q'⟩ := List.mem_map.mp (List.mem_of_getElem? e)
      rw [← q']; exact (hb r (List.mem_of_mem_drop hr)).1
  refine fn_read_rz G _ _ ((fn_gft G _ hsm).2 _ (fun d ⟨q1, q2, _⟩ => ?_) fun msg q => ?_)
  · cases hc : (badAt x).2 with
    | true => have := q1 _ hmem; rw [f1 hc] at this; cases this
    | false =>
      unfold okG at q2
      rw [Bool.and_eq_true] at q2
      have := List.all_eq_true.mp q2.2 _ (List.mem_map.mpr ⟨_, hmem, rfl⟩)
      rw [(f2 hc).2] at this; cases this
  · cases hc : (badAt x).2 with
    | true =>
      simp only [if_true]
      rcases q with ⟨i, hi, q1, q2, q3⟩ | ⟨q, _, _⟩
      · have : i = idx place (g.length + 1) := Classical.byContradiction fun hne => by rw [hother i hi hne] at q2; cases q2
        rw [q3, this]
      · have := q _ hmem; rw [f1 hc] at this; cases this
    | false =>
      simp only [Bool.false_eq_true, if_false]
      rcases q with ⟨i, hi, q1, q2, q3⟩ | ⟨_, _, q⟩
      · by_cases hne : i = idx place (g.length + 1)
        · subst hne
          rw [hat hi, (f2 hc).1] at q2; cases q2
        · rw [hother i hi hne] at q2; cases q2
      · exact q

structure EditOk (C : Cx) (n : Nat) (e : Edit) (told : PyData) : Prop where
  read : ∀ k, FnOk C (k + 1 + 1 + 1) 197 [sD e.lines] (.tuple [optG e.due, told])
  none : e.due = none → ∃ msg, told = .str msg ∧ (0 < e.number → Txt.startswith msg (numMsg e.number) = true)
  some : ∀ g, e.due = some g → Gr g ∧ g.length ≤ n + 1
  len : e.lines.length ≤ 30
  num : e.number.natAbs < 10 ^ 9
  room : (Str.ofString (toString e.number)).length ≤ 100
theorem zero_room : (Str.ofString (toString (0 : Int))).length ≤ 100 := by decide +kernel
theorem edit_ok (G : G3 prog w mg mb P) {g : List Rule} (h : Gr g) (hl : g.length ≤ 10) (kind place x y : Int) : ∃ told, EditOk (C3 prog w mg mb P) g.length (editOf g kind place x y) told := by
  have hp := idx_lt place (n := g.length + 1) (by omega)
  unfold editOf
  split
  · refine ⟨.str (if (badAt x).2 then msgAt (idx place (g.length + 1)) else msgBad), fun k => read_broken G h (by omega) place x, fun _ => ⟨_, rfl, fun hn => ?_⟩, (fun g q => by cases q), ?_, ?_, ?_⟩
    · simp only at hn ⊢
      cases hc : (badAt x).2 with
      | true => simp only [if_true]; exact num_starts _ (by omega)
      | false => rw [hc] at hn; simp at hn
    · show (brokenOf g place x).length ≤ 30
      unfold brokenOf
      simp only [List.length_append, List.length_map, List.length_take, List.length_drop, List.length_cons, List.length_nil]; omega
    · simp only
      split <;> omega
    · simp only
      split
      · have := digits_small (idx place (g.length + 1)) (by omega); omega
      · exact zero_room
  · split
    · exact ⟨.str msgBad, fun k => read_none G, fun _ => ⟨_, rfl, fun q => by simp at q⟩, (fun g q => by cases q), by simp, by simp, zero_room⟩
    · rename_i h0
      have hal := after_len (kind := kind) (place := place) (x := x) (y := y) h.ps
      exact ⟨.none, fun k => read_good G (h.after h0) (by omega), (fun q => by cases q), (fun g q => by cases q; exact ⟨h.after h0, hal⟩), by simp only [List.length_map]; omega, by simp, zero_room⟩
end

theorem storeAll_keys : ∀ (g : List Rule) (kds : List (Str × PyData)), (storeAllD kds (g.map fun r => (r.1, PyData.int 0))).map (·.1) = (g.map (·.1)).foldl addNew (kds.map (·.1))
  | [], _ => rfl
  | r :: g, kds => by
    show (storeAllD (storedD kds r.1 (.int 0)) (g.map fun r => (r.1, PyData.int 0))).map (·.1) = ((g.map (·.1)).foldl addNew (addNew (kds.map (·.1)) r.1))
    rw [storeAll_keys g]
    congr 1
    unfold storedD addNew
    have e : (kds.any fun kv => kv.1 = r.1) = (kds.map (·.1)).contains r.1 := by
      induction kds with
      | nil => rfl
      | cons p kds ih =>
        rw [List.any_cons, ih, List.map_cons, List.contains_cons]
        congr 1
        rw [Bool.eq_iff_iff]; simp only [decide_eq_true_eq, beq_iff_eq]; exact eq_comm
    rw [e]
    split
    · rw [List.map_map]
      refine List.map_congr_left fun p _ => ?_
      simp only [Function.comp]
      split <;> rfl
    · rw [List.map_append]; rfl
theorem keys_eq (g : List Rule) : (storeAllD [] (g.map fun r => (r.1, PyData.int 0))).map (·.1) = headsOf g := storeAll_keys g []
theorem head_strOk : ∀ s ∈ headT, PyData.strOk s = true := fun s hs => by
  simp only [headT, List.mem_cons, List.not_mem_nil, or_false] at hs
  rcases hs with rfl | rfl | rfl <;> exact strOk_ofString _
theorem Gr.sets {g : List Rule} (h : Gr g) (hl : g.length ≤ 8) : SetsOk g where
  keys := by
    have := congrArg (List.map PyData.str) (keys_eq g)
    rw [List.map_map] at this
    exact this
  kok := fun q hq => by
    have : q.1 ∈ headsOf g := by rw [← keys_eq g]; exact List.mem_map.mpr ⟨q, hq, rfl⟩
    obtain ⟨r, hr, e⟩ := mem_heads.mp this
    rw [← e]; exact head_strOk _ (h.al.hd r hr)
  klen := by
    have e := congrArg List.length (keys_eq g)
    rw [List.length_map] at e
    have := dd_len (g.map (·.1))
    rw [List.length_map] at this
    unfold headsOf at e; omega
  toks := sets_toks h.al
  void := sets_built h.al []
  prod := sets_built h.al _
  reach := sets_reach h.al h.ps
  dlc := fun t _ => sets_dlc h.al t
  lc := fun t _ => sets_lc h.al t
  dlen := fun t => by
    have h1 := dlcG_len (headsOf g) (srt (hbOf g [])) t 3 g h.bl
    have h2 := dd_len (g.map (·.1))
    rw [List.length_map] at h2
    show (dlcG (headsOf g) (srt (hbOf g [])) t g).length + (dd (g.map (·.1))).length < 64
    omega
end

section
set_option autoImplicit false
set_option linter.unusedVariables false
set_option maxRecDepth 100000
open PySem PyProof.Rows PySem.W

noncomputable abbrev Quad := Int × Int × Int × Int
noncomputable def qD (q : Quad) : PyData := .tuple [.int q.1, .int q.2.1, .int q.2.2.1, .int q.2.2.2]
theorem base_facts : ∀ g ∈ baseT, (∀ r ∈ g, r.1 ∈ headT) ∧ (∀ r ∈ g, ∀ s ∈ r.2, s ∈ symT) ∧ (∀ r ∈ g, r.2.length ≤ 3) ∧ 0 < g.length ∧ g.length ≤ 4 := by decide +kernel
theorem odd_facts : ∀ q ∈ oddT, symOk q.1 = q.2 := by decide +kernel
theorem dOk_optG (o : Option (List Rule)) : DOk (optG o) 3 := by
  cases o with
  | none => exact (DOk.flat rfl).mono (by omega)
  | some g => exact dOk_gD g
theorem is_optG (o : Option (List Rule)) : isD .Is (optG o) .none = some (decide (o = none)) := by
  cases o with
  | none => rfl
  | some g => rfl

section
variable {prog : Program} {w : World} {mg mb : Str → Option Value} {P : Params}
theorem fn_law3 (G : G3 prog w mg mb P) {k : Nat} (xs : List Int) (hl : xs.length ≤ 63) : FnOk (C3 prog w mg mb P) (k + 1 + 1 + 1 + 1 + 1 + 1) 229 [.list (xs.map .int)] (.bool true) := by
  refine fn_intro (ps := ["script"]) (fnDef_of rfl rfl rfl rfl rfl rfl rfl (by ((intro vs h; rcases vs with _ | ⟨_, _ | ⟨_, _ | ⟨_, _ | ⟨_, _ | ⟨_, _ | ⟨_, _⟩⟩⟩⟩⟩⟩ <;> first | rfl | (simp at h; done)))) (by decide) rfl rfl rfl rfl rfl rfl) rfl fun A L s₀ Z₀ E hA hO hF => ?_
  have hsl : sizeLine = 16777216 := rfl
  refine ex_cons (xs_if (c_lt hA (e_len (n := xs.length) (G.b rfl rfl PyProof.Rows.Boot.«len» (by decide)) (ev_var rfl rfl) rfl (by simp [lenD]) (by omega)) (ev_int 24)) (fun hb => ?_) (fun hb => ?_))
  · exact ex_cons (xs_return (ev_bool true) rfl)
  have hlen : 24 ≤ xs.length := by have := of_decide_eq_false hb; omega
  refine ex_nil ?_
  have sx : ∀ i, i < 24 → (xs.map PyData.int)[((i : Nat) : Int).toNat]? = some (.int (xs.getD i 0)) := fun i hi => by
    rw [Int.toNat_natCast, List.getElem?_map, List.getElem?_eq_getElem (by omega), List.getD_eq_getElem?_getD, List.getElem?_eq_getElem (by omega)]; rfl
  generalize hxg : (fun i => xs.getD i 0) = x at *
  have sx : ∀ i, i < 24 → (xs.map PyData.int)[((i : Nat) : Int).toNat]? = some (.int (x i)) := fun i hi => by rw [← hxg]; exact sx i hi
  have hbi : idx (x 0) 5 < baseT.length := idx_lt _ (by decide)
  obtain ⟨b1, b2, b3, b4, b5⟩ := base_facts _ (List.getElem_mem hbi)
  have hbat : (baseT.map grD)[((idx (x 0) 5 : Nat) : Int).toNat]? = some (grD baseT[idx (x 0) 5]) := by
    rw [Int.toNat_natCast, List.getElem?_map, List.getElem?_eq_getElem hbi]; rfl
  have hgr : Gr baseT[idx (x 0) 5] := ⟨⟨b1, b2⟩, b3, b4⟩
  generalize baseT[idx (x 0) 5] = g0 at *
  refine ex_cons (xs_map g0 rtD rD rfl rfl (hO _) ⟨rfl, rfl, rfl, rfl⟩ (src_tuple (ds := g0.map rtD) hA.hd (e_item (ev_glob rfl (G.at rfl) top_bases) ((e_mod (e_item (ev_var rfl rfl) (ev_int 0) rfl (by decide) (by decide) (sx 0 (by decide))) (ev_int 5) (by decide)).cast (d' := .int ((idx (x 0) 5 : Nat) : Int)) (by rw [← fmod_idx _ (by decide)]; rfl)) rfl (by omega) (by have := idx_lt (x 0) (n := 5) (by decide); omega) hbat)) (fun _ => rfl) (by omega) (fun L s₀ Z₀ r own hr => ?_) ?_)
  · have := b3 r hr
    exact turn_pall rfl hA rfl rfl (own _ rfl) (own _ rfl) rfl rfl rfl rfl fun ds => ev_tuple (evs_cons (ev_var rfl rfl) (evs_cons (e_copy (G.b rfl rfl PyProof.Rows.Boot.«list» (by decide)) (ev_var rfl rfl) rfl rfl (by rw [List.length_map]; omega)) evs_nil rfl) rfl) (by show 2 ≤ sizeLine; decide)
  refine ex_cons (xs_unpack hA (ev_call hA rfl (G.at rfl) rfl rfl (evs_cons (ev_call hA rfl (G.at rfl) rfl rfl (evs_cons (ev_var rfl rfl) evs_nil rfl) rfl (fn_lines G g0 (hgr.small (by omega)))) evs_nil rfl) rfl (read_good G hgr (by omega))) (asl_cons (as_name rfl (hO _)) (asl_cons (as_name rfl (hO _)) asl_nil rfl) rfl) rfl rfl ?_)
  refine ex_cons (xs_if (c_neSame (d := gD g0) hA (ev_var rfl rfl) (ev_var rfl rfl) (dOk_gD _) (by decide)) (fun hb => by cases hb) fun _ => ex_nil ?_)
  refine ex_cons (xs_assign ((ev_tuple (evs_cons (ev_tuple (evs_cons (e_item (ev_var rfl rfl) (ev_int 1) rfl (by decide) (by decide) (sx 1 (by decide))) (evs_cons (e_item (ev_var rfl rfl) (ev_int 2) rfl (by decide) (by decide) (sx 2 (by decide))) (evs_cons (e_item (ev_var rfl rfl) (ev_int 3) rfl (by decide) (by decide) (sx 3 (by decide))) (evs_cons (e_item (ev_var rfl rfl) (ev_int 4) rfl (by decide) (by decide) (sx 4 (by decide))) evs_nil rfl) rfl) rfl) rfl) (by show 4 ≤ sizeLine; decide))
    (evs_cons (ev_tuple (evs_cons (e_item (ev_var rfl rfl) (ev_int 5) rfl (by decide) (by decide) (sx 5 (by decide))) (evs_cons (e_item (ev_var rfl rfl) (ev_int 6) rfl (by decide) (by decide) (sx 6 (by decide))) (evs_cons (e_item (ev_var rfl rfl) (ev_int 7) rfl (by decide) (by decide) (sx 7 (by decide))) (evs_cons (e_item (ev_var rfl rfl) (ev_int 8) rfl (by decide) (by decide) (sx 8 (by decide))) evs_nil rfl) rfl) rfl) rfl) (by show 4 ≤ sizeLine; decide))
    (evs_cons (ev_tuple (evs_cons (e_item (ev_var rfl rfl) (ev_int 9) rfl (by decide) (by decide) (sx 9 (by decide))) (evs_cons (e_item (ev_var rfl rfl) (ev_int 10) rfl (by decide) (by decide) (sx 10 (by decide))) (evs_cons (e_item (ev_var rfl rfl) (ev_int 11) rfl (by decide) (by decide) (sx 11 (by decide))) (evs_cons (e_item (ev_var rfl rfl) (ev_int 12) rfl (by decide) (by decide) (sx 12 (by decide))) evs_nil rfl) rfl) rfl) rfl) (by show 4 ≤ sizeLine; decide))
    (evs_cons (ev_tuple (evs_cons (e_item (ev_var rfl rfl) (ev_int 13) rfl (by decide) (by decide) (sx 13 (by decide))) (evs_cons (e_item (ev_var rfl rfl) (ev_int 14) rfl (by decide) (by decide) (sx 14 (by decide))) (evs_cons (e_item (ev_var rfl rfl) (ev_int 15) rfl (by decide) (by decide) (sx 15 (by decide))) (evs_cons (e_item (ev_var rfl rfl) (ev_int 16) rfl (by decide) (by decide) (sx 16 (by decide))) evs_nil rfl) rfl) rfl) rfl) (by show 4 ≤ sizeLine; decide)) evs_nil rfl) rfl) rfl) rfl) (by show 4 ≤ sizeLine; decide)).cast (d' := .tuple ([(x 1, x 2, x 3, x 4), (x 5, x 6, x 7, x 8), (x 9, x 10, x 11, x 12), (x 13, x 14, x 15, x 16)].map qD)) rfl) rfl (hO _) rfl ?_)
  have heds : ([(x 1, x 2, x 3, x 4), (x 5, x 6, x 7, x 8), (x 9, x 10, x 11, x 12), (x 13, x 14, x 15, x 16)] : List Quad).length = 4 := rfl
  generalize ([(x 1, x 2, x 3, x 4), (x 5, x 6, x 7, x 8), (x 9, x 10, x 11, x 12), (x 13, x 14, x 15, x 16)] : List Quad) = eds at *
  refine ex_cons (xs_for (k := 0) (fun i Γ' => ∃ g, Has Γ' [("rules", .fz (gD g)), ("g", .fz (gD g)), ("script", .fz (.list (xs.map .int)))] ∧ Gr g ∧ g.length ≤ 4 + i)
    (src_tuple (ds := eds.map qD) hA.hd (ev_var rfl rfl)) (fun _ => rfl) ⟨g0, by (repeat (first | exact Has.nil _ | refine Has.add rfl ?_)), hgr, by omega⟩ (fun i Γ' hi hJ => ?_) (fun Γ' hJ => ?_))
  · have hi' : i < eds.length := by simpa using hi
    rw [getD_map qD hi']
    obtain ⟨g, hH, hg, hgl⟩ := hJ
    generalize eds[i] = q
    obtain ⟨kind, place, a, b⟩ := q
    refine ⟨_, as_tuple hA (asl_cons (as_name rfl (hO _)) (asl_cons (as_name rfl (hO _)) (asl_cons (as_name rfl (hO _)) (asl_cons (as_name rfl (hO _)) asl_nil rfl) rfl) rfl) rfl), ex_has (hH.cons.cons.cons.cons) ?_⟩
    obtain ⟨told, ok⟩ := edit_ok G hg (by omega) (kind.fmod 6) place a b
    refine ex_cons (xs_unpack hA (ev_call hA rfl (G.at rfl) rfl rfl (evs_cons (ev_var rfl rfl) (evs_cons (e_mod (ev_var rfl rfl) (ev_int 6) (by decide)) (evs_cons (ev_var rfl rfl) (evs_cons (ev_var rfl rfl) (evs_cons (ev_var rfl rfl) evs_nil rfl) rfl) rfl) rfl) rfl) rfl (fn_edit G g (kind.fmod 6) place a b (hg.small (by omega)) (by omega) hg.ps)) (asl_cons (as_name rfl (hO _)) (asl_cons (as_name rfl (hO _)) (asl_cons (as_name rfl (hO _)) asl_nil rfl) rfl) rfl) rfl rfl ?_)
    generalize editOf g (kind.fmod 6) place a b = e at *
    have hel := ok.len
    refine ex_cons (xs_assign ((e_copy (G.b rfl rfl PyProof.Rows.Boot.«list» (by decide)) (ev_var rfl rfl) rfl rfl (by rw [List.length_map]; omega)).cast (d' := sD e.lines) rfl) rfl (hO _) rfl ?_)
    refine ex_cons (xs_unpack hA (ev_call hA rfl (G.at rfl) rfl rfl (evs_cons (ev_var rfl rfl) evs_nil rfl) rfl (ok.read _)) (asl_cons (as_name rfl (hO _)) (asl_cons (as_name rfl (hO _)) asl_nil rfl) rfl) rfl rfl ?_)
    refine ex_cons (xs_if (c_neSame (d := optG e.due) hA (ev_var rfl rfl) (ev_var rfl rfl) (dOk_optG _) (by decide)) (fun hb => by cases hb) fun _ => ex_nil ?_)
    refine ex_cons (xs_if (c_neSame (d := sD e.lines) hA (ev_var rfl rfl) (ev_var rfl rfl) (dOk_sD _) (by decide)) (fun hb => by cases hb) fun _ => ex_nil ?_)
    refine ex_join (fun Γ' => ∃ g, Has Γ' [("rules", .fz (gD g)), ("g", .fz (gD g)), ("script", .fz (.list (xs.map .int)))] ∧ Gr g ∧ g.length ≤ 4 + (i + 1))
      (xs_if (c_is (ev_var rfl rfl) ev_none (is_optG _) rfl) (fun hb => ?_) (fun hb => ?_)) (fun Γ' hG => ?_)
    · obtain ⟨msg, ht, hst⟩ := ok.none (of_decide_eq_true hb)
      subst ht
      refine ex_cons (xs_if (c_is (d₁ := .str msg) (ev_var rfl rfl) ev_none rfl rfl) (fun hb => by cases hb) fun _ => ex_nil ?_)
      refine ex_cons (xs_if (c_gt hA (ev_var rfl rfl) (ev_int 0)) (fun hb => ?_) (fun hb => ex_nil (ex_nil ⟨g, by (repeat (first | exact Has.nil _ | refine Has.add rfl ?_)), hg, by omega⟩)))
      have hst' := hst (of_decide_eq_true hb)
      have hnum := ok.num
      refine ex_cons (xs_if (cd_not (c_bool (e_starts (ev_var rfl rfl) (e_addS (e_addS (ev_str _ (strOk_ofString _)) (e_strI (G.b rfl rfl PyProof.Rows.Boot.«str» (by decide)) (ev_var rfl rfl) rfl hnum) ?_) (ev_str _ (strOk_ofString _)) ?_) rfl rfl rfl) (fun _ => rfl))) (fun hb => ?_) fun _ => ex_nil (ex_nil (ex_nil ⟨g, by (repeat (first | exact Has.nil _ | refine Has.add rfl ?_)), hg, by omega⟩)))
      · have := ok.room
        have e5 : (Str.ofString "line ").length = 5 := by decide
        omega
      · have := ok.room
        have e5 : (Str.ofString "line ").length = 5 := by decide
        have e1 : (Str.ofString ":").length = 1 := by decide
        rw [Str.length_append]; omega
      · unfold numMsg at hst'
        rw [hst'] at hb; cases hb
    · have hne : e.due ≠ none := of_decide_eq_false hb
      cases hdue : e.due with
      | none => exact absurd hdue hne
      | some g' =>
        obtain ⟨hg', hgl'⟩ := ok.some g' hdue
        refine ex_cons (xs_assign (ev_var rfl rfl) rfl (hO _) rfl ?_)
        refine ex_cons (xs_assign (ev_var rfl rfl) rfl (hO _) rfl ?_)
        exact ex_nil ⟨g', by (repeat (first | exact Has.nil _ | refine Has.add rfl ?_)), hg', by omega⟩
    · obtain ⟨g, hH, hg, hgl⟩ := hG
      have hsm := hg.small (by omega)
      refine ex_has hH ?_
      refine ex_cons (xs_if (c_neSame hA (ev_call hA rfl (G.at rfl) rfl rfl (evs_cons (ev_var rfl rfl) evs_nil rfl) rfl (fn_grammar_text G g hsm)) (ev_call hA rfl (G.at rfl) rfl rfl (evs_cons (ev_var rfl rfl) evs_nil rfl) rfl (fn_lines G g hsm)) (dOk_sD _) (by decide)) (fun hb => by cases hb) fun _ => ex_nil ?_)
      refine ex_cons (xs_if (c_is (ev_call hA rfl (G.at rfl) rfl rfl (evs_cons (ev_var rfl rfl) evs_nil rfl) rfl (fn_grammar_ok G g hsm.len hsm.bl)) (ev_bool true) rfl rfl) (fun hb => ?_) fun _ => ex_nil (ex_nil ⟨g, by (repeat (first | exact Has.nil _ | refine Has.add rfl ?_)), hg, hgl⟩))
      rw [hg.ok] at hb; cases hb
  · obtain ⟨g, hH, hg, hgl⟩ := hJ
    rw [show (eds.map qD).length = 4 by rw [List.length_map, heds]] at hgl
    refine ex_has hH ?_
    have hb3 := hg.bl
    refine ex_cons (xs_if (cd_not (c_bool (ev_call hA rfl (G.at rfl) rfl rfl (evs_cons (ev_var rfl rfl) (evs_cons (ev_var rfl rfl) evs_nil rfl) rfl) rfl (fn_sets G g hg.ps (by omega) (fun r hr => by have := hb3 r hr; omega) (hg.sets (by omega)))) (fun _ => rfl))) (fun hb => by cases hb) fun _ => ex_nil ?_)
    refine ex_cons (xs_if (cd_not (c_bool (ev_call hA rfl (G.at rfl) rfl rfl (evs_cons (ev_var rfl rfl) (evs_cons (ev_var rfl rfl) (evs_cons ((ev_tuple (evs_cons (e_item (ev_var rfl rfl) (ev_int 17) rfl (by decide) (by decide) (sx 17 (by decide))) (evs_cons (e_item (ev_var rfl rfl) (ev_int 18) rfl (by decide) (by decide) (sx 18 (by decide))) (evs_cons (e_item (ev_var rfl rfl) (ev_int 19) rfl (by decide) (by decide) (sx 19 (by decide))) (evs_cons (e_item (ev_var rfl rfl) (ev_int 20) rfl (by decide) (by decide) (sx 20 (by decide))) (evs_cons (e_item (ev_var rfl rfl) (ev_int 21) rfl (by decide) (by decide) (sx 21 (by decide))) evs_nil rfl) rfl) rfl) rfl) rfl) (by show 5 ≤ sizeLine; decide)).cast (d' := .tuple ([x 17, x 18, x 19, x 20, x 21].map .int)) rfl) evs_nil rfl) rfl) rfl) rfl
      (fn_derive G g [x 17, x 18, x 19, x 20, x 21] hg.ps (by omega) (fun r hr => by have := hb3 r hr; omega) (by simp))) (fun _ => rfl))) (fun hb => by cases hb) fun _ => ex_nil ?_)
    have hoi : idx (x 22) 12 < oddT.length := idx_lt _ (by decide)
    have hodd := odd_facts _ (List.getElem_mem hoi)
    have hoat : (oddT.map sbD)[((idx (x 22) 12 : Nat) : Int).toNat]? = some (sbD oddT[idx (x 22) 12]) := by
      rw [Int.toNat_natCast, List.getElem?_map, List.getElem?_eq_getElem hoi]; rfl
    generalize oddT[idx (x 22) 12] = od at *
    obtain ⟨word, lawful⟩ := od
    simp only at hodd
    subst hodd
    refine ex_cons (xs_unpack hA (e_item (d := .tuple [.str word, .bool (symOk word)]) (ev_glob rfl (G.at rfl) top_odd) ((e_mod (e_item (ev_var rfl rfl) (ev_int 22) rfl (by decide) (by decide) (sx 22 (by decide))) (ev_int 12) (by decide)).cast (d' := .int ((idx (x 22) 12 : Nat) : Int)) (by rw [← fmod_idx _ (by decide)]; rfl)) rfl (by omega) (by have := idx_lt (x 22) (n := 12) (by decide); omega) hoat) (asl_cons (as_name rfl (hO _)) (asl_cons (as_name rfl (hO _)) asl_nil rfl) rfl) rfl rfl ?_)
    refine ex_cons (xs_if (cd_not (c_bool (ev_call hA rfl (G.at rfl) rfl rfl (evs_cons (ev_var rfl rfl) (evs_cons (ev_var rfl rfl) (evs_cons (ev_var rfl rfl) (evs_cons (e_item (ev_var rfl rfl) (ev_int 23) rfl (by decide) (by decide) (sx 23 (by decide))) evs_nil rfl) rfl) rfl) rfl) rfl (fn_probe G g word (x 23) (by omega) hg.rok (fun r hr => by have := hb3 r hr; omega))) (fun _ => rfl))) (fun hb => by cases hb) fun _ => ex_nil ?_)
    refine ex_cons (xs_if (c_neSame (d := gD g) hA (ev_var rfl rfl) (ev_var rfl rfl) (dOk_gD _) (by decide)) (fun hb => by cases hb) fun _ => ex_nil ?_)
    exact ex_cons (xs_return (ev_bool true) rfl)
end
end

section
set_option autoImplicit false
set_option linter.unusedVariables false
set_option maxRecDepth 100000
open PySem PyProof.Rows PySem.W

theorem rd_script {P : Params} {prog : Program} {w : World} {h : Heap} {v : Value} {xs : List Int} (x : Well P h v (ofPy (.list (xs.map PyData.int)))) : Rd prog w noZ h v (.list (xs.map PyData.int)) := by
  have e : ofPy (.list (xs.map PyData.int)) = .list (ofPys (xs.map PyData.int)) := by rw [ofPy]
  rw [e] at x
  cases x with
  | @list a vs _ he hv =>
    refine .list (n := 0) he (fun q => q) ?_
    clear he e
    show Rds prog w noZ h vs _
    induction xs generalizing vs with
    | nil =>
      have e : ofPys (([] : List Int).map PyData.int) = [] := by simp [ofPys]
      rw [e] at hv
      cases hv; exact .nil
    | cons i xs ih =>
      have e : ofPys ((i :: xs).map PyData.int) = .int i :: ofPys (xs.map PyData.int) := by simp [ofPys, ofPy]
      rw [e] at hv
      cases hv with
      | cons h1 h2 =>
        cases h1
        exact .cons (.int _ _) (ih h2)

theorem not_frame_caller {b : Addr} : ¬ isFrame callerA b := fun ⟨l, hl, env, he, _⟩ => by cases hl; cases he
theorem frOk_caller {h : Heap} : FrOk callerA h := ⟨[], rfl, fun env he => by cases he⟩
theorem okA_caller : OkA callerA 40 := ⟨rfl, by decide, by decide⟩

theorem kf_of : ∀ {K : List (Addr × Obj)}, (K.all fun p => !(p.2.cls == .type "frame")) = true → ∀ a o, K.lookup a = some o → o.cls ≠ .type "frame"
  | [], _, a, o, e => by cases e
  | (b, x) :: r, h, a, o, e => by
    simp only [List.all_cons, Bool.and_eq_true] at h
    rw [List.lookup_cons] at e
    split at e
    · cases e
      intro q
      rw [q] at h
      exact absurd h.1 (by decide)
    · exact kf_of h.2 a o e

set_option Elab.async false
set_option maxHeartbeats 8000000
theorem holds3 : PySem.Challenge.rw_sx_yaugur_3.Holds := hd3 (by
  intro w s₀ s₁ mg mb G Y fa o pm cd doc dV kV ho hd hcd hD hmg hg args vals as hpre hlay hrd hwl hlo
  have KX : (K3 w.params).In s₁.heap := Y
  have hmg' : mg (Str.ofString "law") = some (.ref fa) := dk3_name ▸ hmg
  clear hmg hd hcd hD
  refine Ground.open G ?_
  intro T B D TE TW
  try (refine guard_noD D (by decide +kernel) ?_; clear D)
  wrow_args hpre hlay hrd hwl hlo
  rename List Int => xs
  rename Well _ _ _ _ => hw
  rename ¬ _ < _ => hlen
  have B0 : Base (C3 Challenge.rw_sx_yaugur_3.row.prog w mg mb w.params) s₁.heap := ⟨T.g, T.b, T.nolimit, T.nodigits, KX, kf_of (by kernel_rfl)⟩
  have G3' : G3 Challenge.rw_sx_yaugur_3.row.prog w mg mb w.params := ⟨⟨_, B0⟩, T.builtins⟩
  have hfa : fa = 229 := by
    have := G3'.at (x := "law") (v := .ref 229) rfl
    rw [hmg'] at this; cases this; rfl
  subst hfa
  have hf := fn_law3 G3' (k := 34) xs (by omega)
  show wpAny _ _ (call _ _) _ _ _
  refine wpAny_mono (hf callerA _ s₁ noZ _ okA_caller frOk_caller B0 ⟨fun _ q => q.elim, fun _ q => q.elim⟩ (.cons (rd_script hw) .nil)) (fun v s' ⟨kp, rd⟩ => ?_) fun _ _ x => x
  cases rd
  obtain ⟨h', tk, rfl⟩ := kp.same
  refine GoodW.toG ⟨.inl ⟨_, .bool true, [], rfl, fun _ => rfl, .bool true, by kernel_rfl, fun _ => ⟨List.nodup_nil, fun a ha => by cases ha⟩⟩, fun b o e => (kp.ext b o e).elim id fun q => absurd q.1 not_frame_caller, rfl, hg⟩)
end
end Mine

theorem PySem.Challenge.cw_sx_yaugur_3_holds : PySem.Challenge.rw_sx_yaugur_3.Holds :=
  Mine.holds3
