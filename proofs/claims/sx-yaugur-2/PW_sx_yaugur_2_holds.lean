import PyProof.Rows.All
import PyProof.CompFree
import PyProof.Cells
import PyProof.DictStraight
import PyProof.Claim2
import PyProof.Lay0
import PyProof.CallStr
import PyProof.ListMulRoad
import PyProof.Rows.Frame
import PyProof.Rows.Calls2
import KE.KDictOf
import KE.KItem
import KE.KDictList
import KE.KItemsList
import KE.KEqDict
import Wide.All
import OpenK.AllK
import Wide.FinOn
import Lean
import PySem.Challenge.RW_sx_yaugur_2

set_option autoImplicit false
set_option Elab.async false
set_option maxRecDepth 100000
set_option maxHeartbeats 8000000
set_option linter.unusedVariables false

namespace Mine
section
set_option autoImplicit false
open PySem
open Sem (wp)

theorem putName_cls (name : Str) (hash : Int) (key v : Value) (o : Obj) : (Obj.putName name hash key v o).cls = o.cls := by
  obtain ⟨c, d, dt, sl⟩ := o
  rw [Obj.putName_eq]
  cases dt <;> simp only [Obj.putNameByArray]
  split <;> rfl

theorem nsSet_cls {M : Model} {A : Around} {E : Value → Shared → Prop} {s : Shared} {a : Addr} {m : Str → Option Value} {name : Str} {v : Value} {Q : Unit → Shared → Prop} (hn : s.heap.Ns a m)
    (h : ∀ h', h'.Ns a (fun x => if x = name then some v else m x) → Heap.SameBut a s.heap h' → (∀ o, s.heap.get? a = some o → ∃ o', h'.get? a = some o' ∧ o'.cls = o.cls) → Q () { s with heap := h', toks := s.toks + 1 }) :
    wpAny M A (nsSet a name v) Q E s := fun Γ p hΓ => by
  obtain ⟨o, es, ep, ho, hd, hk, hm⟩ := id hn
  have hany : es.any (·.refKey) = false := by
    rw [Array.any_eq_false']; intro e he; obtain ⟨n, t, h⟩ := hk e he; simp [DictEntry.refKey, h]
  have key : ∀ Q' : Unit → Pos → Shared → Prop, wp M Γ (nsSet a name v) Q' (fun e _ s' => E e s') p s ↔ Q' () p { s with heap := s.heap.update a (Obj.putName name (if name.cps.isEmpty = true then 0 else reduceHash (M.w.params.strHash name.cps)) (.str name s.toks) v), toks := s.toks + 1 } := by
    intro Q'
    simp only [nsSet, strHash, Sem.wp_bind', Sem.wp_cmd_ask, Sem.wp_pure', Sem.wp_cmd_mkText]
    rw [Sem.wp_loadPart_of M Γ _ p { s with toks := s.toks + 1 } (o := o) _ ho]
    simp only [hd, aRefKeyMayBeTheName_eq, aRefKeyMayBeTheNameByArray, hany, Bool.and_false, Bool.false_eq_true, if_false, Sem.wp_cmd_updatePart]
    simp only [ho, Option.isSome_some, true_and]
  have q := (key (fun _ _ s' => s'.heap.Ns a (fun x => if x = name then some v else m x) ∧ Heap.SameBut a s.heap s'.heap)).mp (Sem.wp_nsSet M Γ _ p s hn name v _ fun h' h1 h2 => ⟨h1, h2⟩)
  refine (key _).mpr (h _ q.1 q.2 fun o' e => ?_)
  exact ⟨_, Heap.get?_update_self _ e (by
    obtain ⟨o₂, es₂, ep₂, ho₂, hd₂, _⟩ := q.1
    have hf := (Heap.get?_some_iff.mp ho₂).2
    have hh : s.heap.objs[a]? = some o' := (Heap.get?_some_iff.mp e).1
    have hu : (s.heap.update a (Obj.putName name (if name.cps.isEmpty = true then 0 else reduceHash (M.w.params.strHash name.cps)) (.str name s.toks) v)).objs[a]? = some (Obj.putName name (if name.cps.isEmpty = true then 0 else reduceHash (M.w.params.strHash name.cps)) (.str name s.toks) v o') := by
      generalize s.heap = hp at hh
      obtain ⟨objs, l⟩ := hp
      simp only [Heap.update, Array.getElem?_modify, if_true]
      simp only at hh
      rw [hh]; rfl
    have hx := (Heap.get?_some_iff.mp ho₂).1
    rw [hu] at hx
    cases hx
    exact hf), putName_cls _ _ _ _ _⟩
end

section
set_option autoImplicit false
set_option linter.unusedVariables false
open PySem

structure InF (s₀ : Shared) (L : Addr) (m : Str → Option Value) (cs : List (Str × Addr)) (cm : Str → Option Value) (s : Shared) : Prop where
  c : InCallC s₀ L m cs cm s
  fr : ∃ o, s.heap.get? L = some o ∧ o.cls = .type "frame"

section
variable {M : Model} {A : Around} {E : Value → Shared → Prop} {s₀ s : Shared} {m cm : Str → Option Value} {env : Env}

theorem InF.local {n : Str} {v : Value} {Q : Unit → Shared → Prop} (x : InF s₀ env.locals m env.cells cm s) (hk : env.scope.kind = .function) (hl : env.kindOf n = some .local)
    (h : ∀ s', InF s₀ env.locals (fun y => if y = n then some v else m y) env.cells cm s' → Q () s') : wpAny M A (storeName env n v) Q E s := by
  rw [storeName_local hl (by rw [hk]; rfl)]
  refine nsSet_cls x.c.toInCall.ns fun h' hn' sb hc => h _ ⟨⟨⟨?_, hn', fun b o e => ?_, x.c.toInCall.fresh⟩, fun k c hkc => ?_, x.c.apart, x.c.above⟩, ?_⟩
  · obtain ⟨h₁, tk, rfl⟩ := x.c.toInCall.same
    exact ⟨h', _, rfl⟩
  · have hb : b < env.locals := Nat.lt_of_lt_of_le (Heap.lt_size e) x.c.toInCall.fresh
    exact (sb.2 b (Nat.ne_of_lt hb)).trans (x.c.toInCall.keep b o e)
  · have := x.c.above k c (mem_of_lookup hkc)
    exact (x.c.cell k c hkc).sameBut sb (Nat.ne_of_gt this)
  · obtain ⟨o, ho, hcl⟩ := x.fr
    obtain ⟨o', ho', hcl'⟩ := hc o ho
    exact ⟨o', ho', hcl'.trans hcl⟩

theorem InF.cell {n : Str} {c : Addr} {v : Value} {Q : Unit → Shared → Prop} (x : InF s₀ env.locals m env.cells cm s) (hk : env.scope.kind = .function) (hl : env.kindOf n = some .cell) (hc : env.cells.lookup n = some c)
    (h : ∀ s', InF s₀ env.locals m env.cells (fun y => if y = n then some v else cm y) s' → Q () s') : wpAny M A (storeName env n v) Q E s := by
  have hLc := x.c.above n c (mem_of_lookup hc)
  refine wpAny_storeName_cell hk hl hc (x.c.cell n c hc) fun h' hc' sb => h _ ⟨⟨⟨?_, x.c.toInCall.ns.sameBut sb (Nat.ne_of_lt hLc), fun b o e => ?_, x.c.toInCall.fresh⟩, fun k c' hk' => ?_, x.c.apart, x.c.above⟩, ?_⟩
  · obtain ⟨h₁, tk, rfl⟩ := x.c.toInCall.same
    exact ⟨h', _, rfl⟩
  · have hb : b < env.locals := Nat.lt_of_lt_of_le (Heap.lt_size e) x.c.toInCall.fresh
    exact (sb.2 b (Nat.ne_of_lt (Nat.lt_trans hb hLc))).trans (x.c.toInCall.keep b o e)
  · by_cases hkn : k = n
    · subst hkn
      rw [hc] at hk'; cases hk'
      rw [if_pos rfl]; exact hc'
    · rw [if_neg hkn]
      exact (x.c.cell k c' hk').sameBut sb fun e => hkn (name_of_addr x.c.apart (mem_of_lookup hk') (e ▸ mem_of_lookup hc))
  · obtain ⟨o, ho, hcl⟩ := x.fr
    exact ⟨o, (sb.2 _ (Nat.ne_of_lt hLc)).trans ho, hcl⟩

theorem bindAll (f : Str × Value → PUnit → Sem (ForInStep PUnit)) (hf : ∀ n v u, f (n, v) u = (do storeName env n v; pure (.yield ⟨⟩))) (hk : env.scope.kind = .function) (Q : PUnit → Shared → Prop) :
    ∀ (binds : List (Str × Value)) (m cm : Str → Option Value) (s : Shared), InF s₀ env.locals m env.cells cm s →
      (∀ x ∈ binds, env.kindOf x.1 = some .local ∨ (env.kindOf x.1 = some .cell ∧ (env.cells.lookup x.1).isSome = true)) →
      (∀ s', InF s₀ env.locals (bindL env.kindOf binds m) env.cells (bindC env.kindOf binds cm) s' → Q ⟨⟩ s') → wpAny M A (forIn binds ⟨⟩ f) Q E s := by
  intro binds
  induction binds with
  | nil => intro m cm s x _ h; rw [List.forIn_nil]; exact wpAny_pure (h s x)
  | cons b r ih =>
    obtain ⟨n, v⟩ := b
    intro m cm s x hb h
    rw [List.forIn_cons, hf]
    have hr := fun y hy => hb y (List.mem_cons_of_mem _ hy)
    rcases hb (n, v) List.mem_cons_self with hl | ⟨hl, hs⟩
    · refine wpAny_bind (wpAny_bind (x.local hk hl fun s' x' => wpAny_pure (ih _ _ s' x' hr fun s'' x'' => h s'' ?_)))
      simp only [bindL, bindC, if_pos hl]; exact x''
    · obtain ⟨c, hc⟩ := Option.isSome_iff_exists.mp hs
      have hnl : ¬ env.kindOf n = some .local := by rw [hl]; decide
      refine wpAny_bind (wpAny_bind (x.cell hk hl hc fun s' x' => wpAny_pure (ih _ _ s' x' hr fun s'' x'' => h s'' ?_)))
      simp only [bindL, bindC, if_neg hnl]; exact x''
end

theorem newEnvF {M : Model} {A : Around} {E : Value → Shared → Prop} {s : Shared} {scope : Scope} {globals : Addr} {binds : List (Str × Value)} {qual : Str} {func : Option Addr} {code : Value} {builtins : Addr} {Q : Env → Shared → Prop}
    (hk : scope.kind = .function)
    (hkind : ∀ x ∈ binds, scope.names.lookup x.1 = some .local ∨ (scope.names.lookup x.1 = some .cell ∧ ((cellsFrom (s.heap.objs.size + 1) scope.names []).lookup x.1).isSome = true))
    (hQ : ∀ env, env = newEnv scope s.heap.objs.size globals (cellsFrom (s.heap.objs.size + 1) scope.names []) qual func code none builtins →
      ∀ s', InF s env.locals (bindL env.kindOf binds fun _ => none) env.cells (bindC env.kindOf binds fun _ => none) s' → Q env s') :
    wpAny M A (newFunctionEnv scope globals [] binds qual func code none builtins) Q E s := by
  simp only [newFunctionEnv, Option.isSome_none, Bool.false_eq_true, if_false]
  refine wpAny_bind (wpAny_alloc (wpAny_bind (wpAny_layCells _ (fun name kind cells => by cases hkc : kind == NameKind.cell <;> simp [hkc]) _ _ _ _ ?_)))
  have hsz : (s.heap.push { cls := .type "frame", data := .dict #[] }).objs.size = s.heap.objs.size + 1 := Heap.size_push ..
  have ok := cellsFrom_ok scope.names (s.heap.push { cls := .type "frame", data := .dict #[] }) (s.heap.objs.size + 1) [] ⟨fun _ _ hm => (nomatch hm), List.Pairwise.nil⟩ (by rw [hsz]; exact Nat.le_refl _)
  rw [hsz] at ok
  show wpAny M A _ Q E _
  rw [show ({ s with heap := s.heap.push { cls := .type "frame", data := .dict #[] } } : Shared).heap.objs.size = s.heap.objs.size + 1 from hsz]
  have hget : (pushCells (s.heap.push { cls := .type "frame", data := .dict #[] }) scope.names).get? s.heap.objs.size = some { cls := .type "frame", data := .dict #[] } := pushCells_keeps _ _ _ _ (Heap.get?_push_size _ rfl)
  refine wpAny_bind (bindAll (s₀ := s) (env := newEnv scope s.heap.objs.size globals (cellsFrom (s.heap.objs.size + 1) scope.names []) qual func code none builtins) _ (fun _ _ _ => rfl) hk _ binds (fun _ => none) (fun _ => none) _ ?_ hkind fun s' x => wpAny_pure (hQ _ rfl s' x))
  refine ⟨⟨⟨⟨_, _, rfl⟩, (Heap.Ns.new s.heap (.type "frame")).keeps (pushCells_keeps _ _), fun b o e => pushCells_keeps _ _ b o (Heap.get?_push_of_some _ e), Nat.le_refl _⟩, fun n c hc => (ok.empty n c (mem_of_lookup hc)).1, ok.apart, fun n c hm => (ok.empty n c hm).2⟩, ⟨_, hget, rfl⟩⟩

theorem callF {prog : Program} {w : World} {A : Around} {s : Shared} {R : Result → Shared → Prop} {a : Addr} {o : Obj} {fd : FuncData} {body : List Stmt} {vals : List Value} {binds : List (Str × Value)}
    (hroom : A.depth < recursionLimit) (ho : s.heap.get? a = some o) (hdata : o.data = .func fd) (hlim : s.heap.NoLimit) (hcd : s.heap.CodeRec fd.code fd.qualname)
    (hbody : fd.body = .stmts body) (hbind : bindArgs fd ⟨vals, []⟩ = pure binds) (hclo : fd.closure = [])
    (hkind : ∀ x ∈ binds, fd.scope.names.lookup x.1 = some .local ∨ (fd.scope.names.lookup x.1 = some .cell ∧ ((cellsFrom (s.heap.objs.size + 1) fd.scope.names []).lookup x.1).isSome = true))
    (h : ∀ s₁, InF s (callEnvC fd s.heap.objs.size a).locals (bindL (callEnvC fd s.heap.objs.size a).kindOf binds fun _ => none) (callEnvC fd s.heap.objs.size a).cells (bindC (callEnvC fd s.heap.objs.size a).kindOf binds fun _ => none) s₁ →
      wpAny (model prog w) (A.deeper (callEnvC fd s.heap.objs.size a)) (execs body (callEnvC fd s.heap.objs.size a)) (fun f s' => R (.ok (.ret (match f with | .ret v => v | _ => .none))) s')
        (fun e s' => wpAny (model prog w) (A.deeper (callEnvC fd s.heap.objs.size a)) (leaving (callEnvC fd s.heap.objs.size a) e) (fun _ s'' => R (.error e) s'') (fun e' s'' => R (.error e') s'') s') s₁)
    (hco : fd.scope.isCoroutine = false) (hgen : fd.scope.isGenerator = false) (hk : fd.scope.kind = .function) :
    codeAny (model prog w) A (.call (.ref a) ⟨vals, []⟩) R s := by
  refine codeAny_call_function hroom ho hdata hco hgen hbody hcd ?_
  rw [hbind, hclo]
  refine wpAny_pure (newEnvF hk hkind fun env he s' x => ?_)
  subst he
  exact ⟨hlim.keeps x.c.toInCall.keep, codeAny_func (h s' x)⟩
end

section
set_option autoImplicit false
open PySem

noncomputable def isFrame (A : Around) (b : Addr) : Prop := ∃ l, A.frames = some l ∧ ∃ env ∈ l, env.frame = some b
noncomputable def Ext (A : Around) (h h' : Heap) : Prop := ∀ b o, h.get? b = some o → h'.get? b = some o ∨ (isFrame A b ∧ o.cls = .type "frame" ∧ ∃ sl, h'.get? b = some { o with slots := sl })
theorem Ext.of {A : Around} {h h' : Heap} (k : ∀ b o, h.get? b = some o → h'.get? b = some o) : Ext A h h' := fun b o e => .inl (k b o e)
theorem Ext.refl {A : Around} (h : Heap) : Ext A h h := .of fun _ _ e => e
theorem Ext.trans {A : Around} {h₁ h₂ h₃ : Heap} (x : Ext A h₁ h₂) (y : Ext A h₂ h₃) : Ext A h₁ h₃ := fun b o e => by
  rcases x b o e with q | ⟨f, c, sl, q⟩
  · exact y b o q
  · rcases y b _ q with q' | ⟨_, _, sl', q'⟩
    · exact .inr ⟨f, c, sl, q'⟩
    · exact .inr ⟨f, c, sl', q'⟩
set_option linter.unusedVariables false
theorem Ext.push {A : Around} {h : Heap} (o : Obj) : Ext A h (h.push o) := .of fun _ _ e => Heap.get?_push_of_some o e
theorem Ext.mutOf {A : Around} {h₀ h h' : Heap} {a : Addr} (x : Ext A h₀ h) (na : h₀.get? a = none) (k : ∀ b o, b ≠ a → h.get? b = some o → h'.get? b = some o) : Ext A h₀ h' := fun b o e => by
  have hb : b ≠ a := by rintro rfl; rw [na] at e; cases e
  rcases x b o e with q | ⟨f, c, sl, q⟩
  · exact .inl (k b o hb q)
  · exact .inr ⟨f, c, sl, k b _ hb q⟩
theorem Ext.at {A : Around} {h h' : Heap} (x : Ext A h h') {b : Addr} {o : Obj} (e : h.get? b = some o) (hc : o.cls ≠ .type "frame") : h'.get? b = some o :=
  (x b o e).elim id fun q => absurd q.2.1 hc
theorem Ext.stays {A : Around} {h h' : Heap} (x : Ext A h h') {b : Addr} {o : Obj} (e : h.get? b = some o) : ∃ o', h'.get? b = some o' ∧ o'.data = o.data ∧ o'.cls = o.cls :=
  (x b o e).elim (fun q => ⟨o, q, rfl, rfl⟩) fun q => let ⟨sl, q⟩ := q.2.2; ⟨_, q, rfl, rfl⟩
theorem Ext.ns {A : Around} {h h' : Heap} (x : Ext A h h') {a : Addr} {m : Str → Option Value} (hn : h.Ns a m) : h'.Ns a m := by
  obtain ⟨o, es, ep, ho, hd, r⟩ := hn
  obtain ⟨o', ho', hd', _⟩ := x.stays ho
  exact ⟨o', es, ep, ho', hd'.trans hd, r⟩
theorem Ext.cell {A : Around} {h h' : Heap} (x : Ext A h h') {c : Addr} {v : Option Value} (hn : h.IsCell c v) : h'.IsCell c v := by
  obtain ⟨o, ho, hd⟩ := hn
  obtain ⟨o', ho', hd', _⟩ := x.stays ho
  exact ⟨o', ho', hd'.trans hd⟩
theorem Ext.noLimit {A : Around} {h h' : Heap} (x : Ext A h h') (hn : h.NoLimit) : h'.NoLimit := let ⟨mc, a, b⟩ := hn; ⟨mc, x.ns a, b⟩

noncomputable abbrev listO (vs : Array Value) (n : Nat) : Obj := { cls := .type "list", data := .seq vs n }
noncomputable abbrev tupO (vs : Array Value) (n : Nat) : Obj := { cls := .type "tuple", data := .seq vs n }

noncomputable def zipKv : List (Str × Value) → List PyData → List (PyData × PyData)
  | (k, _) :: r, d :: ds => (.str k, d) :: zipKv r ds
  | _, _ => []

mutual
/-- the value v reads as the datum d; no node of it lies in Z -/
inductive Rd (prog : Program) (w : World) (Z : Addr → Prop) (h : Heap) : Value → PyData → Prop
  | none : Rd prog w Z h .none .none
  | bool (b : Bool) : Rd prog w Z h (.bool b) (.bool b)
  | int (i : Int) (t : Tok) : Rd prog w Z h (.int i t) (.int i)
  | str (x : Str) (t : Tok) : PyData.strOk x = true → Rd prog w Z h (.str x t) (.str x)
  | list {a : Addr} {vs : Array Value} {n : Nat} {ds : List PyData} : h.get? a = some (listO vs n) → ¬ Z a → Rds prog w Z h vs.toList ds → Rd prog w Z h (.ref a) (.list ds)
  | tuple {a : Addr} {vs : Array Value} {n : Nat} {ds : List PyData} : h.get? a = some (tupO vs n) → ¬ Z a → Rds prog w Z h vs.toList ds → Rd prog w Z h (.ref a) (.tuple ds)
  | dict {a : Addr} {o : Obj} {kvs : List (Str × Value)} {ds : List PyData} : h.get? a = some o → ¬ Z a → (a == sysModules) = false → o.IsDictOf (strKind prog w) kvs →
      Rds prog w Z h (kvs.map (·.2)) ds → Rd prog w Z h (.ref a) (.dict (zipKv kvs ds))
inductive Rds (prog : Program) (w : World) (Z : Addr → Prop) (h : Heap) : List Value → List PyData → Prop
  | nil : Rds prog w Z h [] []
  | cons {v : Value} {vs : List Value} {d : PyData} {ds : List PyData} : Rd prog w Z h v d → Rds prog w Z h vs ds → Rds prog w Z h (v :: vs) (d :: ds)
end

section
variable {prog : Program} {w : World} {Z Z' : Addr → Prop} {h h' : Heap} {A : Around}

mutual
/-- a reading outlives every write into Z -/
theorem Rd.keepZ (hk : ∀ b o, ¬ Z b → h.get? b = some o → h'.get? b = some o) : ∀ {v : Value} {d : PyData}, Rd prog w Z h v d → Rd prog w Z h' v d
  | _, _, .none => .none
  | _, _, .bool b => .bool b
  | _, _, .int i t => .int i t
  | _, _, .str x t e => .str x t e
  | _, _, .list e z r => .list (hk _ _ z e) z (Rds.keepZ hk r)
  | _, _, .tuple e z r => .tuple (hk _ _ z e) z (Rds.keepZ hk r)
  | _, _, .dict e z n k r => .dict (hk _ _ z e) z n k (Rds.keepZ hk r)
theorem Rds.keepZ (hk : ∀ b o, ¬ Z b → h.get? b = some o → h'.get? b = some o) : ∀ {vs : List Value} {ds : List PyData}, Rds prog w Z h vs ds → Rds prog w Z h' vs ds
  | _, _, .nil => .nil
  | _, _, .cons a b => .cons (Rd.keepZ hk a) (Rds.keepZ hk b)
end
theorem seqO_ne {c : Value} {xs : Array Value} {n : Nat} (us : Array Value) : ({ cls := c, data := .seq xs n } : Obj).data ≠ .fields us := by intro h; cases h
theorem dictO_ne {o : Obj} {kvs : List (Str × Value)} (k : o.IsDictOf (strKind prog w) kvs) (us : Array Value) : o.data ≠ .fields us := by
  obtain ⟨es, ep, _, hd, _⟩ := k
  intro q; rw [hd] at q; cases q
mutual
/-- a reading leans on no object with fields -/
theorem Rd.keepD (hk : ∀ b o, ¬ Z b → (∀ vs, o.data ≠ .fields vs) → h.get? b = some o → h'.get? b = some o) : ∀ {v : Value} {d : PyData}, Rd prog w Z h v d → Rd prog w Z h' v d
  | _, _, .none => .none
  | _, _, .bool b => .bool b
  | _, _, .int i t => .int i t
  | _, _, .str x t e => .str x t e
  | _, _, .list e z r => .list (hk _ _ z (seqO_ne ·) e) z (Rds.keepD hk r)
  | _, _, .tuple e z r => .tuple (hk _ _ z (seqO_ne ·) e) z (Rds.keepD hk r)
  | _, _, .dict e z n k r => .dict (hk _ _ z (dictO_ne k) e) z n k (Rds.keepD hk r)
theorem Rds.keepD (hk : ∀ b o, ¬ Z b → (∀ vs, o.data ≠ .fields vs) → h.get? b = some o → h'.get? b = some o) : ∀ {vs : List Value} {ds : List PyData}, Rds prog w Z h vs ds → Rds prog w Z h' vs ds
  | _, _, .nil => .nil
  | _, _, .cons a b => .cons (Rd.keepD hk a) (Rds.keepD hk b)
end
theorem listO_cls {vs : Array Value} {n : Nat} : (listO vs n).cls ≠ .type "frame" := by show Value.type "list" ≠ _; decide
theorem tupO_cls {vs : Array Value} {n : Nat} : (tupO vs n).cls ≠ .type "frame" := by show Value.type "tuple" ≠ _; decide
theorem dictO_cls {o : Obj} {kvs : List (Str × Value)} (k : o.IsDictOf (strKind prog w) kvs) : o.cls ≠ .type "frame" := by
  obtain ⟨es, ep, hx, _⟩ := k
  rw [hx.1]; decide
mutual
theorem Rd.keep (hk : Ext A h h') : ∀ {v : Value} {d : PyData}, Rd prog w Z h v d → Rd prog w Z h' v d
  | _, _, .none => .none
  | _, _, .bool b => .bool b
  | _, _, .int i t => .int i t
  | _, _, .str x t e => .str x t e
  | _, _, .list e z r => .list (hk.at e listO_cls) z (Rds.keep hk r)
  | _, _, .tuple e z r => .tuple (hk.at e tupO_cls) z (Rds.keep hk r)
  | _, _, .dict e z n k r => .dict (hk.at e (dictO_cls k)) z n k (Rds.keep hk r)
theorem Rds.keep (hk : Ext A h h') : ∀ {vs : List Value} {ds : List PyData}, Rds prog w Z h vs ds → Rds prog w Z h' vs ds
  | _, _, .nil => .nil
  | _, _, .cons a b => .cons (Rd.keep hk a) (Rds.keep hk b)
end

theorem Rd.push (o : Obj) {v : Value} {d : PyData} (r : Rd prog w Z h v d) : Rd prog w Z (h.push o) v d := r.keep (A := {}) (Ext.push o)
theorem Rds.push (o : Obj) {vs : List Value} {ds : List PyData} (r : Rds prog w Z h vs ds) : Rds prog w Z (h.push o) vs ds := r.keep (A := {}) (Ext.push o)
mutual
/-- another set of forbidden addresses, as long as it forbids nothing that stands -/
theorem Rd.reZ (hz : ∀ a o, h.get? a = some o → Z' a → Z a) : ∀ {v : Value} {d : PyData}, Rd prog w Z h v d → Rd prog w Z' h v d
  | _, _, .none => .none
  | _, _, .bool b => .bool b
  | _, _, .int i t => .int i t
  | _, _, .str x t e => .str x t e
  | _, _, .list e z r => .list e (fun q => z (hz _ _ e q)) (Rds.reZ hz r)
  | _, _, .tuple e z r => .tuple e (fun q => z (hz _ _ e q)) (Rds.reZ hz r)
  | _, _, .dict e z n k r => .dict e (fun q => z (hz _ _ e q)) n k (Rds.reZ hz r)
theorem Rds.reZ (hz : ∀ a o, h.get? a = some o → Z' a → Z a) : ∀ {vs : List Value} {ds : List PyData}, Rds prog w Z h vs ds → Rds prog w Z' h vs ds
  | _, _, .nil => .nil
  | _, _, .cons a b => .cons (Rd.reZ hz a) (Rds.reZ hz b)
end
noncomputable abbrev noZ : Addr → Prop := fun _ => False
theorem Rd.weak {v : Value} {d : PyData} (r : Rd prog w Z h v d) : Rd prog w noZ h v d := r.reZ fun _ _ _ q => q.elim
theorem Rds.weak {vs : List Value} {ds : List PyData} (r : Rds prog w Z h vs ds) : Rds prog w noZ h vs ds := r.reZ fun _ _ _ q => q.elim

noncomputable def flat : PyData → Bool
  | .none | .bool _ | .int _ | .str _ => true
  | _ => false
theorem Rd.ofFlat {v : Value} {d : PyData} (hf : flat d = true) (r : Rd prog w Z h v d) : Rd prog w Z' h' v d := by
  cases r with
  | none => exact .none
  | bool b => exact .bool b
  | int i t => exact .int i t
  | str x t e => exact .str x t e
  | list => cases hf
  | tuple => cases hf
  | dict => cases hf
theorem Rds.ofFlat {vs : List Value} {ds : List PyData} (hf : ∀ d ∈ ds, flat d = true) (r : Rds prog w Z h vs ds) : Rds prog w Z' h' vs ds := by
  induction vs generalizing ds with
  | nil => cases r; exact .nil
  | cons v vs ih =>
    cases r with
    | cons a b => exact .cons (a.ofFlat (hf _ List.mem_cons_self)) (ih (fun d hd => hf d (List.mem_cons_of_mem _ hd)) b)

theorem Rds.length {vs : List Value} {ds : List PyData} (r : Rds prog w Z h vs ds) : vs.length = ds.length := by
  induction vs generalizing ds with
  | nil => cases r; rfl
  | cons v vs ih => cases r with | cons _ b => simp [ih b]
theorem Rds.append {vs us : List Value} {ds es : List PyData} (r : Rds prog w Z h vs ds) (q : Rds prog w Z h us es) : Rds prog w Z h (vs ++ us) (ds ++ es) := by
  induction vs generalizing ds with
  | nil => cases r; exact q
  | cons v vs ih => cases r with | cons a b => exact .cons a (ih b)
theorem Rds.get {vs : List Value} {ds : List PyData} (r : Rds prog w Z h vs ds) {k : Nat} {d : PyData} (hd : ds[k]? = some d) : ∃ v, vs[k]? = some v ∧ Rd prog w Z h v d := by
  induction vs generalizing ds k with
  | nil => cases r; cases hd
  | cons v vs ih =>
    cases r with
    | cons a b =>
      cases k with
      | zero => cases hd; exact ⟨v, rfl, a⟩
      | succ k => exact ih b hd
theorem Rds.get' {vs : List Value} {ds : List PyData} (r : Rds prog w Z h vs ds) {k : Nat} {v : Value} (hv : vs[k]? = some v) : ∃ d, ds[k]? = some d ∧ Rd prog w Z h v d := by
  induction vs generalizing ds k with
  | nil => cases hv
  | cons v vs ih =>
    cases r with
    | cons a b =>
      cases k with
      | zero => cases hv; exact ⟨_, rfl, a⟩
      | succ k => exact ih b hv
theorem Rds.take {vs : List Value} {ds : List PyData} (r : Rds prog w Z h vs ds) (k : Nat) : Rds prog w Z h (vs.take k) (ds.take k) := by
  induction vs generalizing ds k with
  | nil => cases r; simp; exact .nil
  | cons v vs ih =>
    cases r with
    | cons a b =>
      cases k with
      | zero => exact .nil
      | succ k => exact .cons a (ih b k)
theorem Rds.drop {vs : List Value} {ds : List PyData} (r : Rds prog w Z h vs ds) (k : Nat) : Rds prog w Z h (vs.drop k) (ds.drop k) := by
  induction vs generalizing ds k with
  | nil => cases r; simp; exact .nil
  | cons v vs ih =>
    cases r with
    | cons a b =>
      cases k with
      | zero => exact .cons a b
      | succ k => exact ih b k

noncomputable def noDict : PyData → Bool
  | .dict _ => false
  | .list xs | .tuple xs => noDicts xs
  | _ => true
where noDicts : List PyData → Bool
  | [] => true
  | x :: xs => noDict x && noDicts xs

mutual
theorem Rd.reads : ∀ {v : Value} {d : PyData}, Rd prog w Z h v d → noDict d = true → ∃ as, Reads h v d as
  | _, _, .none, _ => ⟨_, .none⟩
  | _, _, .bool b, _ => ⟨_, .bool b⟩
  | _, _, .int i t, _ => ⟨_, .int i t⟩
  | _, _, .str x t _, _ => ⟨_, .str x t⟩
  | _, _, .list e _ r, n => by
    obtain ⟨as, q⟩ := Rds.reads r (by simpa [noDict] using n)
    exact ⟨_, .list e rfl rfl q⟩
  | _, _, .tuple e _ r, n => by
    obtain ⟨as, q⟩ := Rds.reads r (by simpa [noDict] using n)
    exact ⟨_, .tuple e rfl rfl q⟩
  | _, _, .dict _ _ _ _ _, n => by simp [noDict] at n
theorem Rds.reads : ∀ {vs : List Value} {ds : List PyData}, Rds prog w Z h vs ds → noDict.noDicts ds = true → ∃ as, ReadsAll h vs ds as
  | _, _, .nil, _ => ⟨_, .nil⟩
  | _, _, .cons a b, n => by
    simp only [noDict.noDicts, Bool.and_eq_true] at n
    obtain ⟨as, q⟩ := Rd.reads a n.1
    obtain ⟨bs, q'⟩ := Rds.reads b n.2
    exact ⟨_, .cons q q'⟩
end
mutual
theorem Rd.canLay0 : ∀ {v : Value} {d : PyData}, Rd prog w Z h v d → noDict d = true → d.canLay0 = true
  | _, _, .none, _ => by simp [PyData.canLay0]
  | _, _, .bool b, _ => by simp [PyData.canLay0]
  | _, _, .int i t, _ => by simp [PyData.canLay0]
  | _, _, .str x t e, _ => by simpa [PyData.canLay0] using e
  | _, _, .list e _ r, n => by simpa [PyData.canLay0] using Rds.canLay0 r (by simpa [noDict] using n)
  | _, _, .tuple e _ r, n => by simpa [PyData.canLay0] using Rds.canLay0 r (by simpa [noDict] using n)
  | _, _, .dict _ _ _ _ _, n => by simp [noDict] at n
theorem Rds.canLay0 : ∀ {vs : List Value} {ds : List PyData}, Rds prog w Z h vs ds → noDict.noDicts ds = true → PyData.canLayAll0 ds = true
  | _, _, .nil, _ => by simp [PyData.canLayAll0]
  | _, _, .cons a b, n => by
    simp only [noDict.noDicts, Bool.and_eq_true] at n
    simp [PyData.canLayAll0, Rd.canLay0 a n.1, Rds.canLay0 b n.2]
end
end
end

section
set_option autoImplicit false
set_option linter.unusedVariables false
open PySem

structure Kp (A : Around) (s s' : Shared) : Prop where
  same : ∃ h' tk, s' = { s with heap := h', toks := tk }
  ext : Ext A s.heap s'.heap
theorem Kp.refl {A : Around} (s : Shared) : Kp A s s := ⟨⟨s.heap, s.toks, rfl⟩, Ext.refl _⟩
theorem Kp.trans {A : Around} {s₁ s₂ s₃ : Shared} (x : Kp A s₁ s₂) (y : Kp A s₂ s₃) : Kp A s₁ s₃ := by
  refine ⟨?_, x.ext.trans y.ext⟩
  obtain ⟨h, t, rfl⟩ := x.same
  obtain ⟨h', t', rfl⟩ := y.same
  exact ⟨h', t', rfl⟩
theorem Kp.tok {A : Around} (s : Shared) (t : Nat) : Kp A s { s with toks := t } := ⟨⟨s.heap, t, rfl⟩, Ext.refl _⟩
theorem Kp.of {A : Around} {s : Shared} {h : Heap} (t : Nat) (k : Ext A s.heap h) : Kp A s { s with heap := h, toks := t } := ⟨⟨h, t, rfl⟩, k⟩
theorem Kp.push {A : Around} (s : Shared) (o : Obj) : Kp A s { s with heap := s.heap.push o } := ⟨⟨_, s.toks, rfl⟩, Ext.push o⟩
structure Cx where
  prog : Program
  w : World
  mg : Str → Option Value
  mb : Str → Option Value
  K : List (Addr × Obj)

noncomputable abbrev Cx.M (C : Cx) : Model := model C.prog C.w

structure Base (C : Cx) (h : Heap) : Prop where
  g : h.Ns mainGlobals C.mg
  b : h.Ns builtinsNs C.mb
  lim : h.NoLimit
  dig : ∃ mc, h.Ns cStatics mc ∧ mc "sys.int_max_str_digits" = none
  k : ∀ a o, C.K.lookup a = some o → h.get? a = some o
  kf : ∀ a o, C.K.lookup a = some o → o.cls ≠ .type "frame"

theorem Base.keep {A : Around} {C : Cx} {h h' : Heap} (B : Base C h) (k : Ext A h h') : Base C h' where
  g := k.ns B.g
  b := k.ns B.b
  lim := k.noLimit B.lim
  dig := let ⟨mc, a, b⟩ := B.dig; ⟨mc, k.ns a, b⟩
  k := fun a o e => k.at (B.k a o e) (B.kf a o e)
  kf := B.kf

noncomputable def FrOk (A : Around) (h : Heap) : Prop := ∃ l, A.frames = some l ∧ ∀ env ∈ l, env.scope.kind ≠ .module ∧ ∃ L o, env.frame = some L ∧ h.get? L = some o ∧ o.cls = .type "frame" ∧ ∃ es ep, o.data = .dict es ep
theorem FrOk.keep {A A' : Around} {h h' : Heap} (x : FrOk A h) (k : Ext A' h h') : FrOk A h' := by
  obtain ⟨l, hl, hx⟩ := x
  refine ⟨l, hl, fun env he => ?_⟩
  obtain ⟨h1, L, o, h2, h3, h4, es, ep, h5⟩ := hx env he
  obtain ⟨o', q1, q2, q3⟩ := k.stays h3
  exact ⟨h1, L, o', h2, q1, q3.trans h4, es, ep, q2.trans h5⟩

theorem FrOk.mut {A : Around} {h h' : Heap} {a : Addr} (x : FrOk A h) (k : ∀ b o, b ≠ a → h.get? b = some o → h'.get? b = some o)
    (hc : ∀ o es ep, h.get? a = some o → o.data = .dict es ep → ∃ o', h'.get? a = some o' ∧ o'.cls = o.cls ∧ ∃ es ep, o'.data = .dict es ep) : FrOk A h' := by
  obtain ⟨l, hl, hx⟩ := x
  refine ⟨l, hl, fun env he => ?_⟩
  obtain ⟨h1, L, o, h2, h3, h4, es, ep, h5⟩ := hx env he
  by_cases hL : L = a
  · subst hL
    obtain ⟨o', q1, q2, q3⟩ := hc o es ep h3 h5
    exact ⟨h1, L, o', h2, q1, q2.trans h4, q3⟩
  · exact ⟨h1, L, o, h2, k L o hL h3, h4, es, ep, h5⟩

structure OkA (A : Around) (k : Nat) : Prop where
  hd : A.handled = none
  dp : A.depth + k < recursionLimit
  un : A.units + 4 * k + 200 < cLine
theorem OkA.mono {A : Around} {k j : Nat} (x : OkA A k) (h : j ≤ k) : OkA A j := ⟨x.hd, by have := x.dp; omega, by have := x.un; omega⟩
theorem OkA.deeper {A : Around} {k : Nat} (x : OkA A (k + 1)) (env : Env) : OkA (A.deeper env) k :=
  ⟨x.hd, by have := x.dp; show A.depth + 1 + k < _; omega, by have := x.un; show A.units + 3 + 4 * k + 200 < _; omega⟩

structure Vars (env : Env) (h : Heap) (m : Str → Option Value) : Prop where
  loc : ∃ ml, h.Ns env.locals ml ∧ ∀ x, env.kindOf x = some .local → ml x = m x
  cel : ∀ x c, env.cells.lookup x = some c → h.IsCell c (m x)
  hid : ∀ v, m ".acc" = some v → v = .ref (env.locals - 1)
theorem Vars.keep {A : Around} {env : Env} {h h' : Heap} {m : Str → Option Value} (V : Vars env h m) (k : Ext A h h') : Vars env h' m where
  loc := let ⟨ml, a, b⟩ := V.loc; ⟨ml, k.ns a, b⟩
  cel := fun x c e => k.cell (V.cel x c e)
  hid := V.hid

inductive Ent where
  | fz (d : PyData)
  | bor (d : PyData)
  | own (ds : List PyData)
  | any
  | reg (a : Addr) (R : List (Addr × Obj))

noncomputable abbrev Tab := List (Str × Ent)

structure Zok (C : Cx) (Z : Addr → Prop) (h : Heap) : Prop where
  st : ∀ a, Z a → ∃ o, h.get? a = some o
  k : ∀ a, Z a → C.K.lookup a = none
theorem Zok.keep {A : Around} {C : Cx} {Z : Addr → Prop} {h h' : Heap} (x : Zok C Z h) (k : Ext A h h') : Zok C Z h' := ⟨fun a z => let ⟨o, e⟩ := x.st a z; let ⟨o', e', _⟩ := k.stays e; ⟨o', e'⟩, x.k⟩
theorem Zok.fresh {C : Cx} {Z : Addr → Prop} {h : Heap} (x : Zok C Z h) : ¬ Z h.objs.size := fun q => by
  obtain ⟨o, e⟩ := x.st _ q; exact absurd (Heap.lt_size e) (Nat.lt_irrefl _)

noncomputable def EntOk (C : Cx) (Z₀ Z : Addr → Prop) (h : Heap) : Option Value → Ent → Prop
  | some v, .fz d => Rd C.prog C.w Z h v d
  | some v, .bor d => Rd C.prog C.w (fun a => Z a ∧ ¬ Z₀ a) h v d
  | some v, .own ds => ∃ a vs n, v = .ref a ∧ h.get? a = some (listO vs n) ∧ Z a ∧ Rds C.prog C.w Z h vs.toList ds
  | some _, .any => True
  | some v, .reg a R => v = .ref a ∧ ∀ p ∈ R, h.get? p.1 = some p.2 ∧ Z p.1 ∧ p.2.cls ≠ .type "frame" ∧ ∀ us, p.2.data ≠ .fields us
  | none, _ => False

theorem EntOk.keep {A : Around} {C : Cx} {Z₀ Z : Addr → Prop} {h h' : Heap} {v : Option Value} {e : Ent} (x : EntOk C Z₀ Z h v e) (k : Ext A h h') : EntOk C Z₀ Z h' v e := by
  cases v with
  | none => exact x
  | some v =>
    cases e with
    | fz d => exact Rd.keep k x
    | bor d => exact Rd.keep k x
    | own ds => obtain ⟨a, vs, n, rfl, e, z, r⟩ := x; exact ⟨a, vs, n, rfl, k.at e listO_cls, z, r.keep k⟩
    | any => trivial
    | reg a R => exact ⟨x.1, fun p hp => let ⟨e, z, c, f⟩ := x.2 p hp; ⟨k.at e c, z, c, f⟩⟩

structure FnEnv (env : Env) : Prop where
  kind : env.scope.kind = .function
  glob : env.globals = mainGlobals
  blt : env.builtins = builtinsNs
  acc : env.kindOf ".acc" = none

structure In (C : Cx) (A : Around) (env : Env) (Z₀ Z : Addr → Prop) (Γ : Tab) (m : Str → Option Value) (h : Heap) : Prop where
  fn : FnEnv env
  vars : Vars env h m
  ents : ∀ x e, Γ.lookup x = some e → EntOk C Z₀ Z h (m x) e
  base : Base C h
  z : Zok C Z h
  fr : FrOk A h
  zc : ∀ x c, env.cells.lookup x = some c → Z c
  cd : ∀ x y c, env.cells.lookup x = some c → env.cells.lookup y = some c → x = y
theorem In.keep {C : Cx} {A : Around} {env : Env} {Z₀ Z : Addr → Prop} {Γ : Tab} {m : Str → Option Value} {h h' : Heap} (I : In C A env Z₀ Z Γ m h) (k : Ext A h h') : In C A env Z₀ Z Γ m h' :=
  ⟨I.fn, I.vars.keep k, fun x e l => (I.ents x e l).keep k, I.base.keep k, I.z.keep k, I.fr.keep k, I.zc, I.cd⟩

noncomputable def sel (μ : Bool) (Z : Addr → Prop) : Addr → Prop := if μ then Z else noZ
theorem Rd.sel {C : Cx} {Z : Addr → Prop} {h : Heap} {v : Value} {d : PyData} (μ : Bool) (r : Rd C.prog C.w Z h v d) : Rd C.prog C.w (sel μ Z) h v d := by
  cases μ with
  | true => exact r
  | false => exact r.weak

theorem In.sel {C : Cx} {A : Around} {env : Env} {Z₀ Z : Addr → Prop} {Γ : Tab} {m : Str → Option Value} {h : Heap} (I : In C A env Z₀ Z Γ m h) (μ : Bool) : ¬ Mine.sel μ Z h.objs.size := by
  intro q
  cases μ with
  | true => exact I.z.fresh q
  | false => exact q

noncomputable def Ev (C : Cx) (A : Around) (env : Env) (Γ : Tab) (e : Expr) (μ : Bool) (d : PyData) : Prop :=
  ∀ E s m Z₀ Z, In C A env Z₀ Z Γ m s.heap → wpAny C.M A (eval e env) (fun v s' => Kp A s s' ∧ Rd C.prog C.w (sel μ Z) s'.heap v d) E s
noncomputable def Cd (C : Cx) (A : Around) (env : Env) (Γ : Tab) (e : Expr) (b : Bool) : Prop :=
  ∀ E s m Z₀ Z, In C A env Z₀ Z Γ m s.heap → wpAny C.M A (isTrue e env (eval e env)) (fun r s' => Kp A s s' ∧ r = b) E s

section
variable {C : Cx} {A : Around} {env : Env} {Γ : Tab} {e e₁ e₂ : Expr} {μ μ₁ μ₂ : Bool} {d d₁ d₂ : PyData}

theorem Ev.weak (h : Ev C A env Γ e true d) : Ev C A env Γ e μ d := fun E s m Z₀ Z I =>
  wpAny_mono (h E s m Z₀ Z I) (fun _ _ ⟨k, r⟩ => ⟨k, Rd.sel μ r⟩) fun _ _ x => x
theorem Ev.ofFlat (h : Ev C A env Γ e μ₁ d) (hf : flat d = true) : Ev C A env Γ e μ d := fun E s m Z₀ Z I =>
  wpAny_mono (h E s m Z₀ Z I) (fun _ _ ⟨k, r⟩ => ⟨k, r.ofFlat hf⟩) fun _ _ x => x

theorem Ev.go (h : Ev C A env Γ e μ d) {E : Value → Shared → Prop} {s : Shared} {m : Str → Option Value} {Z₀ Z : Addr → Prop} (I : In C A env Z₀ Z Γ m s.heap) {Q : Value → Shared → Prop}
    (k : ∀ v s', Kp A s s' → In C A env Z₀ Z Γ m s'.heap → Rd C.prog C.w (sel μ Z) s'.heap v d → Q v s') : wpAny C.M A (eval e env) Q E s :=
  wpAny_mono (h E s m Z₀ Z I) (fun v s' ⟨x, r⟩ => k v s' x (I.keep x.ext) r) fun _ _ x => x
theorem Ev.go2 (h₁ : Ev C A env Γ e₁ μ₁ d₁) (h₂ : Ev C A env Γ e₂ μ₂ d₂) {E : Value → Shared → Prop} {s : Shared} {m : Str → Option Value} {Z₀ Z : Addr → Prop} (I : In C A env Z₀ Z Γ m s.heap) {Q : Value → Value → Shared → Prop}
    (k : ∀ v₁ v₂ s', Kp A s s' → In C A env Z₀ Z Γ m s'.heap → Rd C.prog C.w (sel μ₁ Z) s'.heap v₁ d₁ → Rd C.prog C.w (sel μ₂ Z) s'.heap v₂ d₂ → Q v₁ v₂ s') :
    wpAny C.M A (eval e₁ env) (fun v₁ s₁ => wpAny C.M A (eval e₂ env) (fun v₂ s₂ => Q v₁ v₂ s₂) E s₁) E s :=
  h₁.go I fun v₁ s₁ k₁ I₁ r₁ => h₂.go I₁ fun v₂ s₂ k₂ I₂ r₂ => k v₁ v₂ s₂ (k₁.trans k₂) I₂ (r₁.keep k₂.ext) r₂

theorem ev_int (i : Int) {k : Nat} {pos : Pos} : Ev C A env Γ (.Constant (.int i) k pos) μ (.int i) := fun _ s _ _ _ _ =>
  wpAny_Constant_int ⟨Kp.tok s _, .int i _⟩
theorem ev_str (x : Str) {k : Nat} {pos : Pos} (hx : PyData.strOk x = true) : Ev C A env Γ (.Constant (.str x) k pos) μ (.str x) := fun _ s _ _ _ _ _ _ _ =>
  ⟨Kp.tok s _, .str x _ hx⟩
theorem ev_bool (b : Bool) {k : Nat} {pos : Pos} : Ev C A env Γ (.Constant (.bool b) k pos) μ (.bool b) := fun _ s _ _ _ _ _ _ _ => ⟨Kp.refl s, .bool b⟩
theorem loadVar {s : Shared} {m : Str → Option Value} {Z₀ Z : Addr → Prop} {x : Str} {v : Value} {pos : Pos} {E : Value → Shared → Prop} {Q : Value → Shared → Prop} (I : In C A env Z₀ Z Γ m s.heap)
    (hk : (env.kindOf x = some .local) ∨ ((env.kindOf x = some .cell ∨ env.kindOf x = some .free) ∧ (env.cells.lookup x).isSome = true)) (hv : m x = some v) (h : Q v s) (hd : (x == ("__debug__" : Str)) = false) (hc : (x == ("__classdict__" : Str)) = false) :
    wpAny C.M A (eval (.Name x pos) env) Q E s := by
  rcases hk with hk | ⟨hk, hs⟩
  · obtain ⟨ml, hn, hm⟩ := I.vars.loc
    exact wpAny_Name (wpAny_loadName_local I.fn.kind hk hn ((hm x hk).trans hv) h) hd
  · obtain ⟨c, hs⟩ := Option.isSome_iff_exists.mp hs
    have hcell := I.vars.cel x c hs
    rw [hv] at hcell
    rcases hk with hk | hk
    · exact wpAny_Name (wpAny_loadName_cell I.fn.kind hk hs hcell h) hd
    · exact wpAny_Name (wpAny_loadName_free I.fn.kind hk hs hcell h hc) hd

noncomputable def isVar (env : Env) (x : Str) : Bool :=
  (match env.kindOf x with | some .local => true | some .cell | some .free => (env.cells.lookup x).isSome | _ => false) && !(x == ("__debug__" : Str)) && !(x == ("__classdict__" : Str))
theorem isVar_spec {x : Str} (h : isVar env x = true) : ((env.kindOf x = some .local) ∨ ((env.kindOf x = some .cell ∨ env.kindOf x = some .free) ∧ (env.cells.lookup x).isSome = true)) ∧ (x == ("__debug__" : Str)) = false ∧ (x == ("__classdict__" : Str)) = false := by
  unfold isVar at h
  simp only [Bool.and_eq_true, Bool.not_eq_true'] at h
  refine ⟨?_, h.1.2, h.2⟩
  have := h.1.1
  split at this
  · rename_i e; exact .inl e
  · rename_i e; exact .inr ⟨.inl e, this⟩
  · rename_i e; exact .inr ⟨.inr e, this⟩
  · cases this

theorem ev_var {x : Str} {pos : Pos} {d : PyData} (hx : isVar env x = true) (hl : Γ.lookup x = some (.fz d)) : Ev C A env Γ (.Name x pos) μ d := fun E s m Z₀ Z I => by
  obtain ⟨h1, h2, h3⟩ := isVar_spec hx
  have := I.ents x _ hl
  cases hv : m x with
  | none => rw [hv] at this; exact this.elim
  | some v => rw [hv] at this; exact loadVar I h1 hv ⟨Kp.refl s, Rd.sel μ this⟩ h2 h3
theorem ev_own {x : Str} {pos : Pos} {ds : List PyData} (hx : isVar env x = true) (hl : Γ.lookup x = some (.own ds)) : Ev C A env Γ (.Name x pos) false (.list ds) := fun E s m Z₀ Z I => by
  obtain ⟨h1, h2, h3⟩ := isVar_spec hx
  have := I.ents x _ hl
  cases hv : m x with
  | none => rw [hv] at this; exact this.elim
  | some v =>
    rw [hv] at this
    obtain ⟨a, vs, n, rfl, e, z, r⟩ := this
    exact loadVar I h1 hv ⟨Kp.refl s, .list e (fun q => q) r.weak⟩ h2 h3
end
end

section
set_option autoImplicit false
set_option linter.unusedVariables false
open PySem PyProof.Rows

section
variable {C : Cx} {A : Around} {env : Env} {Γ : Tab} {e e₁ e₂ : Expr} {μ μ₁ μ₂ : Bool} {d d₁ d₂ : PyData}

noncomputable def addD : PyData → PyData → Option PyData
  | .int a, .int b => some (.int (a + b))
  | .str x, .str y => some (.str (x ++ y))
  | .list xs, .list ys => some (.list (xs ++ ys))
  | _, _ => none
noncomputable def addOk : PyData → PyData → Prop
  | .str x, .str y => x.length + y.length ≤ sizeLine
  | .list xs, .list ys => xs.length + ys.length ≤ sizeLine
  | _, _ => True

theorem strOk_append {x y : Str} (hx : PyData.strOk x = true) (hy : PyData.strOk y = true) : PyData.strOk (x ++ y) = true := by
  unfold PyData.strOk at *
  rw [Str.cps_append]
  simp only [Array.all_append, hx, hy, Bool.and_self]

theorem add_op {s : Shared} {v₁ v₂ : Value} {Z : Addr → Prop} {E : Value → Shared → Prop} {Q : Value → Shared → Prop} (r₁ : Rd C.prog C.w Z s.heap v₁ d₁) (r₂ : Rd C.prog C.w Z s.heap v₂ d₂) (hd : addD d₁ d₂ = some d) (hok : addOk d₁ d₂)
    (hz : ¬ Z s.heap.objs.size) (k : ∀ v s', Kp A s s' → Rd C.prog C.w Z s'.heap v d → Q v s') : wpAny C.M A (binaryOp .Add v₁ v₂) Q E s := by
  cases r₁ with
  | int i t =>
    cases r₂ with
    | int j u => cases hd; exact PyProof.Rows.add_int (k _ _ (Kp.tok s _) (.int _ _))
    | _ => cases hd
  | str x t hx =>
    cases r₂ with
    | str y u hy => cases hd; exact PyProof.Rows.add_str (fun t' tk => k _ _ (Kp.tok s _) (.str _ _ (strOk_append hx hy))) hok
    | _ => cases hd
  | list e₁ z₁ q₁ =>
    cases r₂ with
    | list e₂ z₂ q₂ =>
      cases hd
      refine P.add_list e₁ e₂ (k _ _ (Kp.push s _) (.list (n := 0) (Heap.get?_push_size _ rfl) hz ?_)) ?_
      · rw [Array.toList_append]
        exact (q₁.append q₂).push _
      · have := q₁.length; have := q₂.length
        simp only [Array.length_toList] at *
        have h : _ + _ ≤ _ := hok
        omega
    | _ => cases hd
  | none => cases r₂ <;> cases hd
  | bool b => cases r₂ <;> cases hd
  | tuple _ _ _ => cases r₂ <;> cases hd
  | dict _ _ _ _ _ => cases r₂ <;> cases hd

theorem ev_add {pos : Pos} (h₁ : Ev C A env Γ e₁ μ d₁) (h₂ : Ev C A env Γ e₂ μ d₂) (hd : addD d₁ d₂ = some d) (hok : addOk d₁ d₂) : Ev C A env Γ (.BinOp e₁ .Add e₂ pos) μ d := fun E s m Z₀ Z I =>
  wpAny_BinOp (h₁.go2 h₂ I fun _ _ s' k I' r₁ r₂ => add_op r₁ r₂ hd hok (I'.sel μ) fun _ _ k' r => ⟨k.trans k', r⟩)
theorem ev_sub {pos : Pos} {a b : Int} (h₁ : Ev C A env Γ e₁ μ₁ (.int a)) (h₂ : Ev C A env Γ e₂ μ₂ (.int b)) : Ev C A env Γ (.BinOp e₁ .Sub e₂ pos) μ (.int (a - b)) := fun E s m Z₀ Z I =>
  wpAny_BinOp (h₁.go2 h₂ I fun _ _ s' k I' r₁ r₂ => by cases r₁; cases r₂; exact sub_int' ⟨k.trans (Kp.tok _ _), .int _ _⟩)
theorem ev_mod {pos : Pos} {a b : Int} (h₁ : Ev C A env Γ e₁ μ₁ (.int a)) (h₂ : Ev C A env Γ e₂ μ₂ (.int b)) (hb : b ≠ 0) : Ev C A env Γ (.BinOp e₁ .Mod e₂ pos) μ (.int (a.fmod b)) := fun E s m Z₀ Z I =>
  wpAny_BinOp (h₁.go2 h₂ I fun _ _ s' k I' r₁ r₂ => by cases r₁; cases r₂; exact mod_int' hb ⟨k.trans (Kp.tok _ _), .int _ _⟩)
noncomputable def cmpD (op : CmpOp) (d₁ d₂ : PyData) : Option Bool :=
  match op, d₁, d₂ with
  | .Eq, _, _ => if noDict d₁ && noDict d₂ && decide (min d₁.depth d₂.depth ≤ 100) then some (PyData.eqv d₁ d₂) else none
  | .NotEq, _, _ => if noDict d₁ && noDict d₂ && decide (min d₁.depth d₂.depth ≤ 100) then some (!PyData.eqv d₁ d₂) else none
  | .Lt, .int a, .int b => some (decide (a < b))
  | .LtE, .int a, .int b => some (decide (a ≤ b))
  | .Gt, .int a, .int b => some (decide (b < a))
  | .GtE, .int a, .int b => some (decide (b ≤ a))
  | .In, .str y, .str x => some (!(Builtin.Str.occurrences x y 0 x.length 1).isEmpty)
  | .NotIn, .str y, .str x => some (!!(Builtin.Str.occurrences x y 0 x.length 1).isEmpty)
  | .In, x, .list xs => if noDict x && noDict (.list xs) && decide (min (PyData.depthAll xs) x.depth ≤ 100) then some (xs.any fun y => PyData.eqv y x) else none
  | .NotIn, x, .list xs => if noDict x && noDict (.list xs) && decide (min (PyData.depthAll xs) x.depth ≤ 100) then some (!xs.any fun y => PyData.eqv y x) else none
  | .In, x, .tuple xs => if noDict x && noDict (.tuple xs) && decide (min (PyData.depthAll xs) x.depth ≤ 100) then some (xs.any fun y => PyData.eqv y x) else none
  | .NotIn, x, .tuple xs => if noDict x && noDict (.tuple xs) && decide (min (PyData.depthAll xs) x.depth ≤ 100) then some (!xs.any fun y => PyData.eqv y x) else none
  | _, _, _ => none

theorem canLay_items {xs : List PyData} (h : (PyData.list xs).canLay0 = true) : PyData.canLayAll0 xs = true := by simpa [PyData.canLay0] using h
theorem canLay_itemsT {xs : List PyData} (h : (PyData.tuple xs).canLay0 = true) : PyData.canLayAll0 xs = true := by simpa [PyData.canLay0] using h

theorem cmp_op {op : CmpOp} {s : Shared} {v₁ v₂ : Value} {Z₁ Z₂ : Addr → Prop} {E : Value → Shared → Prop} {Q : Value → Shared → Prop} {b : Bool} (hu : A.units + 200 < cLine) (r₁ : Rd C.prog C.w Z₁ s.heap v₁ d₁) (r₂ : Rd C.prog C.w Z₂ s.heap v₂ d₂)
    (hd : cmpD op d₁ d₂ = some b) (k : Q (.bool b) s) : wpAny C.M A (compareOp op v₁ v₂) Q E s := by
  unfold cmpD at hd
  split at hd
  · split at hd
    · rename_i hc
      simp only [Bool.and_eq_true, decide_eq_true_eq] at hc
      obtain ⟨as, q₁⟩ := r₁.reads hc.1.1
      obtain ⟨bs, q₂⟩ := r₂.reads hc.1.2
      cases hd
      exact SeqAt.compareEq_reads q₁ q₂ (r₁.canLay0 hc.1.1) (r₂.canLay0 hc.1.2) (by have := hc.2; omega) k
    · cases hd
  · split at hd
    · rename_i hc
      simp only [Bool.and_eq_true, decide_eq_true_eq] at hc
      obtain ⟨as, q₁⟩ := r₁.reads hc.1.1
      obtain ⟨bs, q₂⟩ := r₂.reads hc.1.2
      cases hd
      exact SeqAt.compareNe_reads q₁ q₂ (r₁.canLay0 hc.1.1) (r₂.canLay0 hc.1.2) (by have := hc.2; omega) k
    · cases hd
  · cases r₁; cases r₂; cases hd; exact PyProof.Rows.lt_int k
  · cases r₁; cases r₂; cases hd; exact PyProof.Rows.le_int k
  · cases r₁; cases r₂; cases hd; exact PyProof.Rows.gt_int k
  · cases r₁; cases r₂; cases hd; exact PyProof.Rows.ge_int k
  · cases r₁; cases r₂; cases hd; exact PyProof.Rows.in_str k
  · cases r₁; cases r₂; cases hd; exact PyProof.Rows.notIn_str k
  · split at hd
    · rename_i hc
      simp only [Bool.and_eq_true, decide_eq_true_eq] at hc
      obtain ⟨as, q₁⟩ := r₁.reads hc.1.1
      obtain ⟨bs, q₂⟩ := r₂.reads hc.1.2
      cases hd
      exact SeqAt.in_list_reads q₂ q₁ (canLay_items (r₂.canLay0 hc.1.2)) (r₁.canLay0 hc.1.1) (by have := hc.2; omega) k
    · cases hd
  · split at hd
    · rename_i hc
      simp only [Bool.and_eq_true, decide_eq_true_eq] at hc
      obtain ⟨as, q₁⟩ := r₁.reads hc.1.1
      obtain ⟨bs, q₂⟩ := r₂.reads hc.1.2
      cases hd
      exact SeqAt.notIn_list_reads q₂ q₁ (canLay_items (r₂.canLay0 hc.1.2)) (r₁.canLay0 hc.1.1) (by have := hc.2; omega) k
    · cases hd
  · split at hd
    · rename_i hc
      simp only [Bool.and_eq_true, decide_eq_true_eq] at hc
      obtain ⟨as, q₁⟩ := r₁.reads hc.1.1
      obtain ⟨bs, q₂⟩ := r₂.reads hc.1.2
      cases hd
      exact SeqAt.in_tuple_reads q₂ q₁ (canLay_itemsT (r₂.canLay0 hc.1.2)) (r₁.canLay0 hc.1.1) (by have := hc.2; omega) k
    · cases hd
  · split at hd
    · rename_i hc
      simp only [Bool.and_eq_true, decide_eq_true_eq] at hc
      obtain ⟨as, q₁⟩ := r₁.reads hc.1.1
      obtain ⟨bs, q₂⟩ := r₂.reads hc.1.2
      cases hd
      exact SeqAt.notIn_tuple_reads q₂ q₁ (canLay_itemsT (r₂.canLay0 hc.1.2)) (r₁.canLay0 hc.1.1) (by have := hc.2; omega) k
    · cases hd
  · cases hd

theorem ev_cmp {n : Nat} {op : CmpOp} {pos : Pos} {b : Bool} (hA : OkA A n) (h₁ : Ev C A env Γ e₁ μ₁ d₁) (h₂ : Ev C A env Γ e₂ μ₂ d₂) (hd : cmpD op d₁ d₂ = some b) (hm : behindInMarks op e₂ = false) : Ev C A env Γ (.Compare e₁ [op] [e₂] pos) μ (.bool b) := fun E s m Z₀ Z I =>
  wpAny_Compare1 (h₁.go2 h₂ I fun _ _ s' k I' r₁ r₂ => cmp_op (by have := hA.un; omega) r₁ r₂ hd ⟨k, .bool b⟩) hm
theorem cd_cmp {n : Nat} {op : CmpOp} {pos : Pos} {b : Bool} (hA : OkA A n) (h₁ : Ev C A env Γ e₁ μ₁ d₁) (h₂ : Ev C A env Γ e₂ μ₂ d₂) (hd : cmpD op d₁ d₂ = some b) (hm : behindInMarks op e₂ = false) : Cd C A env Γ (.Compare e₁ [op] [e₂] pos) b := fun E s m Z₀ Z I =>
  wpAny_isTrue_Compare1 (h₁.go2 h₂ I fun _ _ s' k I' r₁ r₂ => cmp_op (by have := hA.un; omega) r₁ r₂ hd (wpAny_truthy_bool ⟨k, rfl⟩)) hm

theorem Cd.go {b : Bool} (h : Cd C A env Γ e b) {E : Value → Shared → Prop} {s : Shared} {m : Str → Option Value} {Z₀ Z : Addr → Prop} (I : In C A env Z₀ Z Γ m s.heap) {Q : Bool → Shared → Prop}
    (k : ∀ s', Kp A s s' → In C A env Z₀ Z Γ m s'.heap → Q b s') : wpAny C.M A (isTrue e env (eval e env)) Q E s :=
  wpAny_mono (h E s m Z₀ Z I) (fun v s' ⟨x, r⟩ => r ▸ k s' x (I.keep x.ext)) fun _ _ x => x
theorem cd_not {pos : Pos} {b : Bool} (h : Cd C A env Γ e b) : Cd C A env Γ (.UnaryOp .Not e pos) (!b) := fun E s m Z₀ Z I => isTrue_not (h.go I fun s' k _ => ⟨k, rfl⟩)
theorem cd_and0 {pos : Pos} : Cd C A env Γ (.BoolOp .And [] pos) true := fun E s m Z₀ Z I => isTrue_and_nil ⟨Kp.refl s, rfl⟩
theorem cd_and {pos : Pos} {rest : List Expr} {a b : Bool} (h : Cd C A env Γ e a) (h' : a = true → Cd C A env Γ (.BoolOp .And rest pos) b) : Cd C A env Γ (.BoolOp .And (e :: rest) pos) (a && b) := fun E s m Z₀ Z I =>
  isTrue_and (h.go I fun s' k I' => by
    cases a with
    | false => exact ⟨k, rfl⟩
    | true => exact (h' rfl).go I' fun s'' k' _ => ⟨k.trans k', rfl⟩)
theorem cd_bool {b : Bool} (h : Ev C A env Γ e μ (.bool b)) (he : ∀ whole : Sem Value, isTrue e env whole = (do let v ← whole; standAt e.pos; holding [v] (truthy v))) : Cd C A env Γ e b := fun E s m Z₀ Z I =>
  isTrue_plain (h.go I fun v s' k I' r => by cases r; exact wpAny_truthy_bool ⟨k, rfl⟩) (he _)

noncomputable def notStar : Expr → Bool
  | .Starred _ _ => false
  | _ => true
noncomputable def Evs (C : Cx) (A : Around) (env : Env) (Γ : Tab) (es : List Expr) (μ : Bool) (ds : List PyData) : Prop :=
  ∀ E s m Z₀ Z (pos : Pos), In C A env Z₀ Z Γ m s.heap → wpAny C.M A (spliced (backTo pos (starEach es env))) (fun vs s' => Kp A s s' ∧ Rds C.prog C.w (sel μ Z) s'.heap vs ds) E s
theorem starEach_cons {es : List Expr} (h : notStar e = true) : starEach (e :: es) env = (false, eval e env) :: starEach es env := by
  cases e <;> first | rfl | cases h
theorem evs_nil : Evs C A env Γ [] μ [] := fun E s m Z₀ Z pos I => Calls.spliced_nil ⟨Kp.refl s, .nil⟩
theorem evs_cons {es : List Expr} {ds : List PyData} (h : Ev C A env Γ e μ d) (hs : Evs C A env Γ es μ ds) (hn : notStar e = true) : Evs C A env Γ (e :: es) μ (d :: ds) := fun E s m Z₀ Z pos I => by
  rw [starEach_cons hn]
  exact Calls.spliced_cons (h.go I fun v s' k I' r => wpAny_mono (hs E s' m Z₀ Z pos I') (fun vs s'' ⟨k', r'⟩ => ⟨k.trans k', .cons (r.keep k'.ext) r'⟩) fun _ _ x => x)
theorem Evs.go {es : List Expr} {ds : List PyData} (h : Evs C A env Γ es μ ds) {E : Value → Shared → Prop} {s : Shared} {m : Str → Option Value} {Z₀ Z : Addr → Prop} {pos : Pos} (I : In C A env Z₀ Z Γ m s.heap) {Q : List Value → Shared → Prop}
    (k : ∀ vs s', Kp A s s' → In C A env Z₀ Z Γ m s'.heap → Rds C.prog C.w (sel μ Z) s'.heap vs ds → Q vs s') : wpAny C.M A (spliced (backTo pos (starEach es env))) Q E s :=
  wpAny_mono (h E s m Z₀ Z pos I) (fun v s' ⟨x, r⟩ => k v s' x (I.keep x.ext) r) fun _ _ x => x

theorem ev_list {es : List Expr} {ds : List PyData} {pos : Pos} (h : Evs C A env Γ es μ ds) (hz : ds.length ≤ sizeLine) : Ev C A env Γ (.List es pos) μ (.list ds) := fun E s m Z₀ Z I =>
  List_ (h.go I fun vs s' k I' r => wpAny_newList ⟨k.trans (Kp.push _ _), .list (n := 0) (Heap.get?_push_size _ rfl) (I'.sel μ) (by simpa using r.push _)⟩ (by rw [r.length]; exact hz))
theorem ev_tuple {es : List Expr} {ds : List PyData} {k : Nat} {pos : Pos} (h : Evs C A env Γ es μ ds) (hz : ds.length ≤ sizeLine) : Ev C A env Γ (.Tuple es k pos) μ (.tuple ds) := fun E s m Z₀ Z I =>
  Tuple_ (h.go I fun vs s' k I' r => wpAny_newTuple ⟨k.trans (Kp.push _ _), .tuple (n := 0) (Heap.get?_push_size _ rfl) (I'.sel μ) (by simpa using r.push _)⟩ (by rw [r.length]; exact hz))

theorem subscripted_ops (slice : Expr) (o i : Value) : ∃ ops, subscripted slice false o i = operate ops (getItem o i) := by
  unfold subscripted
  split
  · exact ⟨_, rfl⟩
  · rename_i _ h; cases h
  · exact ⟨_, rfl⟩
theorem item_op {value slice : Expr} {s : Shared} {v : Value} {k : Int} {t : Tok} {Z : Addr → Prop} {E : Value → Shared → Prop} {Q : Value → Shared → Prop} {ds : List PyData} (r : Rd C.prog C.w Z s.heap v d₁) (hd : d₁ = .list ds ∨ d₁ = .tuple ds)
    (h0 : 0 ≤ k) (hk : k < 2 ^ 63) (hx : ds[k.toNat]? = some d) (kk : ∀ v, Rd C.prog C.w Z s.heap v d → Q v s) : wpAny C.M A (subscriptTail value slice v (.int k t)) Q E s := by
  obtain ⟨ops, ho⟩ := subscripted_ops slice v (.int k t)
  rcases hd with rfl | rfl
  · cases r with
    | list e z q =>
      obtain ⟨x, hx', rx⟩ := q.get hx
      have hl : s.heap.IsList _ _ := ⟨_, e, rfl, _, rfl⟩
      exact tail_any hl.typeIs slot_list_getitem.lookup (wpAny_getItem_list hl h0 hk (by simpa using hx') (kk x rx)) ho
  · cases r with
    | @tuple a vs n _ e z q =>
      obtain ⟨x, hx', rx⟩ := q.get hx
      have hl : IsTup s.heap _ _ := ⟨_, e, rfl, _, rfl⟩
      have hlt : k.toNat < ds.length := by
        rcases Nat.lt_or_ge k.toNat ds.length with h | h
        · exact h
        · rw [List.getElem?_eq_none h] at hx; cases hx
      have hlen := q.length
      simp only [Array.length_toList] at hlen
      refine tail_any hl.typeIs slot_tuple_getitem.lookup (PyProof.Rows.getItem_tuple hl (by omega) hk (j := k.toNat) ?_ (by simpa using hx') (kk x rx)) ho
      unfold seqIndex?
      have h1 : ¬ k < 0 := by omega
      have h2 : k < (vs.size : Int) := by rw [hlen]; omega
      simp only [h1, if_false]
      rw [if_pos (by simp only [Bool.and_eq_true, decide_eq_true_eq]; exact ⟨h0, h2⟩)]

noncomputable def itemsD : PyData → Option (List PyData)
  | .list ds | .tuple ds => some ds
  | _ => none
theorem itemsD_spec {ds : List PyData} (h : itemsD d = some ds) : d = .list ds ∨ d = .tuple ds := by
  cases d <;> cases h <;> simp
theorem ev_item {pos : Pos} {ds : List PyData} {k : Int} (h₁ : Ev C A env Γ e₁ μ d₁) (h₂ : Ev C A env Γ e₂ μ₂ (.int k)) (hd : itemsD d₁ = some ds) (h0 : 0 ≤ k) (hk : k < 2 ^ 63) (hx : ds[k.toNat]? = some d) :
    Ev C A env Γ (.Subscript e₁ e₂ pos) μ d := fun E s m Z₀ Z I =>
  Subscript_ (h₁.go2 h₂ I fun _ _ s' kp I' r₁ r₂ => by cases r₂; exact item_op r₁ (itemsD_spec hd) h0 hk hx fun v r => ⟨kp, r⟩)
end
end

section
set_option autoImplicit false
set_option linter.unusedVariables false
open PySem PyProof.Rows

structure StW (C : Cx) (A : Around) (env : Env) (h₀ : Heap) (Z₀ : Addr → Prop) (H : List (Addr × Obj)) (V : List (Value × PyData)) (Γ : Tab) (h : Heap) (Z : Addr → Prop) (m : Str → Option Value) : Prop where
  i : In C A env Z₀ Z Γ m h
  b0 : Base C h₀
  keep : Ext A h₀ h
  z0 : ∀ a, Z₀ a → Z a ∧ ∃ o, h₀.get? a = some o
  zl : Z env.locals
  nl : h₀.get? env.locals = none
  zc : ∀ x c, env.cells.lookup x = some c → Z c
  cd : ∀ x y c, env.cells.lookup x = some c → env.cells.lookup y = some c → x = y
  hs : ∀ p ∈ H, h.get? p.1 = some p.2 ∧ ¬ Z p.1 ∧ p.2.cls ≠ .type "frame"
  vs : ∀ p ∈ V, Rd C.prog C.w Z h p.1 p.2
  ow : ∀ x ds a, Γ.lookup x = some (.own ds) → m x = some (.ref a) → h₀.get? a = none ∧ ∀ y es, Γ.lookup y = some (.own es) → m y = some (.ref a) → y = x
  rg : ∀ x a R, Γ.lookup x = some (.reg a R) → (∀ p ∈ R, h₀.get? p.1 = none ∧ p.1 ≠ env.locals ∧ ∀ y c, env.cells.lookup y = some c → c ≠ p.1) ∧ (∀ y ds, Γ.lookup y = some (.own ds) → ∀ p ∈ R, m y ≠ some (.ref p.1)) ∧ ∀ y b R', Γ.lookup y = some (.reg b R') → y = x

noncomputable def Same (s s' : Shared) : Prop := ∃ h' tk, s' = { s with heap := h', toks := tk }
theorem Same.refl (s : Shared) : Same s s := ⟨s.heap, s.toks, rfl⟩
theorem Same.trans {s₁ s₂ s₃ : Shared} (x : Same s₁ s₂) (y : Same s₂ s₃) : Same s₁ s₃ := by
  obtain ⟨h, t, rfl⟩ := x
  obtain ⟨h', t', rfl⟩ := y
  exact ⟨h', t', rfl⟩
theorem Kp.toSame {A : Around} {s s' : Shared} (k : Kp A s s') : Same s s' := k.same

noncomputable def Owned (env : Env) (h₀ : Heap) (x : Str) : Prop := ∀ c, env.cells.lookup x = some c → h₀.get? c = none
noncomputable def St (C : Cx) (A : Around) (env : Env) (s₀ : Shared) (Z₀ : Addr → Prop) (H : List (Addr × Obj)) (V : List (Value × PyData)) (Γ : Tab) (s : Shared) : Prop :=
  Same s₀ s ∧ ∃ Z m, StW C A env s₀.heap Z₀ H V Γ s.heap Z m

section
variable {C : Cx} {A : Around} {env : Env} {h₀ : Heap} {Z₀ : Addr → Prop} {H : List (Addr × Obj)} {V : List (Value × PyData)} {Γ : Tab} {h h' : Heap} {Z : Addr → Prop} {m : Str → Option Value}

theorem StW.ext (S : StW C A env h₀ Z₀ H V Γ h Z m) (k : Ext A h h') : StW C A env h₀ Z₀ H V Γ h' Z m where
  i := S.i.keep k
  b0 := S.b0
  keep := S.keep.trans k
  z0 := S.z0
  zl := S.zl
  nl := S.nl
  zc := S.zc
  cd := S.cd
  hs := fun p hp => ⟨k.at (S.hs p hp).1 (S.hs p hp).2.2, (S.hs p hp).2⟩
  vs := fun p hp => (S.vs p hp).keep k
  ow := S.ow
  rg := S.rg
theorem St.ext {s₀ s s' : Shared} (S : St C A env s₀ Z₀ H V Γ s) (k : Kp A s s') : St C A env s₀ Z₀ H V Γ s' := let ⟨ss, Z, m, S⟩ := S; ⟨ss.trans k.toSame, Z, m, S.ext k.ext⟩

theorem StW.sub {Γ' : Tab} (S : StW C A env h₀ Z₀ H V Γ h Z m) (hs : ∀ x e, Γ'.lookup x = some e → Γ.lookup x = some e) : StW C A env h₀ Z₀ H V Γ' h Z m where
  i := ⟨S.i.fn, S.i.vars, fun x e l => S.i.ents x e (hs x e l), S.i.base, S.i.z, S.i.fr, S.i.zc, S.i.cd⟩
  b0 := S.b0
  keep := S.keep
  z0 := S.z0
  zl := S.zl
  nl := S.nl
  zc := S.zc
  cd := S.cd
  hs := S.hs
  vs := S.vs
  ow := fun x ds a l e => ⟨(S.ow x ds a (hs _ _ l) e).1, fun y es l' e' => (S.ow x ds a (hs _ _ l) e).2 y es (hs _ _ l') e'⟩
  rg := fun x a R l => ⟨(S.rg x a R (hs _ _ l)).1, fun y ds l' => (S.rg x a R (hs _ _ l)).2.1 y ds (hs _ _ l'), fun y b R' l' => (S.rg x a R (hs _ _ l)).2.2 y b R' (hs _ _ l')⟩

theorem entOk_mut {a : Addr} {v : Option Value} {e : Ent} (za : Z a) (n0 : ¬ Z₀ a) (sb : Heap.SameBut a h h') (hne : ∀ ds b, e = .own ds → v = some (.ref b) → b ≠ a) (hnr : ∀ b R, e = .reg b R → ∀ p ∈ R, p.1 ≠ a) (x : EntOk C Z₀ Z h v e) : EntOk C Z₀ Z h' v e := by
  cases v with
  | none => exact x
  | some v =>
    cases e with
    | fz d => exact Rd.keepZ (fun b o nz e => (sb.2 b (by rintro rfl; exact nz za)).trans e) x
    | bor d => exact Rd.keepZ (fun b o nz e => (sb.2 b (by rintro rfl; exact nz ⟨za, n0⟩)).trans e) x
    | own ds =>
      obtain ⟨b, vs, n, rfl, e, z, r⟩ := x
      exact ⟨b, vs, n, rfl, (sb.2 b (hne ds b rfl rfl)).trans e, z, r.keepZ fun b o nz e => (sb.2 b (by rintro rfl; exact nz za)).trans e⟩
    | any => trivial
    | reg b R => exact ⟨x.1, fun p hp => let ⟨e, r⟩ := x.2 p hp; ⟨(sb.2 p.1 (hnr b R rfl p hp)).trans e, r⟩⟩

theorem lookup_cons_ne {x y : Str} {e : Ent} (hne : y ≠ x) : List.lookup y ((x, e) :: Γ) = Γ.lookup y := by
  rw [List.lookup_cons]
  have : (y == x) = false := by simpa using hne
  rw [this]
theorem lookup_cons_eq {x : Str} {e : Ent} : List.lookup x ((x, e) :: Γ) = some e := by
  rw [List.lookup_cons]; simp

noncomputable def upd (m : Str → Option Value) (x : Str) (v : Value) : Str → Option Value := fun y => if y = x then some v else m y

theorem StW.mut {a : Addr} {x : Str} {v : Value} {en : Ent} {o : Obj} (S : StW C A env h₀ Z₀ H V Γ h Z m) (za : Z a) (na : h₀.get? a = none) (sb : Heap.SameBut a h h') (ha' : h'.get? a = some o) (hfr : FrOk A h')
    (hno : ∀ y ds, y ≠ x → Γ.lookup y = some (.own ds) → m y ≠ some (.ref a))
    (hnr : ∀ y b R, y ≠ x → Γ.lookup y = some (.reg b R) → ∀ p ∈ R, p.1 ≠ a)
    (hv : Vars env h' (upd m x v)) (he : EntOk C Z₀ Z h' (some v) en)
    (hown : ∀ ds, en = .own ds → ∀ b, v = .ref b → h₀.get? b = none ∧ ∀ y es, y ≠ x → Γ.lookup y = some (.own es) → m y ≠ some (.ref b))
    (hown' : ∀ ds, en = .own ds → ∀ b, v = .ref b → ∀ y c R, y ≠ x → Γ.lookup y = some (.reg c R) → ∀ p ∈ R, p.1 ≠ b)
    (hreg : ∀ b R, en = .reg b R → (∀ p ∈ R, h₀.get? p.1 = none ∧ p.1 ≠ env.locals ∧ ∀ y c, env.cells.lookup y = some c → c ≠ p.1) ∧ (∀ y ds, y ≠ x → Γ.lookup y = some (.own ds) → ∀ p ∈ R, m y ≠ some (.ref p.1)) ∧ ∀ y c R', y ≠ x → Γ.lookup y ≠ some (.reg c R')) :
    StW C A env h₀ Z₀ H V ((x, en) :: Γ) h' Z (upd m x v) := by
  have n0 : ¬ Z₀ a := fun q => by obtain ⟨_, o, e⟩ := S.z0 a q; rw [na] at e; cases e
  have kz : ∀ b o, ¬ Z b → h.get? b = some o → h'.get? b = some o := fun b o nz e => (sb.2 b (by rintro rfl; exact nz za)).trans e
  have keep' : Ext A h₀ h' := S.keep.mutOf na fun b o hb e => (sb.2 b hb).trans e
  refine ⟨⟨S.i.fn, hv, fun y e l => ?_, S.b0.keep keep', ⟨fun b z => ?_, S.i.z.k⟩, hfr, S.i.zc, S.i.cd⟩, S.b0, keep', S.z0, S.zl, S.nl, S.zc, S.cd, fun p hp => ?_, fun p hp => (S.vs p hp).keepZ kz, fun y ds b l e => ?_, fun y b R l => ?_⟩
  · by_cases hyx : y = x
    · subst hyx
      rw [lookup_cons_eq] at l; cases l
      simp only [upd, if_true]; exact he
    · rw [lookup_cons_ne hyx] at l
      simp only [upd, if_neg hyx]
      refine entOk_mut za n0 sb (fun ds b e1 e2 e3 => ?_) (fun b R e1 => ?_) (S.i.ents y e l)
      · subst e1 e3
        exact hno y ds hyx l e2
      · subst e1
        exact hnr y b R hyx l
  · by_cases hb : b = a
    · subst hb; exact ⟨o, ha'⟩
    · obtain ⟨o, e⟩ := S.i.z.st b z
      exact ⟨o, (sb.2 b hb).trans e⟩
  · obtain ⟨e, d⟩ := S.hs p hp
    exact ⟨(sb.2 p.1 fun (q : p.1 = a) => d.1 (by rw [q]; exact za)).trans e, d⟩
  · by_cases hyx : y = x
    · subst hyx
      rw [lookup_cons_eq] at l
      simp only [upd, if_true] at e
      cases l; cases e
      obtain ⟨q1, q2⟩ := hown ds rfl b rfl
      refine ⟨q1, fun z es l' e' => ?_⟩
      by_cases hz : z = y
      · exact hz
      · rw [lookup_cons_ne hz] at l'
        simp only [upd, if_neg hz] at e'
        exact absurd e' (q2 z es hz l')
    · rw [lookup_cons_ne hyx] at l
      simp only [upd, if_neg hyx] at e
      obtain ⟨q1, q2⟩ := S.ow y ds b l e
      refine ⟨q1, fun z es l' e' => ?_⟩
      by_cases hz : z = x
      · subst hz
        rw [lookup_cons_eq] at l'
        simp only [upd, if_true] at e'
        cases l'; cases e'
        exact absurd e ((hown es rfl b rfl).2 y ds hyx l)
      · rw [lookup_cons_ne hz] at l'
        simp only [upd, if_neg hz] at e'
        exact q2 z es l' e'
  · by_cases hyx : y = x
    · subst hyx
      rw [lookup_cons_eq] at l
      cases l
      obtain ⟨q1, q2, q3⟩ := hreg b R rfl
      refine ⟨q1, fun z ds l' p hp => ?_, fun z c R' l' => ?_⟩
      · by_cases hz : z = y
        · subst hz; rw [lookup_cons_eq] at l'; cases l'
        · rw [lookup_cons_ne hz] at l'
          simp only [upd, if_neg hz]
          exact q2 z ds hz l' p hp
      · by_cases hz : z = y
        · exact hz
        · rw [lookup_cons_ne hz] at l'
          exact absurd l' (q3 z c R' hz)
    · rw [lookup_cons_ne hyx] at l
      obtain ⟨q1, q2, q3⟩ := S.rg y b R l
      refine ⟨q1, fun z ds l' p hp => ?_, fun z c R' l' => ?_⟩
      · by_cases hz : z = x
        · subst hz
          rw [lookup_cons_eq] at l'; cases l'
          simp only [upd, if_true]
          intro q
          cases q
          exact hown' ds rfl _ rfl y b R hyx l p hp rfl
        · rw [lookup_cons_ne hz] at l'
          simp only [upd, if_neg hz]
          exact q2 z ds l' p hp
      · by_cases hz : z = x
        · subst hz
          rw [lookup_cons_eq] at l'; cases l'
          exact absurd l ((hreg c R' rfl).2.2 y b R hyx)
        · rw [lookup_cons_ne hz] at l'
          exact q3 z c R' l'

theorem vars_local {x : Str} {v : Value} {ml : Str → Option Value} (V : Vars env h m) (hk : env.kindOf x = some .local) (hc : env.cells.lookup x = none) (hn : h'.Ns env.locals ml) (hml : ∀ y, env.kindOf y = some .local → ml y = upd m x v y)
    (sb : Heap.SameBut env.locals h h') (hlc : ∀ y c, env.cells.lookup y = some c → c ≠ env.locals) (hx : x ≠ ".acc") : Vars env h' (upd m x v) where
  loc := ⟨ml, hn, hml⟩
  cel := fun y c e => by
    have hyx : y ≠ x := by rintro rfl; rw [hc] at e; cases e
    simp only [upd, if_neg hyx]
    exact (V.cel y c e).sameBut sb (hlc y c e)
  hid := fun u q => V.hid u (by simpa [upd, Ne.symm hx] using q)

noncomputable def isLoc (env : Env) (x : Str) : Bool :=
  match env.kindOf x with
  | some .local => (env.cells.lookup x).isNone
  | some .cell => (env.cells.lookup x).isSome
  | _ => false

theorem StW.storeR {E : Value → Shared → Prop} {s : Shared} {x : Str} {v : Value} {en : Ent} {Q : Unit → Shared → Prop} (S : StW C A env h₀ Z₀ H V Γ s.heap Z m) (hx : isLoc env x = true) (oc : ∀ c, env.cells.lookup x = some c → h₀.get? c = none)
    (he : ∀ h', (∀ b o, ¬ Z b ∨ (∃ vs n, o = listO vs n) → s.heap.get? b = some o → h'.get? b = some o) → (∀ b o, b ≠ env.locals → (∀ y c, env.cells.lookup y = some c → c ≠ b) → s.heap.get? b = some o → h'.get? b = some o) → EntOk C Z₀ Z h' (some v) en)
    (hown : ∀ ds, en = .own ds → ∀ b, v = .ref b → h₀.get? b = none ∧ ∀ y es, y ≠ x → Γ.lookup y = some (.own es) → m y ≠ some (.ref b))
    (hown' : ∀ ds, en = .own ds → ∀ b, v = .ref b → ∀ y c R, y ≠ x → Γ.lookup y = some (.reg c R) → ∀ p ∈ R, p.1 ≠ b)
    (hreg : ∀ b R, en = .reg b R → (∀ p ∈ R, h₀.get? p.1 = none ∧ p.1 ≠ env.locals ∧ ∀ y c, env.cells.lookup y = some c → c ≠ p.1) ∧ (∀ y ds, y ≠ x → Γ.lookup y = some (.own ds) → ∀ p ∈ R, m y ≠ some (.ref p.1)) ∧ ∀ y c R', y ≠ x → Γ.lookup y ≠ some (.reg c R'))
    (k : ∀ h' tk, (∀ b o, b ≠ env.locals → (∀ c, env.cells.lookup x = some c → b ≠ c) → s.heap.get? b = some o → h'.get? b = some o) → StW C A env h₀ Z₀ H V ((x, en) :: Γ) h' Z (upd m x v) → Q () { s with heap := h', toks := tk }) : wpAny C.M A (storeName env x v) Q E s := by
  unfold isLoc at hx
  have hcl : ∀ y c, env.cells.lookup y = some c → c ≠ env.locals := fun y c e q => by
    obtain ⟨ml, hn, _⟩ := S.i.vars.loc
    obtain ⟨o, es, ep, ho, hd, _⟩ := hn
    obtain ⟨o', ho', hd'⟩ := S.i.vars.cel y c e
    rw [q, ho] at ho'; cases ho'; rw [hd] at hd'; cases hd'
  split at hx
  · rename_i hk
    have hc : env.cells.lookup x = none := by simpa using hx
    obtain ⟨ml, hn, hm⟩ := S.i.vars.loc
    rw [storeName_local hk (by rw [S.i.fn.kind]; rfl)]
    refine nsSet_cls hn fun h' hn' sb hcls => k h' _ (fun b o hb _ e => (sb.2 b hb).trans e) ?_
    obtain ⟨o, es, ep, ho, hd, _⟩ := id hn
    obtain ⟨o', es', ep', ho', hd', _⟩ := id hn'
    refine S.mut (a := env.locals) S.zl S.nl sb ho' (S.i.fr.mut (fun b o hb e => (sb.2 b hb).trans e) fun o₂ es₂ ep₂ e2 _ => by obtain ⟨o₃, q1, q2⟩ := hcls o₂ e2; rw [ho'] at q1; cases q1; exact ⟨o', ho', q2, es', ep', hd'⟩) (fun y ds hy l e => ?_) (fun y b R hy l p hp => ((S.rg y b R l).1 p hp).2.1) (vars_local S.i.vars hk hc hn' (fun y hy => ?_) sb hcl (by rintro rfl; rw [S.i.fn.acc] at hk; cases hk)) (he h' (fun b o₂ hb e => (sb.2 b ?_).trans e) fun b o₂ hb _ e => (sb.2 b hb).trans e) hown hown' hreg
    · have := S.i.ents y _ l
      rw [e] at this
      obtain ⟨b, vs, n, e1, e2, _⟩ := this
      cases e1; rw [ho] at e2; cases e2; cases hd
    · by_cases hyx : y = x
      · simp [upd, hyx]
      · simp [upd, hyx, hm y hy]
    · rintro rfl
      rcases hb with hb | ⟨vs, n, rfl⟩
      · exact hb S.zl
      · rw [ho] at e; cases e; cases hd
  · rename_i hk
    obtain ⟨c, hc⟩ := Option.isSome_iff_exists.mp hx
    have hcell := S.i.vars.cel x c hc
    have zc := S.zc x c hc
    have nc := oc c hc
    refine wpAny_storeName_cell S.i.fn.kind hk hc hcell fun h' hc' sb => k h' _ (fun b o _ hb e => (sb.2 b (hb c hc)).trans e) ?_
    obtain ⟨o, ho, hd⟩ := id hcell
    obtain ⟨o', ho', hd'⟩ := id hc'
    refine S.mut (a := c) zc nc sb ho' (S.i.fr.mut (fun b o hb e => (sb.2 b hb).trans e) fun o₂ es₂ ep₂ e2 q => by rw [ho] at e2; cases e2; rw [hd] at q; cases q) (fun y ds hy l e => ?_) (fun y b R hy l p hp q => ((S.rg y b R l).1 p hp).2.2 x c hc q.symm) ⟨?_, fun y c' e => ?_, fun u q => S.i.vars.hid u (by have hx' : x ≠ ".acc" := (by rintro rfl; rw [S.i.fn.acc] at hk; cases hk); simpa [upd, Ne.symm hx'] using q)⟩ (he h' (fun b o₂ hb e => (sb.2 b ?_).trans e) fun b o₂ _ hb e => (sb.2 b fun q => hb x c hc q.symm).trans e) hown hown' hreg
    · have := S.i.ents y _ l
      rw [e] at this
      obtain ⟨b, vs, n, e1, e2, _⟩ := this
      cases e1; rw [ho] at e2; cases e2; cases hd
    · obtain ⟨ml, hn, hm⟩ := S.i.vars.loc
      refine ⟨ml, hn.sameBut sb (Ne.symm (hcl x c hc)), fun y hy => ?_⟩
      have hyx : y ≠ x := by rintro rfl; rw [hk] at hy; cases hy
      simp [upd, hyx, hm y hy]
    · by_cases hyx : y = x
      · subst hyx
        rw [hc] at e; cases e
        simpa [upd] using hc'
      · simp only [upd, if_neg hyx]
        exact (S.i.vars.cel y c' e).sameBut sb fun q => hyx (S.cd y x c (q ▸ e) hc)
    · rintro rfl
      rcases hb with hb | ⟨vs, n, rfl⟩
      · exact hb zc
      · rw [ho] at e; cases e; cases hd
  · cases hx

theorem StW.storeK {E : Value → Shared → Prop} {s : Shared} {x : Str} {v : Value} {en : Ent} {Q : Unit → Shared → Prop} (S : StW C A env h₀ Z₀ H V Γ s.heap Z m) (hx : isLoc env x = true) (oc : ∀ c, env.cells.lookup x = some c → h₀.get? c = none)
    (he : ∀ h', (∀ b o, ¬ Z b ∨ (∃ vs n, o = listO vs n) → s.heap.get? b = some o → h'.get? b = some o) → EntOk C Z₀ Z h' (some v) en)
    (hown : ∀ ds, en = .own ds → ∀ b, v = .ref b → h₀.get? b = none ∧ ∀ y es, y ≠ x → Γ.lookup y = some (.own es) → m y ≠ some (.ref b))
    (hown' : ∀ ds, en = .own ds → ∀ b, v = .ref b → ∀ y c R, y ≠ x → Γ.lookup y = some (.reg c R) → ∀ p ∈ R, p.1 ≠ b) (hnr : ∀ b R, en ≠ .reg b R)
    (k : ∀ h' tk, (∀ b o, b ≠ env.locals → (∀ c, env.cells.lookup x = some c → b ≠ c) → s.heap.get? b = some o → h'.get? b = some o) → StW C A env h₀ Z₀ H V ((x, en) :: Γ) h' Z (upd m x v) → Q () { s with heap := h', toks := tk }) : wpAny C.M A (storeName env x v) Q E s :=
  S.storeR hx oc (fun h' a _ => he h' a) hown hown' (fun b R q => absurd q (hnr b R)) k

theorem StW.store {E : Value → Shared → Prop} {s : Shared} {x : Str} {v : Value} {en : Ent} {Q : Unit → Shared → Prop} (S : StW C A env h₀ Z₀ H V Γ s.heap Z m) (hx : isLoc env x = true) (oc : ∀ c, env.cells.lookup x = some c → h₀.get? c = none)
    (he : ∀ h', (∀ b o, ¬ Z b ∨ (∃ vs n, o = listO vs n) → s.heap.get? b = some o → h'.get? b = some o) → EntOk C Z₀ Z h' (some v) en)
    (hown : ∀ ds, en = .own ds → ∀ b, v = .ref b → h₀.get? b = none ∧ ∀ y es, y ≠ x → Γ.lookup y = some (.own es) → m y ≠ some (.ref b))
    (hown' : ∀ ds, en = .own ds → ∀ b, v = .ref b → ∀ y c R, y ≠ x → Γ.lookup y = some (.reg c R) → ∀ p ∈ R, p.1 ≠ b) (hnr : ∀ b R, en ≠ .reg b R)
    (k : ∀ h' tk, StW C A env h₀ Z₀ H V ((x, en) :: Γ) h' Z (upd m x v) → Q () { s with heap := h', toks := tk }) : wpAny C.M A (storeName env x v) Q E s :=
  S.storeK hx oc he hown hown' hnr fun h' tk _ S' => k h' tk S'

theorem StW.storeFz {E : Value → Shared → Prop} {s : Shared} {x : Str} {v : Value} {d : PyData} {Q : Unit → Shared → Prop} (S : StW C A env h₀ Z₀ H V Γ s.heap Z m) (hx : isLoc env x = true) (oc : ∀ c, env.cells.lookup x = some c → h₀.get? c = none) (r : Rd C.prog C.w Z s.heap v d)
    (k : ∀ h' tk, StW C A env h₀ Z₀ H V ((x, .fz d) :: Γ) h' Z (upd m x v) → Q () { s with heap := h', toks := tk }) : wpAny C.M A (storeName env x v) Q E s :=
  S.store (en := .fz d) hx oc (fun h' hk => Rd.keepZ (fun b o nz e => hk b o (.inl nz) e) r) (fun ds q => nomatch q) (fun ds q => nomatch q) (fun b R q => nomatch q) k

theorem StW.growE {a : Addr} {o : Obj} (S : StW C A env h₀ Z₀ H V Γ h Z m) (k : Ext A h h') (hnone : h.get? a = none) (ha : h'.get? a = some o) : StW C A env h₀ Z₀ H V Γ h' (fun b => Z b ∨ b = a) m := by
  have hz : ∀ b o, h.get? b = some o → (Z b ∨ b = a) → Z b := fun b o e q => q.elim id fun q => by rw [q, hnone] at e; cases e
  have S' := S.ext k
  refine ⟨⟨S.i.fn, S'.i.vars, fun x e l => ?_, S'.i.base, ⟨fun b q => ?_, fun b q => ?_⟩, S'.i.fr, fun x c e => .inl (S.zc x c e), S.cd⟩, S.b0, S'.keep, fun b q => ⟨.inl (S.z0 b q).1, (S.z0 b q).2⟩, .inl S.zl, S.nl, fun x c e => .inl (S.zc x c e), S.cd, fun p hp => ?_, fun p hp => ((S.vs p hp).reZ hz).keep k, S.ow, S.rg⟩
  · have := S.i.ents x e l
    cases hv : m x with
    | none => rw [hv] at this; exact this
    | some v =>
      rw [hv] at this
      cases e with
      | fz d => exact (Rd.reZ hz this).keep k
      | bor d => exact (Rd.reZ (fun b o e q => ⟨hz b o e q.1, q.2⟩) this).keep k
      | own ds => obtain ⟨b, vs, n, rfl, e, z, r⟩ := this; exact ⟨b, vs, n, rfl, k.at e listO_cls, .inl z, (r.reZ hz).keep k⟩
      | any => trivial
      | reg b R => exact ⟨this.1, fun p hp => let ⟨e, z, c, f⟩ := this.2 p hp; ⟨k.at e c, .inl z, c, f⟩⟩
  · rcases q with q | rfl
    · exact S'.i.z.st b q
    · exact ⟨o, ha⟩
  · rcases q with q | rfl
    · exact S.i.z.k b q
    · cases e : C.K.lookup b with
      | none => rfl
      | some o' => have := S.i.base.k _ _ e; rw [hnone] at this; cases this
  · obtain ⟨e, d⟩ := S.hs p hp
    exact ⟨k.at e d.2, fun q => d.1 (hz _ _ e q), d.2⟩

theorem StW.grow (S : StW C A env h₀ Z₀ H V Γ h Z m) (o : Obj) (hf : o.isFreed = false) : StW C A env h₀ Z₀ H V Γ (h.push o) (fun b => Z b ∨ b = h.objs.size) m :=
  S.growE (Ext.push o) (Heap.get?_none_of_le (Nat.le_refl _)) (Heap.get?_push_size _ hf)

theorem StW.freeze {x : Str} {ds : List PyData} (S : StW C A env h₀ Z₀ H V Γ h Z m) (l : Γ.lookup x = some (.own ds)) : ∃ Z', StW C A env h₀ Z₀ H V ((x, .fz (.list ds)) :: Γ) h Z' m := by
  have he := S.i.ents x _ l
  cases hv : m x with
  | none => rw [hv] at he; exact he.elim
  | some v =>
    rw [hv] at he
    obtain ⟨a, vs, n, rfl, e, z, r⟩ := he
    obtain ⟨na, uniq⟩ := S.ow x ds a l hv
    have hz : ∀ b o, h.get? b = some o → (Z b ∧ b ≠ a) → Z b := fun b o _ q => q.1
    have hla : env.locals ≠ a := by
      rintro rfl
      obtain ⟨ml, hn, _⟩ := S.i.vars.loc
      obtain ⟨o, es, ep, ho, hd, _⟩ := hn
      rw [ho] at e; cases e; cases hd
    have zc' : ∀ y c, env.cells.lookup y = some c → Z c ∧ c ≠ a := fun y c ec => ⟨S.zc y c ec, fun q => by
      subst q
      obtain ⟨o, ho, hd⟩ := S.i.vars.cel y c ec
      rw [ho] at e; cases e; cases hd⟩
    refine ⟨fun b => Z b ∧ b ≠ a, ⟨S.i.fn, S.i.vars, fun y en ly => ?_, S.i.base, ⟨fun b q => S.i.z.st b q.1, fun b q => S.i.z.k b q.1⟩, S.i.fr, zc', S.cd⟩, S.b0, S.keep, fun b q => ⟨⟨(S.z0 b q).1, fun q' => ?_⟩, (S.z0 b q).2⟩, ⟨S.zl, hla⟩, S.nl, zc', S.cd, fun p hp => ⟨(S.hs p hp).1, fun q => (S.hs p hp).2.1 q.1, (S.hs p hp).2.2⟩, fun p hp => (S.vs p hp).reZ hz, fun y es b ly eb => ?_, fun y b R ly => ?_⟩
    · by_cases hyx : y = x
      · subst hyx
        rw [lookup_cons_eq] at ly; cases ly
        rw [hv]
        exact .list e (fun q => q.2 rfl) (r.reZ hz)
      · rw [lookup_cons_ne hyx] at ly
        have := S.i.ents y en ly
        cases hvy : m y with
        | none => rw [hvy] at this; exact this
        | some v =>
          rw [hvy] at this
          cases en with
          | fz d => exact Rd.reZ hz this
          | bor d => exact Rd.reZ (fun b o e q => ⟨q.1.1, q.2⟩) this
          | own es =>
            obtain ⟨b, us, n', rfl, e', z', r'⟩ := this
            exact ⟨b, us, n', rfl, e', ⟨z', by rintro rfl; exact hyx (uniq y es ly hvy)⟩, r'.reZ hz⟩
          | any => trivial
          | reg b R => exact ⟨this.1, fun p hp => let ⟨e, z, c, f⟩ := this.2 p hp; ⟨e, ⟨z, fun q => (S.rg y b R ly).2.1 x ds l p hp (by rw [hv, q])⟩, c, f⟩⟩
    · subst q'
      obtain ⟨_, o, e'⟩ := S.z0 b q; rw [na] at e'; cases e'
    · by_cases hyx : y = x
      · subst hyx; rw [lookup_cons_eq] at ly; cases ly
      · rw [lookup_cons_ne hyx] at ly
        obtain ⟨q1, q2⟩ := S.ow y es b ly eb
        refine ⟨q1, fun w' fs lw ew => ?_⟩
        by_cases hwx : w' = x
        · subst hwx; rw [lookup_cons_eq] at lw; cases lw
        · rw [lookup_cons_ne hwx] at lw; exact q2 w' fs lw ew
    · have hyx : y ≠ x := by rintro rfl; rw [lookup_cons_eq] at ly; cases ly
      rw [lookup_cons_ne hyx] at ly
      obtain ⟨q1, q2, q3⟩ := S.rg y b R ly
      refine ⟨q1, fun w' fs lw p hp => ?_, fun w' c R' lw => ?_⟩
      · by_cases hwx : w' = x
        · subst hwx; rw [lookup_cons_eq] at lw; cases lw
        · rw [lookup_cons_ne hwx] at lw; exact q2 w' fs lw p hp
      · by_cases hwx : w' = x
        · subst hwx; rw [lookup_cons_eq] at lw; cases lw
        · rw [lookup_cons_ne hwx] at lw; exact q3 w' c R' lw
theorem St.freeze {s₀ s : Shared} {x : Str} {ds : List PyData} (S : St C A env s₀ Z₀ H V Γ s) (l : Γ.lookup x = some (.own ds)) : St C A env s₀ Z₀ H V ((x, .fz (.list ds)) :: Γ) s := by
  obtain ⟨ss, Z, m, S⟩ := S
  obtain ⟨Z', S'⟩ := S.freeze l
  exact ⟨ss, Z', m, S'⟩

theorem StW.regNew {x : Str} {a b : Addr} {R : List (Addr × Obj)} {p : Addr × Obj} (S : StW C A env h₀ Z₀ H V Γ h Z m) (l : Γ.lookup x = some (.reg a R)) (hp : p ∈ R) (hn : h.get? b = none) (hq : p.1 = b) : False := by
  have := S.i.ents x _ l
  cases hv : m x with
  | none => rw [hv] at this; exact this
  | some v =>
    rw [hv] at this
    have e := (this.2 p hp).1
    rw [hq, hn] at e; cases e

theorem upd_self {x : Str} {v : Value} (hv : m x = some v) : upd m x v = m := by
  funext y
  by_cases h : y = x
  · simp [upd, h, hv]
  · simp [upd, h]

theorem StW.append {E : Value → Shared → Prop} {s : Shared} {x : Str} {ds : List PyData} {d : PyData} {v u : Value} {Q : Value → Shared → Prop} (S : StW C A env h₀ Z₀ H V Γ s.heap Z m) (l : Γ.lookup x = some (.own ds)) (hv : m x = some v) (hsz : ds.length ≤ sizeLine)
    (r : Rd C.prog C.w Z s.heap u d) (k : ∀ a h', v = .ref a → StW C A env h₀ Z₀ H V ((x, .own (ds ++ [d])) :: Γ) h' Z m → Q .none { s with heap := h' }) :
    ∃ a items n, v = .ref a ∧ items.size ≤ sizeLine ∧ IsL s.heap a items n ∧ Q .none { s with heap := s.heap.update a (Obj.mapSeq fun xs => xs.push u) } := by
  have he := S.i.ents x _ l
  rw [hv] at he
  obtain ⟨a, vs, n, rfl, e, z, q⟩ := he
  obtain ⟨na, uniq⟩ := S.ow x ds a l hv
  have hlen := q.length
  simp only [Array.length_toList] at hlen
  refine ⟨a, vs, n, rfl, by omega, e, k a _ rfl ?_⟩
  have sb : Heap.SameBut a s.heap (s.heap.update a (Obj.mapSeq fun xs => xs.push u)) := Heap.SameBut.update ..
  have e' : (s.heap.update a (Obj.mapSeq fun xs => xs.push u)).get? a = some (listO (vs.push u) _) := IsL.update e fun xs => xs.push u
  have kz : ∀ b o, ¬ Z b → s.heap.get? b = some o → (s.heap.update a (Obj.mapSeq fun xs => xs.push u)).get? b = some o := fun b o nz e => (sb.2 b (by rintro rfl; exact nz z)).trans e
  have hv' : Vars env (s.heap.update a (Obj.mapSeq fun xs => xs.push u)) m := by
    refine ⟨?_, fun y c ec => ?_, S.i.vars.hid⟩
    · obtain ⟨ml, hn, hm⟩ := S.i.vars.loc
      refine ⟨ml, hn.sameBut sb ?_, hm⟩
      rintro rfl
      obtain ⟨o, es, ep, ho, hd, _⟩ := hn
      rw [ho] at e; cases e; cases hd
    · refine (S.i.vars.cel y c ec).sameBut sb ?_
      rintro rfl
      obtain ⟨o, ho, hd⟩ := S.i.vars.cel y c ec
      rw [ho] at e; cases e; cases hd
  have := S.mut (a := a) (x := x) (v := .ref a) (en := .own (ds ++ [d])) z na sb e' (S.i.fr.mut (fun b o hb e => (sb.2 b hb).trans e) fun o₂ es₂ ep₂ e2 q2 => by rw [e] at e2; cases e2; cases q2) (fun y es hy ly ey => hy (uniq y es ly ey)) (fun y b R hy ly p hp q => (S.rg y b R ly).2.1 x ds l p hp (by rw [hv, q]))
    (by rw [upd_self hv]; exact hv') ⟨a, _, _, rfl, e', z, by rw [Array.toList_push]; exact (q.append (.cons r .nil)).keepZ kz⟩
    (fun es he b hb => by cases hb; exact ⟨na, fun y fs hy ly ey => hy (uniq y fs ly ey)⟩) (fun es he b hb y c R hy ly p hp q => by cases hb; exact (S.rg y c R ly).2.1 x ds l p hp (by rw [hv, q])) (fun b R q => nomatch q)
  rwa [upd_self hv] at this
end
end

section
set_option autoImplicit false
set_option linter.unusedVariables false
open PySem PyProof.Rows

inductive Out where
  | next (Γ : Tab)
  | brk (Γ : Tab)
  | cont (Γ : Tab)
  | ret (d : PyData)
  | own (ds : List PyData)

noncomputable def OutOk (C : Cx) (A : Around) (env : Env) (s₀ : Shared) (Z₀ : Addr → Prop) (H : List (Addr × Obj)) (V : List (Value × PyData)) (s : Shared) : Out → Flow → Prop
  | .next Γ, .next => St C A env s₀ Z₀ H V Γ s
  | .brk Γ, .brk => St C A env s₀ Z₀ H V Γ s
  | .cont Γ, .cont => St C A env s₀ Z₀ H V Γ s
  | .ret d, .ret v => Ext A s₀.heap s.heap ∧ Rd C.prog C.w Z₀ s.heap v d
  | .own ds, .ret v => Ext A s₀.heap s.heap ∧ ∃ a vs n, v = .ref a ∧ s₀.heap.get? a = none ∧ s.heap.get? a = some (listO vs n) ∧ Rds C.prog C.w (fun b => Z₀ b ∨ b = a) s.heap vs.toList ds
  | _, _ => False

noncomputable def Ex (C : Cx) (A : Around) (env : Env) (s₀ : Shared) (Z₀ : Addr → Prop) (E : Value → Shared → Prop) (Γ : Tab) (ss : List Stmt) (Post : Out → Prop) : Prop :=
  ∀ H V s, St C A env s₀ Z₀ H V Γ s → wpAny C.M A (execs ss env) (fun fl s' => Same s s' ∧ ∃ o, Post o ∧ OutOk C A env s₀ Z₀ H V s' o fl) E s
noncomputable def Xs (C : Cx) (A : Around) (env : Env) (s₀ : Shared) (Z₀ : Addr → Prop) (E : Value → Shared → Prop) (Γ : Tab) (st : Stmt) (Post : Out → Prop) : Prop :=
  ∀ H V s, St C A env s₀ Z₀ H V Γ s → wpAny C.M A (exec st env) (fun fl s' => Same s s' ∧ ∃ o, Post o ∧ OutOk C A env s₀ Z₀ H V s' o fl) E s

section
variable {C : Cx} {A : Around} {env : Env} {s₀ : Shared} {Z₀ : Addr → Prop} {E : Value → Shared → Prop} {Γ : Tab} {Post : Out → Prop} {st : Stmt} {rest : List Stmt} {e : Expr} {μ : Bool} {d : PyData}

noncomputable def seqP (C : Cx) (A : Around) (env : Env) (s₀ : Shared) (Z₀ : Addr → Prop) (E : Value → Shared → Prop) (rest : List Stmt) (Post : Out → Prop) : Out → Prop
  | .next Γ' => Ex C A env s₀ Z₀ E Γ' rest Post
  | o => Post o

theorem ex_nil (h : Post (.next Γ)) : Ex C A env s₀ Z₀ E Γ [] Post := fun H V s S => wpAny_execs_nil ⟨Same.refl s, _, h, S⟩
theorem ex_cons (h : Xs C A env s₀ Z₀ E Γ st (seqP C A env s₀ Z₀ E rest Post)) : Ex C A env s₀ Z₀ E Γ (st :: rest) Post := fun H V s S =>
  wpAny_execs_cons (wpAny_mono (h H V s S) (fun fl s' ⟨sm, o, p, ok⟩ => by
    cases fl with
    | next =>
      cases o with
      | next Γ' => exact wpAny_mono (p H V s' ok) (fun fl s'' ⟨sm', o, p, ok⟩ => ⟨sm.trans sm', o, p, ok⟩) fun _ _ x => x
      | _ => exact ok.elim
    | brk => cases o <;> first | exact ok.elim | exact ⟨sm, _, p, ok⟩
    | cont => cases o <;> first | exact ok.elim | exact ⟨sm, _, p, ok⟩
    | ret v => cases o <;> first | exact ok.elim | exact ⟨sm, _, p, ok⟩) fun _ _ x => x)
theorem Ex.mono {ss : List Stmt} {Post' : Out → Prop} (h : Ex C A env s₀ Z₀ E Γ ss Post) (hp : ∀ o, Post o → Post' o) : Ex C A env s₀ Z₀ E Γ ss Post' := fun H V s S =>
  wpAny_mono (h H V s S) (fun fl s' ⟨sm, o, p, ok⟩ => ⟨sm, o, hp o p, ok⟩) fun _ _ x => x

theorem ex_sub {Γ' : Tab} {ss : List Stmt} (hs : ∀ x e, Γ'.lookup x = some e → Γ.lookup x = some e) (h : Ex C A env s₀ Z₀ E Γ' ss Post) : Ex C A env s₀ Z₀ E Γ ss Post := fun H V s S =>
  h H V s (let ⟨ss, Z, m, S⟩ := S; ⟨ss, Z, m, S.sub hs⟩)
theorem ex_freeze {x : Str} {ds : List PyData} {ss : List Stmt} (l : Γ.lookup x = some (.own ds)) (h : Ex C A env s₀ Z₀ E ((x, .fz (.list ds)) :: Γ) ss Post) : Ex C A env s₀ Z₀ E Γ ss Post := fun H V s S => h H V s (S.freeze l)

theorem xs_return {pos : Pos} (h : Ev C A env Γ e true d) (hp : Post (.ret d)) : Xs C A env s₀ Z₀ E Γ (.Return (some e) pos) Post := fun H V s ⟨ss, Z, m, S⟩ =>
  wpAny_Return_some (h.go S.i fun v s' k I' r => ⟨k.toSame, _, hp, S.keep.trans k.ext, Rd.reZ (fun a o _ q => (S.z0 a q).1) r⟩)
theorem xs_if {test : Expr} {body orelse : List Stmt} {pos : Pos} {b : Bool} (h : Cd C A env Γ test b) (h₁ : b = true → Ex C A env s₀ Z₀ E Γ body Post) (h₂ : b = false → Ex C A env s₀ Z₀ E Γ orelse Post) :
    Xs C A env s₀ Z₀ E Γ (.If test body orelse pos) Post := fun H V s ⟨ss, Z, m, S⟩ =>
  wpAny_If (h.go S.i fun s' k I' => by
    cases b with
    | true => exact wpAny_mono (h₁ rfl H V s' ⟨ss.trans k.toSame, Z, m, S.ext k.ext⟩) (fun fl s'' ⟨sm, r⟩ => ⟨k.toSame.trans sm, r⟩) fun _ _ x => x
    | false => exact wpAny_mono (h₂ rfl H V s' ⟨ss.trans k.toSame, Z, m, S.ext k.ext⟩) (fun fl s'' ⟨sm, r⟩ => ⟨k.toSame.trans sm, r⟩) fun _ _ x => x)

noncomputable def As (C : Cx) (A : Around) (env : Env) (s₀ : Shared) (Z₀ : Addr → Prop) (E : Value → Shared → Prop) (Γ : Tab) (t : Expr) (d : PyData) (Γ' : Tab) : Prop :=
  ∀ H V s v, St C A env s₀ Z₀ H ((v, d) :: V) Γ s → wpAny C.M A (assign t env v) (fun _ s' => Same s s' ∧ St C A env s₀ Z₀ H V Γ' s') E s
theorem StW.dropV {C : Cx} {A : Around} {env : Env} {h₀ : Heap} {Z₀ : Addr → Prop} {H : List (Addr × Obj)} {V V' : List (Value × PyData)} {Γ : Tab} {h : Heap} {Z : Addr → Prop} {m : Str → Option Value} (S : StW C A env h₀ Z₀ H V Γ h Z m) (hv : ∀ p ∈ V', p ∈ V) : StW C A env h₀ Z₀ H V' Γ h Z m :=
  { S with vs := fun p hp => S.vs p (hv p hp) }
theorem StW.addV {C : Cx} {A : Around} {env : Env} {h₀ : Heap} {Z₀ : Addr → Prop} {H : List (Addr × Obj)} {V V' : List (Value × PyData)} {Γ : Tab} {h : Heap} {Z : Addr → Prop} {m : Str → Option Value} (S : StW C A env h₀ Z₀ H V Γ h Z m) (hv : ∀ p ∈ V', Rd C.prog C.w Z h p.1 p.2) : StW C A env h₀ Z₀ H (V' ++ V) Γ h Z m :=
  { S with vs := fun p hp => (List.mem_append.mp hp).elim (hv p) (S.vs p) }
theorem StW.dropH {C : Cx} {A : Around} {env : Env} {h₀ : Heap} {Z₀ : Addr → Prop} {H H' : List (Addr × Obj)} {V : List (Value × PyData)} {Γ : Tab} {h : Heap} {Z : Addr → Prop} {m : Str → Option Value} (S : StW C A env h₀ Z₀ H V Γ h Z m) (hv : ∀ p ∈ H', p ∈ H) : StW C A env h₀ Z₀ H' V Γ h Z m :=
  { S with hs := fun p hp => S.hs p (hv p hp) }

theorem as_name {x : Str} {p : Pos} (hx : isLoc env x = true) (hO : Owned env s₀.heap x) : As C A env s₀ Z₀ E Γ (.Name x p) d ((x, .fz d) :: Γ) := fun H V s v ⟨ss, Z, m, S⟩ =>
  wpAny_assign_Name (S.storeFz hx hO (S.vs _ List.mem_cons_self) fun h' tk S' => ⟨⟨h', tk, rfl⟩, ss.trans ⟨h', tk, rfl⟩, Z, _, S'.dropV fun p hp => List.mem_cons_of_mem _ hp⟩)

theorem xs_assign {x : Str} {p pos : Pos} (h : Ev C A env Γ e true d) (hx : isLoc env x = true) (hO : Owned env s₀.heap x) (hs : swapsWith e (some (.Name x p)) pos.line env = pure false) (hp : Post (.next ((x, .fz d) :: Γ))) :
    Xs C A env s₀ Z₀ E Γ (.Assign [.Name x p] e pos) Post := fun H V s ⟨ss, Z, m, S⟩ =>
  wpAny_Assign_Name (h.go S.i fun v s' k I' r => (S.ext k.ext).storeFz hx hO r fun h' tk S' => ⟨k.toSame.trans ⟨h', tk, rfl⟩, _, hp, ss.trans (k.toSame.trans ⟨h', tk, rfl⟩), Z, _, S'⟩) hs

theorem xs_new {x : Str} {p q pos : Pos} (hx : isLoc env x = true) (hO : Owned env s₀.heap x) (hp : Post (.next ((x, .own []) :: Γ))) : Xs C A env s₀ Z₀ E Γ (.Assign [.Name x p] (.List [] q) pos) Post := fun H V s ⟨ss, Z, m, S⟩ => by
  refine wpAny_Assign_Name (List_ (Calls.spliced_nil (wpAny_newList ?_ (by decide)))) rfl
  have hnone : s.heap.get? s.heap.objs.size = none := Heap.get?_none_of_le (Nat.le_refl _)
  have hno : s₀.heap.get? s.heap.objs.size = none := by
    cases e : s₀.heap.get? s.heap.objs.size with
    | none => rfl
    | some o => obtain ⟨o', q, _⟩ := S.keep.stays e; rw [hnone] at q; cases q
  have S' := S.grow (listO #[] 0) rfl
  refine S'.store (s := { s with heap := s.heap.push (listO #[] 0) }) (en := .own []) hx hO (fun h' hk => ⟨s.heap.objs.size, #[], 0, rfl, hk _ _ (.inr ⟨_, _, rfl⟩) (Heap.get?_push_size _ rfl), .inr rfl, .nil⟩) (fun ds q b hb => ?_) (fun ds q b hb y c R hy l p hp' hq => ?_) (fun b R q => nomatch q) fun h' tk S'' => ⟨⟨h', tk, rfl⟩, _, hp, ss.trans ⟨h', tk, rfl⟩, _, _, S''⟩
  · cases hb
    refine ⟨hno, fun y es hy l e => ?_⟩
    have := S.i.ents y _ l
    rw [e] at this
    obtain ⟨a, vs, n, e1, e2, _⟩ := this
    cases e1; rw [hnone] at e2; cases e2
  · cases hb
    exact S.regNew l hp' hnone hq

theorem xs_append {x : Str} {p ap cp pos : Pos} {ds : List PyData} (hx : isVar env x = true) (l : Γ.lookup x = some (.own ds)) (hsz : ds.length ≤ sizeLine) (h : Ev C A env Γ e true d) (hn : notStar e = true) (hline : (ap.endLine == cp.line) = true)
    (hi : interactive env = false) (hp : Post (.next ((x, .own (ds ++ [d])) :: Γ))) : Xs C A env s₀ Z₀ E Γ (.Expr (.Call (.Attribute (.Name x p) "append" ap) [e] [] cp) pos) Post := fun H V s ⟨ss, Z, m, S⟩ => by
  obtain ⟨h1, h2, h3⟩ := isVar_spec hx
  have he := S.i.ents x _ l
  cases hv : m x with
  | none => rw [hv] at he; exact he.elim
  | some v =>
    refine wpAny_Expr ?_ hi rfl
    refine Call_method1 rfl (by rw [starEach_cons hn]; rfl) hline (loadVar S.i h1 hv ?_ h2 h3)
    rw [hv] at he
    obtain ⟨a, vs, n, rfl, e, z, r⟩ := he
    refine ⟨"list", "list.append", F.plainAttrs_list, F.slot_list_append, F.type_list_append, ⟨_, e, rfl⟩, fun b hb => by cases hb; exact ⟨_, e, rfl⟩, P.append_list (h.go S.i fun u s' k I' r' => ?_)⟩
    obtain ⟨a', items, n', e1, e2, e3, q⟩ := (S.ext k.ext).append (E := E) (s := s') (Q := fun v s'' => match v with | .ref _ => False | _ => Same s s'' ∧ ∃ o, Post o ∧ OutOk C A env s₀ Z₀ H V s'' o .next) l hv hsz r' fun a h' _ S' => ⟨k.toSame.trans ⟨h', _, rfl⟩, _, hp, ss.trans (k.toSame.trans ⟨h', _, rfl⟩), Z, m, S'⟩
    cases e1
    exact ⟨items, n', e2, e3, q⟩
end
end

section
set_option autoImplicit false
set_option linter.unusedVariables false
open PySem PyProof.Rows

structure Wk (C : Cx) (A : Around) (I : Addr) (X : List (Addr × Obj)) (V : List (Value × PyData)) (n : Nat) (dat : Nat → PyData) (O : Nat → Obj → Prop) : Prop where
  fld : ∀ i o, O i o → ∃ vs, o.data = .fields vs
  cls : ∀ i o, O i o → o.cls = .type "list_iterator" ∨ o.cls = .type "tuple_iterator" ∨ o.cls = .type "range_iterator"
  item : ∀ i (s : Shared) o (Q : Option Value → Shared → Prop) (E : Value → Shared → Prop), i < n → s.heap.get? I = some o → O i o → (∀ p ∈ X, s.heap.get? p.1 = some p.2) →
    (∀ v h' tk o', (∀ Z h, (∀ p ∈ V, Rd C.prog C.w Z h p.1 p.2) → Rd C.prog C.w Z h v (dat i)) → O (i + 1) o' → h'.get? I = some o' → Heap.ExtBut I s.heap h' → Q (some v) { s with heap := h', toks := tk }) →
    wpAny C.M A (pyNext (.ref I)) Q E s
  done : ∀ (s : Shared) o (Q : Option Value → Shared → Prop) (E : Value → Shared → Prop), s.heap.get? I = some o → O n o → (∀ p ∈ X, s.heap.get? p.1 = some p.2) →
    (∀ h' tk, Heap.ExtBut I s.heap h' → Q none { s with heap := h', toks := tk }) → wpAny C.M A (pyNext (.ref I)) Q E s
  self : ∀ i (s : Shared) o (Q : Value → Shared → Prop) (E : Value → Shared → Prop), s.heap.get? I = some o → O i o → Q (.ref I) s → wpAny C.M A (pyIter (.ref I)) Q E s

theorem Wk.clsF {C : Cx} {A : Around} {I : Addr} {X : List (Addr × Obj)} {V : List (Value × PyData)} {n : Nat} {dat : Nat → PyData} {O : Nat → Obj → Prop} (W : Wk C A I X V n dat O) (i : Nat) (o : Obj) (h : O i o) : o.cls ≠ .type "frame" := by
  rcases W.cls i o h with q | q | q <;> rw [q] <;> decide
noncomputable def Src (C : Cx) (A : Around) (env : Env) (Γ : Tab) (iter : Expr) (n : Nat) (dat : Nat → PyData) : Prop :=
  ∀ E (s : Shared) m Z₀ Z (Q : Value → Shared → Prop), In C A env Z₀ Z Γ m s.heap →
    (∀ (s₁ : Shared) X V O o, Kp A s s₁ → o.isFreed = false → O 0 o → Wk C A s₁.heap.objs.size X V n dat O → (∀ p ∈ X, s₁.heap.get? p.1 = some p.2 ∧ ¬ Z p.1 ∧ p.2.cls ≠ .type "frame") → (∀ p ∈ V, Rd C.prog C.w Z s₁.heap p.1 p.2) →
      Q (.ref s₁.heap.objs.size) { s₁ with heap := s₁.heap.push o }) →
    wpAny C.M A (eval iter env) (fun x s₁ => wpAny C.M A (pyIter x) Q E s₁) E s

section
variable {C : Cx} {A : Around} {env : Env} {Γ : Tab} {e : Expr} {μ : Bool} {d : PyData}

theorem zip_mem {vs : List Value} {ds : List PyData} {Z : Addr → Prop} {h : Heap} (r : Rds C.prog C.w Z h vs ds) : ∀ p ∈ vs.zip ds, Rd C.prog C.w Z h p.1 p.2 := by
  induction vs generalizing ds with
  | nil => intro p hp; cases hp
  | cons v vs ih =>
    cases r with
    | cons a b =>
      intro p hp
      rcases List.mem_cons.mp hp with rfl | hp
      · exact a
      · exact ih b p hp
theorem zip_get {vs : List Value} {ds : List PyData} {i : Nat} {v : Value} {d : PyData} (hv : vs[i]? = some v) (hd : ds[i]? = some d) : (v, d) ∈ vs.zip ds := by
  refine List.mem_of_getElem? (i := i) ?_
  rw [List.getElem?_zip_eq_some]
  exact ⟨hv, hd⟩

theorem wk_list {l I : Addr} {vs : Array Value} {n : Nat} {ds : List PyData} (hh : A.handled = none) (hne : l ≠ I) (hlen : vs.size = ds.length) :
    Wk C A I [(l, listO vs n)] (vs.toList.zip ds) ds.length (fun i => ds.getD i .none) (fun i o => o.cls = .type "list_iterator" ∧ o.data = .fields #[.ref l, .int i 0]) where
  fld := fun i o h => ⟨_, h.2⟩
  cls := fun i o h => .inl h.1
  item := fun i s o Q E hi ho hO hX k => by
    have hl : s.heap.IsList l vs := ⟨_, hX _ List.mem_cons_self, rfl, _, rfl⟩
    have hv : i < vs.size := by omega
    refine wpAny_pyNext_list_item (i := i) (x := vs[i]) ⟨o, ho, hO.1, hO.2⟩ hl (by simp [hv]) fun h' hit sb => ?_
    obtain ⟨o', ho', hc, hd⟩ := hit
    refine k _ h' s.toks o' (fun Z h hV => hV (_, _) (zip_get (i := i) ?_ ?_)) ⟨hc, hd⟩ ho' sb.extBut
    · simp [hv]
    · simp [List.getElem?_eq_getElem hi]
  done := fun s o Q E ho hO hX k => by
    have hl : s.heap.IsList l vs := ⟨_, hX _ List.mem_cons_self, rfl, _, rfl⟩
    exact wpAny_pyNext_list_end (i := ds.length) hh ⟨o, ho, hO.1, hO.2⟩ hl (by simp [hlen]) fun h' he => k h' s.toks he
  self := fun i s o Q E ho hO h => wpAny_pyIter_listiter (i := i) ⟨o, ho, hO.1, hO.2⟩ h

theorem src_list {ds : List PyData} (hh : A.handled = none) (h : Ev C A env Γ e true (.list ds)) : Src C A env Γ e ds.length (fun i => ds.getD i .none) := fun E s m Z₀ Z Q I k =>
  h.go I fun v s' kp I' r => by
    cases r with
    | @list a vs n _ he z q =>
      have hlen := q.length
      simp only [Array.length_toList] at hlen
      have hl : s'.heap.IsList a vs := ⟨_, he, rfl, _, rfl⟩
      exact wpAny_pyIter_list hl (k s' _ _ _ _ kp rfl ⟨rfl, rfl⟩ (wk_list (n := n) hh (Nat.ne_of_lt (Heap.lt_size he)) hlen) (fun p hp => by cases List.mem_singleton.mp hp; exact ⟨he, z, listO_cls⟩) (zip_mem q))

theorem wk_range {I : Addr} (hh : A.handled = none) (a : Int) (n : Nat) :
    Wk C A I [] [] n (fun i => .int (a + i)) (fun i o => o = { cls := .type "range_iterator", dict := none, data := .fields #[rawInt (a + i), rawInt ((n : Int) - i), rawInt 1], slots := #[] }) where
  fld := fun i o h => by subst h; exact ⟨_, rfl⟩
  cls := fun i o h => by subst h; exact .inr (.inr rfl)
  item := fun i s o Q E hi ho hO hX k => by
    subst hO
    refine wpAny_pyNext_range_item ho (by omega) fun h' hit sb => ?_
    refine k _ h' _ _ (fun Z h hV => .int _ _) rfl ?_ sb.extBut
    have e : (a + (i : Int) + 1) = a + ((i + 1 : Nat) : Int) := by omega
    have e' : ((n : Int) - (i : Int) - 1) = (n : Int) - ((i + 1 : Nat) : Int) := by omega
    rw [← e, ← e']; exact hit
  done := fun s o Q E ho hO hX k => by
    subst hO
    exact wpAny_pyNext_range_end hh ho (by omega) fun h' he => k h' s.toks he
  self := fun i s o Q E ho hO h => by subst hO; exact wpAny_pyIter_rangeiter ho h

theorem StW.iterDone {h₀ : Heap} {Z₀ : Addr → Prop} {H : List (Addr × Obj)} {V : List (Value × PyData)} {h h' : Heap} {Z : Addr → Prop} {m : Str → Option Value} {I : Addr} {o : Obj} (S : StW C A env h₀ Z₀ ((I, o) :: H) V Γ h Z m) (nI : h₀.get? I = none) (hf : ∃ vs, o.data = .fields vs)
    (hne : ∀ p ∈ H, p.1 ≠ I) (eb : Heap.ExtBut I h h') : StW C A env h₀ Z₀ H V Γ h' Z m := by
  obtain ⟨hI, zI, _⟩ := S.hs _ List.mem_cons_self
  have kz : ∀ b x, (∀ vs, x.data ≠ .fields vs) → h.get? b = some x → h'.get? b = some x := fun b x nf e => eb b x (by rintro rfl; obtain ⟨us, hus⟩ := hf; rw [hI] at e; cases e; exact nf us hus) e
  have keep' : Ext A h₀ h' := S.keep.mutOf nI fun b o hb e => eb b o hb e
  obtain ⟨vs, hvs⟩ := hf
  refine ⟨⟨S.i.fn, ⟨?_, fun x c ec => ?_, S.i.vars.hid⟩, fun x e l => ?_, S.b0.keep keep', ⟨fun b z => ?_, S.i.z.k⟩, S.i.fr.mut (fun b o hb e => eb b o hb e) fun o₂ es ep e2 q2 => (by rw [hI] at e2; cases e2; rw [hvs] at q2; cases q2), S.i.zc, S.i.cd⟩, S.b0, keep', S.z0, S.zl, S.nl, S.zc, S.cd, fun p hp => ?_, fun p hp => (S.vs p hp).keepD fun b x _ => kz b x, S.ow, S.rg⟩
  · obtain ⟨ml, hn, hm⟩ := S.i.vars.loc
    refine ⟨ml, hn.extBut eb ?_, hm⟩
    rintro rfl
    exact zI S.zl
  · obtain ⟨x', hx, hd⟩ := S.i.vars.cel x c ec
    refine ⟨x', eb c x' ?_ hx, hd⟩
    rintro rfl
    exact zI (S.zc x _ ec)
  · have := S.i.ents x e l
    cases hv : m x with
    | none => rw [hv] at this; exact this
    | some v =>
      rw [hv] at this
      cases e with
      | fz d => exact Rd.keepD (fun b x _ => kz b x) this
      | bor d => exact Rd.keepD (fun b x _ => kz b x) this
      | own ds =>
        obtain ⟨a, us, n, rfl, e, z, r⟩ := this
        refine ⟨a, us, n, rfl, eb a _ ?_ e, z, r.keepD fun b x _ => kz b x⟩
        rintro rfl
        exact zI z
      | any => trivial
      | reg a R => exact ⟨this.1, fun p hp => let ⟨e, z, c, f⟩ := this.2 p hp; ⟨kz _ _ f e, z, c, f⟩⟩
  · obtain ⟨x, e⟩ := S.i.z.st b z; exact ⟨x, eb b x (by rintro rfl; exact zI z) e⟩
  · obtain ⟨e, d⟩ := S.hs p (List.mem_cons_of_mem _ hp)
    exact ⟨eb _ _ (hne p hp) e, d⟩
theorem StW.iter {h₀ : Heap} {Z₀ : Addr → Prop} {H : List (Addr × Obj)} {V : List (Value × PyData)} {h h' : Heap} {Z : Addr → Prop} {m : Str → Option Value} {I : Addr} {o o' : Obj} (S : StW C A env h₀ Z₀ ((I, o) :: H) V Γ h Z m) (nI : h₀.get? I = none) (hf : ∃ vs, o.data = .fields vs)
    (hne : ∀ p ∈ H, p.1 ≠ I) (eb : Heap.ExtBut I h h') (ho' : h'.get? I = some o') (hc' : o'.cls ≠ .type "frame") : StW C A env h₀ Z₀ ((I, o') :: H) V Γ h' Z m := by
  have S' := S.iterDone nI hf hne eb
  refine { S' with hs := fun p hp => ?_ }
  rcases List.mem_cons.mp hp with rfl | hp
  · exact ⟨ho', (S.hs _ List.mem_cons_self).2.1, hc'⟩
  · exact S'.hs p hp

theorem letOwned {target : Expr} {I : Addr} {o : Obj} {v : Value} {s : Shared} {E : Value → Shared → Prop} {Q : Unit → Shared → Prop} (ho : s.heap.get? I = some o) (hc : o.cls = .type "list_iterator" ∨ o.cls = .type "tuple_iterator" ∨ o.cls = .type "range_iterator") (h : Q () s) :
    wpAny C.M A (letOwnedTupleGo target (.ref I) v) Q E s := by
  have key : ∀ (b : Sem Unit), (∀ a, v = .ref a → wpAny C.M A (do
      let o ← load I
      match o.cls, o.data with
      | .type n, .fields vs =>
        if ["enumerate", "zip", "dict_itemiterator", "dict_reverseitemiterator", "odict_iterator", "itertools.zip_longest", "itertools.pairwise"].contains n && vs[0]? == some (rawInt a) then
          rule "for.unpacks-the-owned-tuple"
          updateField I 0 .none
      | _, _ => pure ()) Q E s) := fun _ a _ => by
    refine wpAny_bind (wpAny_load ho ?_)
    rcases hc with hc | hc | hc <;> rw [hc] <;> cases hd : o.data <;> first
      | exact wpAny_pure h
      | (dsimp only; rw [if_neg (by simp [List.contains, List.elem])]; exact wpAny_pure h)
  unfold letOwnedTupleGo
  split
  · cases v with
    | ref a => exact key (pure ()) a rfl
    | _ => exact wpAny_pure h
  · cases v with
    | ref a => exact key (pure ()) a rfl
    | _ => exact wpAny_pure h
  · exact wpAny_pure h

section
variable {s₀ : Shared} {Z₀ : Addr → Prop} {E : Value → Shared → Prop} {Post : Out → Prop}

noncomputable abbrev inLoop (C : Cx) (A : Around) (env : Env) (E : Value → Shared → Prop) : Value → Shared → Prop := notedBy C.M A env fun e s' => cameBackBy C.M A env E e s'

noncomputable def turnP (J : Tab → Prop) (Post : Out → Prop) : Out → Prop
  | .next Γ => J Γ
  | .cont Γ => J Γ
  | .brk Γ => Post (.next Γ)
  | .ret d => Post (.ret d)
  | .own ds => Post (.own ds)

theorem xs_for {k n : Nat} {dat : Nat → PyData} {target iter : Expr} {body : List Stmt} {pos : Pos} (J : Nat → Tab → Prop) (src : Src C A env Γ iter n dat) (hs : ∀ x, foldedSetIterable iter env x = pure x) (h0 : J 0 Γ)
    (turn : ∀ i Γ', i < n → J i Γ' → ∃ Γ'', As C A env s₀ Z₀ (inLoop C A env E) Γ' target (dat i) Γ'' ∧ Ex C A env s₀ Z₀ (inLoop C A env E) Γ'' body (turnP (J (i + 1)) Post))
    (fin : ∀ Γ', J n Γ' → Post (.next Γ')) : Xs C A env s₀ Z₀ E Γ (.For target iter body [] pos) Post := fun H V s ⟨ss, Z, m, S⟩ => by
  refine wpAny_For (src E s m Z₀ Z _ S.i fun s₁ X V' O o kp hfr hO W hX hV => ?_) hs
  have hnone : s₁.heap.get? s₁.heap.objs.size = none := Heap.get?_none_of_le (Nat.le_refl _)
  have S₁ := S.ext kp.ext
  have nI : s₀.heap.get? s₁.heap.objs.size = none := by
    cases e : s₀.heap.get? s₁.heap.objs.size with
    | none => rfl
    | some x => obtain ⟨o', q, _⟩ := S₁.keep.stays e; rw [hnone] at q; cases q
  have hXI : ∀ p ∈ X ++ H, p.1 ≠ s₁.heap.objs.size := fun p hp q => by
    have e : s₁.heap.get? p.1 = some p.2 := (List.mem_append.mp hp).elim (fun hp => (hX p hp).1) fun hp => (S₁.hs p hp).1
    rw [q, hnone] at e; cases e
  generalize hI : s₁.heap.objs.size = I at *
  have S₂ : StW C A env s₀.heap Z₀ ((I, o) :: (X ++ H)) (V' ++ V) Γ (s₁.heap.push o) Z m := by
    have S₂ := (S₁.ext (Ext.push o)).addV (V' := V') fun p hp => (hV p hp).push o
    refine { S₂ with hs := fun p hp => ?_ }
    rcases List.mem_cons.mp hp with rfl | hp
    · refine ⟨?_, hI ▸ S₁.i.z.fresh, W.clsF _ _ hO⟩
      show (s₁.heap.push o).get? I = some o
      rw [← hI]; exact Heap.get?_push_size _ hfr
    · rcases List.mem_append.mp hp with hp | hp
      · exact ⟨Heap.get?_push_of_some _ (hX p hp).1, (hX p hp).2⟩
      · exact S₂.hs p hp
  refine codeAny_forLoop_any (fun kk s' => ∃ i Γ' o, i + kk = n ∧ J i Γ' ∧ Same s s' ∧ O i o ∧ St C A env s₀ Z₀ ((I, o) :: (X ++ H)) (V' ++ V) Γ' s') ?_ n ⟨0, Γ, o, by omega, h0, kp.toSame.trans ⟨_, _, rfl⟩, hO, ss.trans (kp.toSame.trans ⟨_, _, rfl⟩), Z, m, S₂⟩
  rintro kk s' ⟨i, Γ', o, hik, hJ, sm, hO, ss', Z', m', S'⟩
  have hIo := (S'.hs _ List.mem_cons_self).1
  have hXs : ∀ p ∈ X, s'.heap.get? p.1 = some p.2 := fun p hp => (S'.hs p (List.mem_cons_of_mem _ (List.mem_append_left _ hp))).1
  have out : ∀ {s' : Shared} {Γ' : Tab} {o : Obj}, St C A env s₀ Z₀ ((I, o) :: (X ++ H)) (V' ++ V) Γ' s' → St C A env s₀ Z₀ H V Γ' s' := fun ⟨ss, Z, m, S⟩ =>
    ⟨ss, Z, m, (S.dropH fun p hp => List.mem_cons_of_mem _ (List.mem_append_right _ hp)).dropV fun p hp => List.mem_append_right _ hp⟩
  by_cases hi : i < n
  · refine W.item i s' o _ _ hi hIo hO hXs fun v h' tk o' hv hO' ho' eb => ?_
    have S'' := S'.iter nI (W.fld i o hO) hXI eb ho' (W.clsF _ _ hO')
    have hcls := W.cls _ _ hO'
    refine letOwned (s := { s' with heap := h', toks := tk }) ho' hcls ?_
    obtain ⟨Γ'', as, ex⟩ := turn i Γ' hi hJ
    have rv := hv Z' h' fun p hp => S''.vs p (List.mem_append_left _ hp)
    refine wpAny_mono (as ((I, o') :: (X ++ H)) (V' ++ V) { s' with heap := h', toks := tk } v ⟨ss'.trans ⟨h', tk, rfl⟩, Z', m', S''.addV (V' := [(v, dat i)]) fun p hp => by cases List.mem_singleton.mp hp; exact rv⟩) (fun _ s₃ ⟨sm', S₃⟩ => ?_) fun _ _ x => x
    refine wpAny_mono (ex ((I, o') :: (X ++ H)) (V' ++ V) s₃ S₃) (fun fl s₄ ⟨sm'', ou, hp, ok⟩ => ?_) fun _ _ x => x
    have sm4 : Same s s₄ := sm.trans (Same.trans ⟨h', tk, rfl⟩ (sm'.trans sm''))
    cases fl with
    | next => cases ou <;> first | exact ok.elim | exact ⟨kk - 1, by omega, i + 1, _, o', by omega, hp, sm4, hO', ok⟩
    | cont => cases ou <;> first | exact ok.elim | exact ⟨kk - 1, by omega, i + 1, _, o', by omega, hp, sm4, hO', ok⟩
    | brk => cases ou <;> first | exact ok.elim | exact ⟨sm4, _, hp, out ok⟩
    | ret v => cases ou <;> first | exact ok.elim | exact ⟨sm4, _, hp, ok⟩
  · obtain rfl : i = n := by omega
    refine W.done s' o _ _ hIo hO hXs fun h' tk eb => ?_
    refine wpAny_execs_nil ⟨sm.trans ⟨h', tk, rfl⟩, _, fin Γ' hJ, ?_⟩
    have S'' := S'.iterDone nI (W.fld _ o hO) hXI eb
    exact ⟨ss'.trans ⟨h', tk, rfl⟩, Z', m', (S''.dropH fun p hp => List.mem_append_right _ hp).dropV fun p hp => List.mem_append_right _ hp⟩

theorem xs_while {test : Expr} {body : List Stmt} {pos : Pos} (J : Nat → Tab → Prop) (n : Nat) (h0 : J n Γ)
    (turn : ∀ n Γ', J n Γ' → ∃ b, Cd C A env Γ' test b ∧ (b = true → Ex C A env s₀ Z₀ (inLoop C A env E) Γ' body (turnP (fun Γ'' => ∃ m, m < n ∧ J m Γ'') Post)) ∧ (b = false → Post (.next Γ'))) :
    Xs C A env s₀ Z₀ E Γ (.While test body [] pos) Post := fun H V s S => by
  refine wpAny_While (codeAny_whileLoop (fun n s' => ∃ Γ', J n Γ' ∧ Same s s' ∧ St C A env s₀ Z₀ H V Γ' s') ?_ n ⟨Γ, h0, Same.refl s, S⟩)
  rintro n s' ⟨Γ', hJ, sm, ss, Z, m, S'⟩
  obtain ⟨b, hc, h1, h2⟩ := turn n Γ' hJ
  refine hc.go S'.i fun s₂ k I₂ => ?_
  cases b with
  | true =>
    refine wpAny_mono (h1 rfl H V s₂ ⟨ss.trans k.toSame, Z, m, S'.ext k.ext⟩) (fun fl s₃ ⟨sm', o, hp, ok⟩ => ?_) fun _ _ x => x
    have sm3 : Same s s₃ := sm.trans (k.toSame.trans sm')
    cases fl with
    | next => cases o <;> first | exact ok.elim | (obtain ⟨m', hm, hJ'⟩ := hp; exact ⟨m', hm, _, hJ', sm3, ok⟩)
    | cont => cases o <;> first | exact ok.elim | (obtain ⟨m', hm, hJ'⟩ := hp; exact ⟨m', hm, _, hJ', sm3, ok⟩)
    | brk => cases o <;> first | exact ok.elim | exact ⟨sm3, _, hp, ok⟩
    | ret v => cases o <;> first | exact ok.elim | exact ⟨sm3, _, hp, ok⟩
  | false => exact wpAny_execs_nil ⟨sm.trans k.toSame, _, h2 rfl, ss.trans k.toSame, Z, m, S'.ext k.ext⟩
end
end
end

section
set_option autoImplicit false
set_option linter.unusedVariables false
open PySem PyProof.Rows

section
variable {C : Cx} {A : Around} {env : Env} {Γ Γ₁ Γ₂ : Tab} {e e₁ e₂ : Expr} {μ μ₁ μ₂ : Bool} {d : PyData} {s₀ : Shared} {Z₀ : Addr → Prop} {E : Value → Shared → Prop} {Post : Out → Prop}

noncomputable def sliceD (ds : List PyData) (lo hi : Option Int) : List PyData := (ds.drop (lo.elim 0 (clipAt ds.length))).take (hi.elim ds.length (clipAt ds.length) - lo.elim 0 (clipAt ds.length))
noncomputable def EvO (C : Cx) (A : Around) (env : Env) (Γ : Tab) : Option Expr → Option Int → Prop
  | none, none => True
  | some e, some i => ∃ μ, Ev C A env Γ e μ (.int i)
  | _, _ => False
theorem EvO.go {x : Option Expr} {i : Option Int} (h : EvO C A env Γ x i) {s : Shared} {m : Str → Option Value} {Z₀ Z : Addr → Prop} (I : In C A env Z₀ Z Γ m s.heap) {Q : Value → Shared → Prop}
    (k : ∀ v s', Kp A s s' → In C A env Z₀ Z Γ m s'.heap → IsPart v i → Q v s') : wpAny C.M A (evalPart x env) Q E s := by
  cases x with
  | none =>
    cases i with
    | none => exact wpAny_pure (k _ s (Kp.refl s) I .none)
    | some i => exact h.elim
  | some e =>
    cases i with
    | none => exact h.elim
    | some i =>
      obtain ⟨μ, h⟩ := h
      exact h.go I fun v s' kp I' r => by cases r; exact k _ s' kp I' (.int _ _)

theorem ev_slice {lo hi : Option Expr} {i j : Option Int} {p pos : Pos} {ds : List PyData} (h : Ev C A env Γ e μ (.list ds)) (hlo : EvO C A env Γ lo i) (hhi : EvO C A env Γ hi j) (hz : ds.length ≤ sizeLine) :
    Ev C A env Γ (.Subscript e (.Slice lo hi none p) pos) μ (.list (sliceD ds i j)) := fun E s m Z₀ Z I =>
  Subscript_ (h.go I fun v s₁ k₁ I₁ r => wpAny_Slice (hlo.go I₁ fun l s₂ k₂ I₂ pl => hhi.go I₂ fun u s₃ k₃ I₃ pu => by
    rw [evalPart_none]
    refine wpAny_pure ?_
    have r₃ := r.keep (k₂.trans k₃).ext
    cases r₃ with
    | @list a vs n _ he z q =>
      have hlen := q.length
      simp only [Array.length_toList] at hlen
      obtain ⟨ops, ho⟩ := subscripted_ops (.Slice lo hi none p) (.ref a) (.ref s₃.heap.objs.size)
      have hl : (s₃.heap.push { cls := .type "slice", data := .fields #[l, u, .none] }).IsList a vs := ⟨_, Heap.get?_push_of_some _ he, rfl, _, rfl⟩
      refine tail_any (s := { s₃ with heap := s₃.heap.push { cls := .type "slice", data := .fields #[l, u, .none] } }) hl.typeIs slot_list_getitem.lookup (wpAny_getItem_list_slice hl (Heap.IsSliceOf.new ..) pl pu .none (by simp) ?_ (by omega)) ho
      refine ⟨((k₁.trans k₂).trans k₃).trans ((Kp.push s₃ _).trans (Kp.push _ _)), .list (n := 0) (Heap.get?_push_size _ rfl) ?_ ?_⟩
      · exact ((I₃.keep (Ext.push { cls := .type "slice", data := .fields #[l, u, .none] })).sel μ)
      · unfold sliceD
        rw [slicePick_plain, ← hlen]
        exact (((q.drop _).take _).push _).push _))
end
end

section
set_option autoImplicit false
set_option linter.unusedVariables false
open PySem PyProof.Rows

section
variable {C : Cx} {A : Around} {env : Env} {Γ Γ₁ Γ₂ : Tab} {e e₁ e₂ : Expr} {μ μ₁ μ₂ : Bool} {d : PyData} {h₀ : Heap} {Z₀ : Addr → Prop} {E : Value → Shared → Prop} {Post : Out → Prop}

noncomputable def isGlob (env : Env) (x : Str) : Bool := env.kindOf x == some .globalImplicit && !(x == ("__debug__" : Str))
theorem isGlob_spec {x : Str} (h : isGlob env x = true) : env.kindOf x = some .globalImplicit ∧ (x == ("__debug__" : Str)) = false := by
  unfold isGlob at h
  simp only [Bool.and_eq_true, Bool.not_eq_true', beq_iff_eq] at h
  exact h
theorem loadGlob {s : Shared} {m : Str → Option Value} {Z₀ Z : Addr → Prop} {x : Str} {v : Value} {pos : Pos} {Q : Value → Shared → Prop} (I : In C A env Z₀ Z Γ m s.heap) (hx : isGlob env x = true) (hm : C.mg x = some v) (h : Q v s) : wpAny C.M A (eval (.Name x pos) env) Q E s := by
  obtain ⟨h1, h2⟩ := isGlob_spec hx
  exact Calls.Name_function_global I.fn.kind h1 (Calls.loadGlobal_global (by rw [I.fn.glob]; exact I.base.g) hm h) h2
theorem loadBlt {s : Shared} {m : Str → Option Value} {Z₀ Z : Addr → Prop} {x : Str} {v : Value} {pos : Pos} {Q : Value → Shared → Prop} (I : In C A env Z₀ Z Γ m s.heap) (hx : isGlob env x = true) (hm : C.mg x = none) (hb : C.mb x = some v) (h : Q v s) : wpAny C.M A (eval (.Name x pos) env) Q E s := by
  obtain ⟨h1, h2⟩ := isGlob_spec hx
  exact Calls.Name_function_global I.fn.kind h1 (Calls.loadGlobal_builtin (by rw [I.fn.glob]; exact I.base.g) hm (by rw [I.fn.blt]; exact I.base.b) hb h) h2

noncomputable def TopD (C : Cx) (v : Value) (d : PyData) : Prop := ∀ h Z, (∀ a o, C.K.lookup a = some o → h.get? a = some o) → (∀ a, Z a → C.K.lookup a = none) → Rd C.prog C.w Z h v d
theorem In.zsel {m : Str → Option Value} {Z₀ Z : Addr → Prop} {h : Heap} (I : In C A env Z₀ Z Γ m h) (μ : Bool) : Zok C (Mine.sel μ Z) h := by
  cases μ with
  | true => exact I.z
  | false => exact ⟨fun _ q => q.elim, fun _ q => q.elim⟩
theorem ev_glob {x : Str} {v : Value} {pos : Pos} (hx : isGlob env x = true) (hm : C.mg x = some v) (r : TopD C v d) : Ev C A env Γ (.Name x pos) μ d := fun E s m Z₀ Z I =>
  loadGlob I hx hm ⟨Kp.refl s, r _ _ I.base.k (I.zsel μ).k⟩

theorem TopD.none : TopD C .none .none := fun _ _ _ _ => .none
theorem TopD.bool (b : Bool) : TopD C (.bool b) (.bool b) := fun _ _ _ _ => .bool b
theorem TopD.int (i : Int) (t : Tok) : TopD C (.int i t) (.int i) := fun _ _ _ _ => .int i t
theorem TopD.str (x : Str) (t : Tok) (h : PyData.strOk x = true) : TopD C (.str x t) (.str x) := fun _ _ _ _ => .str x t h
noncomputable def TopDs (C : Cx) (vs : List Value) (ds : List PyData) : Prop := ∀ h Z, (∀ a o, C.K.lookup a = some o → h.get? a = some o) → (∀ a, Z a → C.K.lookup a = none) → Rds C.prog C.w Z h vs ds
theorem TopDs.nil : TopDs C [] [] := fun _ _ _ _ => .nil
theorem TopDs.cons {v : Value} {vs : List Value} {ds : List PyData} (a : TopD C v d) (b : TopDs C vs ds) : TopDs C (v :: vs) (d :: ds) := fun h Z x y => .cons (a h Z x y) (b h Z x y)
theorem TopD.tuple {a : Addr} {vs : Array Value} {n : Nat} {ds : List PyData} (hk : C.K.lookup a = some (tupO vs n)) (r : TopDs C vs.toList ds) : TopD C (.ref a) (.tuple ds) := fun h Z x y =>
  .tuple (x _ _ hk) (fun q => by rw [y _ q] at hk; cases hk) (r h Z x y)
theorem TopD.list {a : Addr} {vs : Array Value} {n : Nat} {ds : List PyData} (hk : C.K.lookup a = some (listO vs n)) (r : TopDs C vs.toList ds) : TopD C (.ref a) (.list ds) := fun h Z x y =>
  .list (x _ _ hk) (fun q => by rw [y _ q] at hk; cases hk) (r h Z x y)

noncomputable def FnOk (C : Cx) (k : Nat) (f : Addr) (ds : List PyData) (d : PyData) : Prop :=
  ∀ A E s Z vs, OkA A k → FrOk A s.heap → Base C s.heap → Zok C Z s.heap → Rds C.prog C.w Z s.heap vs ds → wpAny C.M A (call (.ref f) vs []) (fun v s' => Kp A s s' ∧ Rd C.prog C.w Z s'.heap v d) E s

theorem starEach_any {es : List Expr} {pos : Pos} (h : es.all notStar = true) : (backTo pos (starEach es env)).any (·.1) = false := by
  induction es with
  | nil => rfl
  | cons e es ih =>
    simp only [List.all_cons, Bool.and_eq_true] at h
    rw [starEach_cons h.1]
    show (false || (backTo pos (starEach es env)).any (·.1)) = false
    rw [ih h.2]; rfl

theorem Evs.args {a : Expr} {es : List Expr} {ds : List PyData} {f : Value} {pos : Pos} {s : Shared} {m : Str → Option Value} {Z₀ Z : Addr → Prop} {Q : Args → Shared → Prop} (h : Evs C A env Γ (a :: es) μ ds) (hn : notStar a = true) (I : In C A env Z₀ Z Γ m s.heap)
    (k : ∀ vs s', Kp A s s' → In C A env Z₀ Z Γ m s'.heap → Rds C.prog C.w (sel μ Z) s'.heap vs ds → Q ⟨vs, []⟩ s') : wpAny C.M A (evalArgs f true (backTo pos (starEach (a :: es) env)) []) Q E s := by
  have := h.go (E := E) (pos := pos) I (Q := fun vs s' => Q ⟨vs, []⟩ s') k
  rw [starEach_cons hn] at this ⊢
  exact Calls.evalArgs_plain this

theorem ev_call {k : Nat} {x : Str} {f : Addr} {o : Obj} {fd : FuncData} {a : Expr} {es : List Expr} {ds : List PyData} {p pos : Pos} (hA : OkA A k) (hx : isGlob env x = true) (hm : C.mg x = some (.ref f)) (ho : C.K.lookup f = some o) (hf : o.data = .func fd)
    (ha : Evs C A env Γ (a :: es) μ ds) (hn : notStar a = true) (hfn : FnOk C k f ds d) : Ev C A env Γ (.Call (.Name x p) (a :: es) [] pos) μ d := fun E s m Z₀ Z I =>
  Call_Name rfl (loadGlob I hx hm (Calls.callWith_function (ha.args hn I fun vs s' kp I' r => ⟨⟨I'.base.k _ _ ho, hf⟩, by
    rw [List.nil_append]
    exact wpAny_mono (hfn A E s' (sel μ Z) vs hA I'.fr I'.base (I'.zsel μ) r) (fun v s'' ⟨kp', r'⟩ => ⟨kp.trans kp', r'⟩) fun _ _ x => x⟩)))

theorem bindL_not {kindOf : Str → Option NameKind} : ∀ {bs : List (Str × Value)} {m : Str → Option Value} {x : Str}, x ∉ bs.map (·.1) → bindL kindOf bs m x = m x
  | [], _, _, _ => rfl
  | (n, v) :: r, m, x, h => by
    simp only [List.map_cons, List.mem_cons, not_or] at h
    unfold bindL
    rw [bindL_not h.2]
    split
    · simp [h.1]
    · rfl
theorem bindC_not {kindOf : Str → Option NameKind} : ∀ {bs : List (Str × Value)} {m : Str → Option Value} {x : Str}, x ∉ bs.map (·.1) → bindC kindOf bs m x = m x
  | [], _, _, _ => rfl
  | (n, v) :: r, m, x, h => by
    simp only [List.map_cons, List.mem_cons, not_or] at h
    unfold bindC
    rw [bindC_not h.2]
    split
    · rfl
    · simp [h.1]
theorem bindL_at {kindOf : Str → Option NameKind} : ∀ {bs : List (Str × Value)} {m : Str → Option Value} {x : Str} {v : Value}, (bs.map (·.1)).Nodup → kindOf x = some .local → bs.lookup x = some v → bindL kindOf bs m x = some v
  | [], _, _, _, _, _, h => by cases h
  | (n, u) :: r, m, x, v, nd, hk, h => by
    simp only [List.map_cons, List.nodup_cons] at nd
    unfold bindL
    rw [List.lookup_cons] at h
    by_cases hx : x = n
    · subst hx
      simp only [beq_self_eq_true] at h
      cases h
      rw [bindL_not nd.1, if_pos hk]; simp
    · have : (x == n) = false := by simpa using hx
      rw [this] at h
      exact bindL_at nd.2 hk h
theorem bindC_at {kindOf : Str → Option NameKind} : ∀ {bs : List (Str × Value)} {m : Str → Option Value} {x : Str} {v : Value}, (bs.map (·.1)).Nodup → kindOf x ≠ some .local → bs.lookup x = some v → bindC kindOf bs m x = some v
  | [], _, _, _, _, _, h => by cases h
  | (n, u) :: r, m, x, v, nd, hk, h => by
    simp only [List.map_cons, List.nodup_cons] at nd
    unfold bindC
    rw [List.lookup_cons] at h
    by_cases hx : x = n
    · subst hx
      simp only [beq_self_eq_true] at h
      cases h
      rw [bindC_not nd.1, if_neg hk]; simp
    · have : (x == n) = false := by simpa using hx
      rw [this] at h
      exact bindC_at nd.2 hk h

theorem zip_ents {Z : Addr → Prop} {h : Heap} : ∀ {ps : List Str} {vs : List Value} {ds : List PyData} {x : Str} {e : Ent}, Rds C.prog C.w Z h vs ds → (ps.zip (ds.map Ent.fz)).lookup x = some e → ∃ v d, (ps.zip vs).lookup x = some v ∧ e = .fz d ∧ Rd C.prog C.w Z h v d
  | [], _, _, _, _, _, l => by simp at l
  | p :: ps, _, _, x, e, .nil, l => by simp at l
  | p :: ps, _, _, x, e, .cons (v := v) (d := d) a b, l => by
    simp only [List.map_cons, List.zip_cons_cons, List.lookup_cons] at l ⊢
    by_cases hx : x = p
    · have hb : (x == p) = true := by simpa using hx
      rw [hb] at l ⊢
      cases l
      exact ⟨v, d, rfl, rfl, a⟩
    · have hb : (x == p) = false := by simpa using hx
      rw [hb] at l ⊢
      exact zip_ents b l

structure FnDef (C : Cx) (f : Addr) (fd : FuncData) (ps : List Str) (body : List Stmt) : Prop where
  obj : ∃ o, C.K.lookup f = some o ∧ o.data = .func fd
  code : ∀ h, Base C h → h.CodeRec fd.code fd.qualname
  body : fd.body = .stmts body
  clo : fd.closure = []
  glob : fd.globals = mainGlobals
  blt : fd.builtins = builtinsNs
  bind : ∀ vs : List Value, vs.length = ps.length → bindArgs fd ⟨vs, []⟩ = pure (ps.zip vs)
  nd : ps.Nodup
  kinds : (ps.all fun x => fd.scope.names.lookup x == some .local || (fd.scope.names.lookup x == some .cell && ((cellsFrom 0 fd.scope.names []).lookup x).isSome)) = true
  cells : ((cellsFrom 0 fd.scope.names []).all fun p => fd.scope.names.lookup p.1 != some .local) = true
  co : fd.scope.isCoroutine = false
  gen : fd.scope.isGenerator = false
  kind : fd.scope.kind = .function
  acc : fd.scope.names.lookup (".acc" : Str) = none

theorem cellsFrom_keys : ∀ (names : List (Str × NameKind)) (a b : Nat) (acc acc' : List (Str × Addr)), acc.map (·.1) = acc'.map (·.1) → (cellsFrom a names acc).map (·.1) = (cellsFrom b names acc').map (·.1)
  | [], _, _, _, _, h => h
  | (n, k) :: r, a, b, acc, acc', h => by
    unfold cellsFrom
    split
    · exact cellsFrom_keys r _ _ _ _ (by simp [h])
    · exact cellsFrom_keys r _ _ _ _ h
theorem lookup_isSome_iff {α : Type} : ∀ {l : List (Str × α)} {x : Str}, (l.lookup x).isSome = true ↔ x ∈ l.map (·.1)
  | [], x => by simp
  | (k, v) :: r, x => by
    rw [List.lookup_cons]
    by_cases h : x = k
    · have hb : (x == k) = true := by simpa using h
      rw [hb]; simp [h]
    · have hb : (x == k) = false := by simpa using h
      rw [hb]
      show (r.lookup x).isSome = true ↔ _
      rw [lookup_isSome_iff]; simp [h]

theorem Ext.undeeper {A : Around} {env : Env} {h h' : Heap} (x : Ext (A.deeper env) h h') (hn : ∀ L, env.frame = some L → h.get? L = none) : Ext A h h' := fun b o e => by
  rcases x b o e with q | ⟨⟨l, hl, env', he, hf⟩, r⟩
  · exact .inl q
  · refine .inr ⟨?_, r⟩
    have hl' : A.frames.map (env :: ·) = some l := hl
    cases hA : A.frames with
    | none => rw [hA] at hl'; cases hl'
    | some l₀ =>
      rw [hA] at hl'
      cases hl'
      rcases List.mem_cons.mp he with rfl | he
      · rw [hn b hf] at e; cases e
      · exact ⟨l₀, hA, env', he, hf⟩
theorem frOk_call {A : Around} {env : Env} {s s₁ : Shared} {m : Str → Option Value} {A' : Around} (x : FrOk A s.heap) (k : Ext A' s.heap s₁.heap) (ic : s₁.heap.Ns env.locals m) (ifr : ∃ o, s₁.heap.get? env.locals = some o ∧ o.cls = .type "frame") (hf : env.frame = some env.locals) (hk : env.scope.kind = .function) : FrOk (A.deeper env) s₁.heap := by
  obtain ⟨l, hl, hx⟩ := x.keep k
  refine ⟨env :: l, by show A.frames.map (env :: ·) = _; rw [hl]; rfl, fun env' he => ?_⟩
  rcases List.mem_cons.mp he with rfl | he
  · obtain ⟨o, es, ep, ho, hd, _⟩ := ic
    obtain ⟨o', ho', hc'⟩ := ifr
    rw [ho] at ho'; cases ho'
    exact ⟨by rw [hk]; decide, _, o, hf, ho, hc', es, ep, hd⟩
  · exact hx env' he

theorem fn_run {k : Nat} {f : Addr} {fd : FuncData} {ps : List Str} {body : List Stmt} {ds : List PyData} (D : FnDef C f fd ps body) (hlen : ds.length = ps.length) {A : Around} {s : Shared} {Z : Addr → Prop} {vs : List Value} {R : Result → Shared → Prop}
    (hA : OkA A (k + 1)) (hfr : FrOk A s.heap) (B : Base C s.heap) (hz : Zok C Z s.heap) (r : Rds C.prog C.w Z s.heap vs ds)
    (hb : ∀ s₁, (∀ x, Owned (callEnvC fd s.heap.objs.size f) s.heap x) → St C (A.deeper (callEnvC fd s.heap.objs.size f)) (callEnvC fd s.heap.objs.size f) s Z [] [] (ps.zip (ds.map .fz)) s₁ →
      wpAny C.M (A.deeper (callEnvC fd s.heap.objs.size f)) (execs body (callEnvC fd s.heap.objs.size f)) (fun f s' => R (.ok (.ret (match f with | .ret v => v | _ => .none))) s')
        (fun e s' => wpAny C.M (A.deeper (callEnvC fd s.heap.objs.size f)) (leaving (callEnvC fd s.heap.objs.size f) e) (fun _ s'' => R (.error e) s'') (fun e' s'' => R (.error e') s'') s') s₁) :
    codeAny C.M A (.call (.ref f) ⟨vs, []⟩) R s := by
  obtain ⟨o, ho, hd⟩ := D.obj
  have hvl : vs.length = ps.length := by rw [r.length, hlen]
  have hkeys : (ps.zip vs).map (·.1) = ps := by
    rw [← List.unzip_fst, List.unzip_zip (by omega)]
  have hk2 : ∀ (n : Nat) (x : Str), ((cellsFrom n fd.scope.names []).lookup x).isSome = ((cellsFrom 0 fd.scope.names []).lookup x).isSome := fun n x => by
    rw [Bool.eq_iff_iff, lookup_isSome_iff, lookup_isSome_iff, cellsFrom_keys fd.scope.names n 0 [] [] rfl]
  refine callF (by have := hA.dp; omega) (B.k _ _ ho) hd B.lim (D.code _ B) D.body (D.bind vs hvl) D.clo (fun x hx => ?_) (fun s₁ x => ?_) D.co D.gen D.kind
  · have hm : x.1 ∈ ps := by rw [← hkeys]; exact List.mem_map_of_mem hx
    have := List.all_eq_true.mp D.kinds x.1 hm
    simp only [Bool.or_eq_true, Bool.and_eq_true, beq_iff_eq] at this
    rcases this with q | ⟨q, q'⟩
    · exact .inl q
    · exact .inr ⟨q, by rw [hk2]; exact q'⟩
  · obtain ⟨h₁, tk, rfl, keep⟩ := x.c.done
    have hL : (callEnvC fd s.heap.objs.size f).locals = s.heap.objs.size := rfl
    have hnew : ∀ a, s.heap.objs.size ≤ a → s.heap.get? a = none := fun a ha => Heap.get?_none_of_le ha
    have hreZ : ∀ a o, s.heap.get? a = some o → (Z a ∨ (s.heap.get? a = none ∧ ∃ o, h₁.get? a = some o)) → Z a := fun a o e q => q.elim id fun q => by rw [q.1] at e; cases e
    have keepE : Ext (A.deeper (callEnvC fd s.heap.objs.size f)) s.heap h₁ := .of keep
    have S : StW C (A.deeper (callEnvC fd s.heap.objs.size f)) (callEnvC fd s.heap.objs.size f) s.heap Z [] [] (ps.zip (ds.map .fz)) h₁ (fun a => Z a ∨ (s.heap.get? a = none ∧ ∃ o, h₁.get? a = some o))
        (fun y => if (callEnvC fd s.heap.objs.size f).kindOf y = some .local then bindL (callEnvC fd s.heap.objs.size f).kindOf (ps.zip vs) (fun _ => none) y else bindC (callEnvC fd s.heap.objs.size f).kindOf (ps.zip vs) (fun _ => none) y) := by
      have hns := x.c.toInCall.ns
      have zc' : ∀ y c, (callEnvC fd s.heap.objs.size f).cells.lookup y = some c → (Z c ∨ (s.heap.get? c = none ∧ ∃ o, h₁.get? c = some o)) := fun y c hc => by
        have ha := x.c.above y c (mem_of_lookup hc)
        have hn := hnew c (Nat.le_of_lt ha)
        obtain ⟨o, ho, _⟩ := x.c.cell y c hc
        exact .inr ⟨hn, o, ho⟩
      have cd' : ∀ y y' c, (callEnvC fd s.heap.objs.size f).cells.lookup y = some c → (callEnvC fd s.heap.objs.size f).cells.lookup y' = some c → y = y' := fun y y' c hc hc' => name_of_addr x.c.apart (mem_of_lookup hc) (mem_of_lookup hc')
      refine ⟨⟨⟨D.kind, D.glob, D.blt, D.acc⟩, ⟨⟨_, hns, fun y hy => by rw [if_pos hy]⟩, fun y c hc => ?_, fun v q => ?_⟩, fun y e l => ?_, B.keep keepE, ⟨fun a q => ?_, fun a q => ?_⟩, ?_, zc', cd'⟩, B, keepE, fun a q => ⟨.inl q, hz.st a q⟩, .inr ⟨hnew _ (Nat.le_refl _), ?_⟩, hnew _ (Nat.le_refl _), zc', cd', fun p hp => (nomatch hp), fun p hp => (nomatch hp), fun y es a l => ?_, fun y a R l => ?_⟩
      · have hkl : ¬ (callEnvC fd s.heap.objs.size f).kindOf y = some .local := by
          have hy : y ∈ (cellsFrom 0 fd.scope.names []).map (·.1) := by
            rw [cellsFrom_keys fd.scope.names 0 (s.heap.objs.size + 1) [] [] rfl]
            exact List.mem_map_of_mem (f := (·.1)) (mem_of_lookup hc)
          obtain ⟨p, hp, rfl⟩ := List.mem_map.mp hy
          have := List.all_eq_true.mp D.cells p hp
          intro q
          have q' : fd.scope.names.lookup p.1 = some .local := q
          rw [q'] at this
          exact absurd this (by decide)
        rw [if_neg hkl]
        exact x.c.cell y c hc
      · have hna : (".acc" : Str) ∉ (ps.zip vs).map (·.1) := by
          rw [hkeys]
          intro hin
          have := List.all_eq_true.mp D.kinds _ hin
          rw [D.acc] at this
          simp at this
        have hk : ¬ (callEnvC fd s.heap.objs.size f).kindOf ".acc" = some .local := by
          intro q
          have q' : fd.scope.names.lookup (".acc" : Str) = some .local := q
          rw [D.acc] at q'; cases q'
        rw [if_neg hk, bindC_not hna] at q; cases q
      · obtain ⟨v, d', l', rfl, rd⟩ := zip_ents r l
        have nd : ((ps.zip vs).map (·.1)).Nodup := by rw [hkeys]; exact D.nd
        split
        · rename_i hk
          rw [bindL_at nd hk l']
          exact (rd.reZ hreZ).keep keepE
        · rename_i hk
          rw [bindC_at nd hk l']
          exact (rd.reZ hreZ).keep keepE
      · rcases q with q | q
        · obtain ⟨o, e⟩ := hz.st a q; exact ⟨o, keep _ _ e⟩
        · exact q.2
      · rcases q with q | q
        · exact hz.k a q
        · cases e : C.K.lookup a with
          | none => rfl
          | some o => have := B.k _ _ e; rw [q.1] at this; cases this
      · exact frOk_call (s := s) (s₁ := { s with heap := h₁, toks := tk }) hfr keepE x.c.toInCall.ns x.fr rfl D.kind
      · obtain ⟨o, _, _, ho, _⟩ := hns; exact ⟨o, ho⟩
      · obtain ⟨v, d', l', q, _⟩ := zip_ents r l
        cases q
      · obtain ⟨v, d', l', q, _⟩ := zip_ents r l
        cases q
    exact hb { s with heap := h₁, toks := tk } (fun y c hc => hnew c (Nat.le_of_lt (x.c.above y c (mem_of_lookup hc)))) ⟨⟨h₁, tk, rfl⟩, _, _, S⟩

theorem fn_intro {k : Nat} {f : Addr} {fd : FuncData} {ps : List Str} {body : List Stmt} {ds : List PyData} (D : FnDef C f fd ps body) (hlen : ds.length = ps.length)
    (hb : ∀ A L s₀ Z₀ E, OkA A k → (∀ x, Owned (callEnvC fd L f) s₀.heap x) → (∃ outer, A.frames = some (callEnvC fd L f :: outer)) → Ex C A (callEnvC fd L f) s₀ Z₀ E (ps.zip (ds.map .fz)) body (fun o => o = .ret d)) : FnOk C (k + 1) f ds d := fun A E s Z vs hA hfr B hz r => by
  refine wpAny_call (fn_run D hlen hA hfr B hz r fun s₁ hO S => ?_)
  have hf : ∃ outer, (A.deeper (callEnvC fd s.heap.objs.size f)).frames = some (callEnvC fd s.heap.objs.size f :: outer) := by
    obtain ⟨l, hl, _⟩ := hfr
    exact ⟨l, by show A.frames.map _ = _; rw [hl]; rfl⟩
  refine wpAny_mono (hb (A.deeper (callEnvC fd s.heap.objs.size f)) s.heap.objs.size s Z _ (hA.deeper _) hO hf [] [] s₁ S) (fun fl s' ⟨sm, ou, hp, ok⟩ => ?_) fun _ _ x => x
  subst hp
  cases fl with
  | ret v =>
    obtain ⟨ex, rd⟩ := ok
    obtain ⟨h', tk', rfl⟩ := S.1.trans sm
    exact ⟨⟨⟨h', tk', rfl⟩, ex.undeeper fun L hL => by cases hL; exact Heap.get?_none_of_le (Nat.le_refl _)⟩, rd⟩
  | _ => exact ok.elim
end
end

section
set_option autoImplicit false
set_option linter.unusedVariables false
open PySem PyProof.Rows

section
variable {C : Cx} {A : Around} {env : Env} {Γ Γ₁ Γ₂ : Tab} {e e₁ e₂ : Expr} {μ μ₁ μ₂ : Bool} {d d₁ d₂ : PyData} {h₀ : Heap} {Z₀ : Addr → Prop} {E : Value → Shared → Prop} {Post : Out → Prop}

structure Blt (C : Cx) (env : Env) (x : Str) (v : Value) : Prop where
  g : isGlob env x = true
  m : C.mg x = none
  b : C.mb x = some v

theorem callBlt {x : Str} {id : String} {a : Expr} {es : List Expr} {ds : List PyData} {p pos : Pos} {s : Shared} {m : Str → Option Value} {Z₀ Z : Addr → Prop} {Q : Value → Shared → Prop} (hb : Blt C env x (.builtin id)) (hn : (a :: es).all notStar = true) (ha : Evs C A env Γ (a :: es) μ ds) (I : In C A env Z₀ Z Γ m s.heap)
    (k : ∀ vs s', Kp A s s' → In C A env Z₀ Z Γ m s'.heap → Rds C.prog C.w (sel μ Z) s'.heap vs ds → wpAny C.M A (call (.builtin id) vs []) Q E s') : wpAny C.M A (eval (.Call (.Name x p) (a :: es) [] pos) env) Q E s := by
  refine Call_Name rfl (loadBlt I hb.g hb.m hb.b (Calls.callWith_builtin (starEach_any hn) (ha.args (by simp only [List.all_cons, Bool.and_eq_true] at hn; exact hn.1) I fun vs s' kp I' r => ?_)))
  rw [List.nil_append]; exact k vs s' kp I' r
theorem callTyp {x : Str} {T : String} {a : Expr} {es : List Expr} {ds : List PyData} {p pos : Pos} {s : Shared} {m : Str → Option Value} {Z₀ Z : Addr → Prop} {Q : Value → Shared → Prop} (hb : Blt C env x (.type T)) (hn : (a :: es).all notStar = true) (ha : Evs C A env Γ (a :: es) μ ds) (I : In C A env Z₀ Z Γ m s.heap)
    (k : ∀ vs s', Kp A s s' → In C A env Z₀ Z Γ m s'.heap → Rds C.prog C.w (sel μ Z) s'.heap vs ds → wpAny C.M A (call (.type T) vs []) Q E s') : wpAny C.M A (eval (.Call (.Name x p) (a :: es) [] pos) env) Q E s := by
  refine Call_Name rfl (loadBlt I hb.g hb.m hb.b (PyProof.Rows.callWith_type (starEach_any hn) (ha.args (by simp only [List.all_cons, Bool.and_eq_true] at hn; exact hn.1) I fun vs s' kp I' r => ?_)))
  rw [List.nil_append]; exact k vs s' kp I' r

noncomputable def lenD : PyData → Option Nat
  | .list ds | .tuple ds => some ds.length
  | .str x => some x.length
  | _ => none
theorem ev_len {x : Str} {p pos : Pos} {n : Nat} (hb : Blt C env x (.builtin "len")) (h : Ev C A env Γ e μ₁ d) (hn : notStar e = true) (hd : lenD d = some n) (hz : n ≤ sizeLine) : Ev C A env Γ (.Call (.Name x p) [e] [] pos) μ (.int n) := fun E s m Z₀ Z I => by
  refine callBlt hb (by simp [hn]) (evs_cons h evs_nil hn) I fun vs s' kp I' r => ?_
  have hz' : (n : Int) < 2 ^ 63 := by
    have : sizeLine = 16777216 := rfl
    omega
  cases r with
  | cons a b =>
    cases b
    cases a with
    | list he z q =>
      cases hd
      have hl := q.length
      simp only [Array.length_toList] at hl
      refine PyProof.Rows.len_list ⟨_, he, rfl, _, rfl⟩ (by rw [hl]; exact hz') ⟨kp.trans (Kp.tok _ _), ?_⟩
      rw [hl]; exact .int _ _
    | tuple he z q =>
      cases hd
      have hl := q.length
      simp only [Array.length_toList] at hl
      refine PyProof.Rows.len_tuple ⟨_, he, rfl, _, rfl⟩ (by rw [hl]; exact hz') ⟨kp.trans (Kp.tok _ _), ?_⟩
      rw [hl]; exact .int _ _
    | str y t hy =>
      cases hd
      exact P.len_str (by omega) ⟨kp.trans (Kp.tok _ _), .int _ _⟩
    | _ => cases hd

theorem src_range {x : Str} {p pos : Pos} {n : Nat} (hA : A.handled = none) (hb : Blt C env x (.type "range")) (h : Ev C A env Γ e μ (.int n)) (hn : notStar e = true) (hz : n ≤ sizeLine) : Src C A env Γ (.Call (.Name x p) [e] [] pos) n (fun i => .int i) := fun E s m Z₀ Z Q I k => by
  refine callTyp hb (by simp [hn]) (evs_cons h evs_nil hn) I fun vs s' kp I' r => ?_
  have hs : sizeLine = 16777216 := rfl
  cases r with
  | cons a b =>
    cases b
    cases a with
    | int i t =>
      refine call_range_1 ?_
      refine wpAny_pyIter_range (IsRange.new ..) (small_one (by omega) (by omega) (by omega) (by omega)) ?_
      have hsz : Builtin.Range.rangeSize 0 (n : Int) 1 = (n : Int) := by rw [rangeSize_one]; split <;> omega
      rw [hsz]
      have W := wk_range (C := C) (I := (s'.heap.push { cls := .type "range", data := .fields #[.int 0 s'.toks, .int n t, .int 1 (s'.toks + 1)] }).objs.size) hA 0 n
      have hd : (fun i : Nat => PyData.int (0 + (i : Int))) = fun i : Nat => PyData.int i := funext fun i => by rw [Int.zero_add]
      rw [hd] at W
      exact k { s' with heap := s'.heap.push { cls := .type "range", data := .fields #[.int 0 s'.toks, .int n t, .int 1 (s'.toks + 1)] }, toks := s'.toks + 1 + 1 } _ _ _ _ (kp.trans ⟨⟨_, _, rfl⟩, Ext.push _⟩) rfl (by simp) W (fun p hp => nomatch hp) fun p hp => nomatch hp
theorem src_range2 {x : Str} {p pos : Pos} {a b : Int} (hA : A.handled = none) (hb : Blt C env x (.type "range")) (h₁ : Ev C A env Γ e₁ μ (.int a)) (h₂ : Ev C A env Γ e₂ μ (.int b)) (hn₁ : notStar e₁ = true) (hn₂ : notStar e₂ = true) (ha : -1000000 ≤ a ∧ a ≤ 1000000) (hbb : -1000000 ≤ b ∧ b ≤ 1000000) :
    Src C A env Γ (.Call (.Name x p) [e₁, e₂] [] pos) (b - a).toNat (fun i => .int (a + i)) := fun E s m Z₀ Z Q I k => by
  refine callTyp hb (by simp [hn₁, hn₂]) (evs_cons h₁ (evs_cons h₂ evs_nil hn₂) hn₁) I fun vs s' kp I' r => ?_
  cases r with
  | cons q₁ q₂ =>
    cases q₂ with
    | cons q₂ q₃ =>
      cases q₃
      cases q₁ with
      | int i t =>
        cases q₂ with
        | int j u =>
          refine call_range_2 ?_
          refine wpAny_pyIter_range (IsRange.new ..) (small_one (by omega) (by omega) (by omega) (by omega)) ?_
          have hsz : Builtin.Range.rangeSize a b 1 = ((b - a).toNat : Int) := by rw [rangeSize_one]; split <;> omega
          rw [hsz]
          have W := wk_range (C := C) (I := (s'.heap.push { cls := .type "range", data := .fields #[.int a t, .int b u, .int 1 s'.toks] }).objs.size) hA a (b - a).toNat
          exact k { s' with heap := s'.heap.push { cls := .type "range", data := .fields #[.int a t, .int b u, .int 1 s'.toks] }, toks := s'.toks + 1 } _ _ _ _ (kp.trans ⟨⟨_, _, rfl⟩, Ext.push _⟩) rfl (by simp) W (fun p hp => nomatch hp) fun p hp => nomatch hp
end
end

section
set_option autoImplicit false
set_option linter.unusedVariables false
open PySem PyProof.Rows
open Builtin Builtin.Str

theorem strOk_iff {x : Str} : PyData.strOk x = true ↔ ∀ c ∈ x.cps.toList, c < 0x110000 := by
  unfold PyData.strOk
  rw [← Array.all_toList, List.all_eq_true]
  simp
theorem strOk_empty : PyData.strOk Str.empty = true := by rw [strOk_iff]; intro c hc; exact absurd hc (by simp [Str.empty])
theorem strOk_ofString (x : String) : PyData.strOk (Str.ofString x) = true := by
  rw [strOk_iff, signs_ofString]
  intro c hc
  obtain ⟨ch, _, rfl⟩ := List.mem_map.mp hc
  have := ch.valid
  have h2 : ch.toNat = ch.val.toNat := rfl
  rcases this with h | ⟨_, h⟩
  · have : ch.val.toNat < 0xd800 := h
    omega
  · have : ch.val.toNat < 0x110000 := h
    omega
theorem strOk_join {sep : Str} (hs : PyData.strOk sep = true) : ∀ (ts : List Str), (∀ t ∈ ts, PyData.strOk t = true) → PyData.strOk (Str.join sep ts) = true
  | [], _ => strOk_empty
  | [x], h => h x List.mem_cons_self
  | x :: y :: r, h => by
    have e : Str.join sep (x :: y :: r) = x ++ sep ++ Str.join sep (y :: r) := rfl
    rw [e]
    exact strOk_append (strOk_append (h x List.mem_cons_self) hs) (strOk_join hs (y :: r) fun t ht => h t (List.mem_cons_of_mem _ ht))
section
variable {C : Cx} {A : Around} {env : Env} {Γ Γ₁ Γ₂ : Tab} {e e₁ e₂ : Expr} {μ μ₁ μ₂ : Bool} {d d₁ d₂ : PyData}

theorem rds_strs_inv {Z : Addr → Prop} {h : Heap} : ∀ {vs : List Value} {ts : List Str}, Rds C.prog C.w Z h vs (ts.map .str) → ∃ l, vs = strValues l ∧ l.map (·.1) = ts ∧ ∀ t ∈ ts, PyData.strOk t = true
  | _, [], r => by cases r; exact ⟨[], rfl, rfl, fun _ h => nomatch h⟩
  | _, x :: ts, r => by
    cases r with
    | cons a b =>
      cases a with
      | str _ t hx =>
        obtain ⟨l, rfl, rfl, hl⟩ := rds_strs_inv b
        refine ⟨(x, t) :: l, rfl, rfl, fun u hu => ?_⟩
        rcases List.mem_cons.mp hu with rfl | hu
        · exact hx
        · exact hl u hu

theorem ev_join {ap cp : Pos} {x : Str} {ts : List Str} (h₁ : Ev C A env Γ e₁ μ₁ (.str x)) (h₂ : Ev C A env Γ e₂ μ₂ (.list (ts.map .str))) (hb : attributeBase e₁ "join" env (eval e₁ env) = eval e₁ env) (hn : notStar e₂ = true) (hline : (ap.endLine == cp.line) = true)
    (hz : (ts.map (·.length)).sum + ts.length * x.length ≤ 16777216) : Ev C A env Γ (.Call (.Attribute e₁ "join" ap) [e₂] [] cp) μ (.str (Str.join x ts)) := fun E s m Z₀ Z I => by
  refine Call_method1 hb (by rw [starEach_cons hn]; rfl) hline (h₁.go I fun v s₁ k₁ I₁ r₁ => ?_)
  cases r₁ with
  | str _ t hx =>
    refine SB.join (h₂.go I₁ fun u s₂ k₂ I₂ r₂ => ?_)
    cases r₂ with
    | @list a vs n _ he z q =>
      obtain ⟨l, hv, hl, hok⟩ := rds_strs_inv q
      refine ⟨a, l, rfl, ?_, ts, hl, joinOk_of hz, fun t' k => ⟨(k₁.trans k₂).trans (Kp.tok _ _), ?_⟩⟩
      · rw [← hv]; exact ⟨_, he, rfl, _, rfl⟩
      · show Rd _ _ _ _ (.str (glued x ts) t') _
        rw [StrLaws.glued_eq_join]
        exact .str _ _ (strOk_join hx ts hok)

end
end

section
set_option autoImplicit false
set_option linter.unusedVariables false
open PySem
open Sem (wp)
end

section
set_option autoImplicit false
set_option linter.unusedVariables false
set_option maxRecDepth 100000
open PySem PyProof.Rows PySem.W PySem.Builtin PySem.Builtin.Str PySem.Builtin.BaseException PySem.Builtin.Exceptions
open Sem (wp)

section
variable {prog : Program} {w : World} {A : Around} {E : Value → Shared → Prop} {h : Heap} {g : Array GenState} {d : Drawn} {tk : Nat} {os : OsState}
  {nm q : Str} {C N e t0 : Addr} {bs bm bmB : List Value} {hdct : Bool} {sn : List Str} {sub : List Value} {ab : Bool} {col : Option Bool} {dd : Option Addr} {k0 k1 k2 k3 k5 : Option Value} {newId : String} {mN : Str → Option Value} {oe : Obj} {vs : Array Value}

end
end

section
set_option autoImplicit false
set_option linter.unusedVariables false
open PySem PyProof.Rows PySem.W

section
variable {A : Around} {h₀ h h' : Heap} {x e t : Addr} {msg : Str} {k : Option Value}

theorem FrOk.noFields (f : FrOk A h) {b : Addr} (hb : isFrame A b) : ∃ o, h.get? b = some o ∧ o.cls = .type "frame" ∧ ∀ vs, o.data ≠ .fields vs := by
  obtain ⟨l, hl, hx⟩ := f
  obtain ⟨l', hl', env, he, hf⟩ := hb
  rw [hl] at hl'; cases hl'
  obtain ⟨h1, L, o, h2, h3, h4, es, ep, h5⟩ := hx env he
  rw [hf] at h2; cases h2
  exact ⟨o, h3, h4, fun vs q => by rw [h5] at q; cases q⟩
end

section
variable {M : Model} {A : Around} {E : Value → Shared → Prop} {s : Shared} {h₀ : Heap} {x e L : Addr} {msg : Str} {k : Option Value} {env : Env} {outer : List Env} {Q : Unit → Shared → Prop}

end
end

section
set_option autoImplicit false
set_option linter.unusedVariables false
open PySem PyProof.Rows PySem.W

section
variable {C : Cx} {A : Around} {env : Env} {Γ Γ₁ Γ₂ : Tab} {e e₁ e₂ : Expr} {μ μ₁ μ₂ : Bool} {d : PyData} {s₀ : Shared} {Z₀ : Addr → Prop} {E : Value → Shared → Prop} {Post : Out → Prop} {x L : Addr} {msg : Str}

theorem FrOk.undeeper {h : Heap} (x : FrOk (A.deeper env) h) : FrOk A h := by
  obtain ⟨l, hl, hx⟩ := x
  have hl' : A.frames.map (env :: ·) = some l := hl
  cases hA : A.frames with
  | none => rw [hA] at hl'; cases hl'
  | some l₀ =>
    rw [hA] at hl'; cases hl'
    exact ⟨l₀, hA, fun e he => hx e (List.mem_cons_of_mem _ he)⟩

end
end

section
set_option autoImplicit false
set_option linter.unusedVariables false
open PySem PyProof.Rows PySem.W

section
variable {C : Cx} {A : Around} {env : Env} {Γ Γ₁ Γ₂ : Tab} {e e₁ e₂ : Expr} {μ μ₁ μ₂ : Bool} {d : PyData} {s₀ : Shared} {Z₀ : Addr → Prop} {E : Value → Shared → Prop} {Post : Out → Prop} {x L : Addr} {msg : Str}

end
end

section
set_option autoImplicit false
set_option linter.unusedVariables false
open PySem PyProof.Rows PySem.W

section
variable {C : Cx} {A : Around} {env : Env} {Γ Γ₁ Γ₂ : Tab} {e e₁ e₂ : Expr} {μ μ₁ μ₂ : Bool} {d d₁ d₂ : PyData} {s₀ : Shared} {Z₀ : Addr → Prop} {E : Value → Shared → Prop} {Post : Out → Prop} {x L : Addr} {msg : Str}

noncomputable def isNoneD : PyData → Bool
  | .none => true
  | _ => false
noncomputable def isD (op : CmpOp) (d₁ d₂ : PyData) : Option Bool :=
  match op, d₁, d₂ with
  | .Is, .bool a, .bool b => some (a == b)
  | .IsNot, .bool a, .bool b => some (!(a == b))
  | .Is, d, .none => some (isNoneD d)
  | .IsNot, d, .none => some (!isNoneD d)
  | _, _, _ => none
noncomputable def tyD : PyData → String
  | .none => "NoneType"
  | .bool _ => "bool"
  | .int _ => "int"
  | .str _ => "str"
  | .list _ => "list"
  | .tuple _ => "tuple"
  | .dict _ => "dict"
theorem Rd.ty {Z : Addr → Prop} {s : Shared} {v : Value} (r : Rd C.prog C.w Z s.heap v d) : s.TypeIs v (tyD d) := by
  cases r with
  | none => exact rfl
  | bool b => exact rfl
  | int i t => exact rfl
  | str x t _ => exact typeIs_str _ _ _
  | list e _ _ => exact ⟨_, e, rfl⟩
  | tuple e _ _ => exact ⟨_, e, rfl⟩
  | dict e _ _ k _ =>
    obtain ⟨es, ep, hx, _⟩ := k
    exact ⟨_, e, hx.1⟩
noncomputable def isT (op : CmpOp) (S T : String) : Option Bool :=
  match op with
  | .Is => some (Value.type S == Value.type T)
  | .IsNot => some (!(Value.type S == Value.type T))
  | _ => none
theorem cd_type {op : CmpOp} {f t : Str} {T : String} {p q cp pos : Pos} {b : Bool} (hf : Blt C env f (.type "type")) (ht : Blt C env t (.type T)) (h : Ev C A env Γ e μ d) (hn : notStar e = true) (hd : isT op (tyD d) T = some b) :
    Cd C A env Γ (.Compare (.Call (.Name f p) [e] [] cp) [op] [.Name t q] pos) b := fun E s m Z₀ Z I => by
  have hm : behindInMarks op (.Name t q) = false := by cases op <;> rfl
  refine wpAny_isTrue_Compare1 (callTyp hf (by simp [hn]) (evs_cons h evs_nil hn) I fun vs s' kp I' r => ?_) hm
  cases r with
  | cons r₁ r₂ =>
    cases r₂
    refine call_type_of r₁.ty (by cases d <;> rfl) (loadBlt I' ht.g ht.m ht.b ?_)
    cases op <;> cases hd
    · exact wpAny_is_plain rfl (wpAny_truthy_bool ⟨kp, rfl⟩)
    · exact wpAny_isNot_plain rfl (wpAny_truthy_bool ⟨kp, rfl⟩)
end
end

section
set_option autoImplicit false
set_option linter.unusedVariables false
open PySem PyProof.Rows PySem.W

noncomputable def innerK (elt : Expr) (gens : List Comprehension) (scope : Scope) (pos : Pos) (dep : Nat) (it acc : Value) (env : Env) : Sem Fin :=
  match gens[dep + 1]? with
  | some g' => do
    let x ← eval g'.iter env
    standAt g'.iter.pos
    if (g'.is_async != 0) = true then do
      let x ← foldedIterable g'.iter x
      let l ← holding [x] (if (g'.is_async != 0) = true then asyncIter x else pyIter x)
      let _ ← runOwn (.compStart (.ListComp elt gens scope pos) (dep + 1) l acc env) env
      again (.compLoop (.ListComp elt gens scope pos) dep it acc env)
    else do
      let x ← foldedSetIterable g'.iter env x
      let l ← holding [x] (if (g'.is_async != 0) = true then asyncIter x else pyIter x)
      let _ ← runOwn (.compStart (.ListComp elt gens scope pos) (dep + 1) l acc env) env
      again (.compLoop (.ListComp elt gens scope pos) dep it acc env)
  | none => do
    (do let l ← eval elt env; let _ ← call (.builtin "list.append") [acc, l]; pure ())
    again (.compLoop (.ListComp elt gens scope pos) dep it acc env)

noncomputable abbrev testsOf (ifs : List Expr) (env : Env) (r : Bool) : Sem Bool :=
  forIn ifs r fun c r => if r = true then do let ok ← isTrue c env (eval c env); pure (ForInStep.yield ok) else pure (ForInStep.yield r)

theorem compTurn_eq {elt target iter : Expr} {ifs : List Expr} {gens : List Comprehension} {scope : Scope} {pos : Pos} {dep : Nat} {it acc : Value} {env : Env} (hg : gens[dep]? = some ⟨target, iter, ifs, 0⟩) :
    compTurn (.ListComp elt gens scope pos) dep it acc env = (standAt iter.pos >>= fun _ => pyNext it >>= fun r => match r with
      | none => pure (.done .next)
      | some v => letOwnedTupleGo target it v >>= fun _ => assign target env v >>= fun _ => testsOf ifs env true >>= fun ok =>
        if ok = true then innerK elt gens scope pos dep it acc env else again (.compLoop (.ListComp elt gens scope pos) dep it acc env)) := by
  unfold compTurn innerK
  simp only [hg, bne_self_eq_false, Bool.false_eq_true, if_false]
  rfl

section
variable {C : Cx} {A : Around} {env cenv : Env} {Γ Γ₁ Γ₂ : Tab} {e e₁ e₂ : Expr} {μ μ₁ μ₂ : Bool} {d d₁ d₂ : PyData} {s₀ : Shared} {Z₀ : Addr → Prop} {E : Value → Shared → Prop}

noncomputable def Cds (C : Cx) (A : Around) (env : Env) (Γ : Tab) : List Expr → Bool → Prop
  | [], b => b = true
  | c :: cs, b => ∃ b₁, Cd C A env Γ c b₁ ∧ (b₁ = true → Cds C A env Γ cs b) ∧ (b₁ = false → b = false)
theorem tests_false {M : Model} : ∀ {ifs : List Expr} {s : Shared} {Q : Bool → Shared → Prop}, Q false s → wpAny M A (testsOf ifs env false) Q E s
  | [], s, Q, h => wpAny_pure h
  | c :: cs, s, Q, h => by
    unfold testsOf
    rw [List.forIn_cons]
    exact wpAny_bind (wpAny_pure (tests_false h))
theorem Cds.go : ∀ {ifs : List Expr} {b : Bool} (h : Cds C A env Γ ifs b) {s : Shared} {m : Str → Option Value} {Z₀ Z : Addr → Prop} (I : In C A env Z₀ Z Γ m s.heap) {Q : Bool → Shared → Prop}
    (k : ∀ s', Kp A s s' → In C A env Z₀ Z Γ m s'.heap → Q b s'), wpAny C.M A (testsOf ifs env true) Q E s
  | [], b, h, s, m, Z₀, Z, I, Q, k => by cases h; exact wpAny_pure (k s (Kp.refl s) I)
  | c :: cs, b, h, s, m, Z₀, Z, I, Q, k => by
    obtain ⟨b₁, h₁, h2, h3⟩ := h
    unfold testsOf
    rw [List.forIn_cons]
    refine wpAny_bind ?_
    rw [if_pos rfl]
    refine wpAny_bind (h₁.go I fun s' kp I' => wpAny_pure ?_)
    cases b₁ with
    | false => cases h3 rfl; exact tests_false (k s' kp I')
    | true => exact Cds.go (h2 rfl) I' fun s'' kp' I'' => k s'' (kp.trans kp') I''

noncomputable def Inn (C : Cx) (A : Around) (cenv : Env) (s₀ : Shared) (Z₀ : Addr → Prop) (elt : Expr) (gens : List Comprehension) (scope : Scope) (pos : Pos) (dep : Nat) (Γ : Tab) (out : List PyData) : Prop :=
  ∀ (E : Value → Shared → Prop) (Q : Fin → Shared → Prop) H V s ds it, Γ.lookup (".acc" : Str) = some (.own ds) → ds.length + out.length ≤ sizeLine → St C A cenv s₀ Z₀ H V Γ s →
    (∀ s', Same s s' → St C A cenv s₀ Z₀ H V ((".acc", .own (ds ++ out)) :: Γ) s' → wpAny C.M A (again (.compLoop (.ListComp elt gens scope pos) dep it (.ref (cenv.locals - 1)) cenv)) Q E s') →
    wpAny C.M A (innerK elt gens scope pos dep it (.ref (cenv.locals - 1)) cenv) Q E s

theorem inn_emit {elt : Expr} {gens : List Comprehension} {scope : Scope} {pos : Pos} {dep : Nat} (hg : gens[dep + 1]? = none) (h : Ev C A cenv Γ elt true d) : Inn C A cenv s₀ Z₀ elt gens scope pos dep Γ [d] := fun E Q H V s ds it l hsz ⟨ss, Z, m, S⟩ k => by
  unfold innerK
  rw [hg]
  refine wpAny_bind (wpAny_bind (h.go S.i fun v s' kp I' r => ?_))
  have he := S.i.ents _ _ l
  cases hv : m ".acc" with
  | none => rw [hv] at he; exact he.elim
  | some u =>
    obtain ⟨a, items, n, e1, e2, e3, q⟩ := (S.ext kp.ext).append (E := E) (s := s') (Q := fun _ s'' => wpAny C.M A (again (.compLoop (.ListComp elt gens scope pos) dep it (.ref (cenv.locals - 1)) cenv)) Q E s'') l hv (by simp only [List.length_cons, List.length_nil] at hsz; omega) r
      fun a h' _ S' => k { s' with heap := h' } (kp.toSame.trans ⟨h', _, rfl⟩) ⟨ss.trans (kp.toSame.trans ⟨h', _, rfl⟩), _, _, S'⟩
    have e4 := S.i.vars.hid u hv
    rw [e1] at e4; cases e4
    refine wpAny_bind (wpAny_call_entry slot_list_append (T := "list") ⟨_, e3, rfl⟩ entry_list_append ?_ (args_list_append _ _))
    show wpAny _ _ (updateSeq (cenv.locals - 1) (·.push v) >>= fun _ => ret .none) _ _ s'
    exact wpAny_bind (wpAny_updateSeq e3 rfl (wpAny_pure ⟨.none, rfl, wpAny_pure q⟩))

theorem flat_succ (outs : Nat → List PyData) (i : Nat) : (List.range (i + 1)).flatMap outs = (List.range i).flatMap outs ++ outs i := by
  rw [List.range_succ, List.flatMap_append]; simp
theorem flat_le (outs : Nat → List PyData) {i n : Nat} (h : i ≤ n) : ((List.range i).flatMap outs).length ≤ ((List.range n).flatMap outs).length := by
  induction n with
  | zero => have : i = 0 := by omega
            subst this; exact Nat.le_refl _
  | succ n ih =>
    rcases Nat.lt_or_ge i (n + 1) with q | q
    · have := ih (by omega)
      rw [flat_succ, List.length_append]; omega
    · have : i = n + 1 := by omega
      subst this; exact Nat.le_refl _

theorem comp_loop {elt target iter : Expr} {ifs : List Expr} {gens : List Comprehension} {scope : Scope} {pos : Pos} {dep n : Nat} {dat : Nat → PyData} {I : Addr} {X : List (Addr × Obj)} {V' : List (Value × PyData)} {O : Nat → Obj → Prop} {o : Obj} {R : Result → Shared → Prop}
    {H : List (Addr × Obj)} {V : List (Value × PyData)} {s : Shared} {ds₀ : List PyData} (hg : gens[dep]? = some ⟨target, iter, ifs, 0⟩) (W : Wk C A I X V' n dat O) (hO : O 0 o) (outs : Nat → List PyData) (Γc : Tab) (nI : s₀.heap.get? I = none) (hXI : ∀ p ∈ X ++ H, p.1 ≠ I)
    (hsz : ds₀.length + ((List.range n).flatMap outs).length ≤ sizeLine)
    (turn : ∀ i ds E, i < n → ∃ Γ'' b, As C A cenv s₀ Z₀ E ((".acc", .own ds) :: Γc) target (dat i) Γ'' ∧ Γ''.lookup (".acc" : Str) = some (.own ds) ∧ (∀ (x : Str) e, x ≠ ".acc" → Γc.lookup x = some e → Γ''.lookup x = some e) ∧ Cds C A cenv Γ'' ifs b ∧
      (b = false → outs i = []) ∧ (b = true → Inn C A cenv s₀ Z₀ elt gens scope pos dep Γ'' (outs i)))
    (S : St C A cenv s₀ Z₀ ((I, o) :: (X ++ H)) (V' ++ V) ((".acc", .own ds₀) :: Γc) s)
    (fin : ∀ s', Same s s' → St C A cenv s₀ Z₀ H V ((".acc", .own (ds₀ ++ (List.range n).flatMap outs)) :: Γc) s' → R (.ok .next) s') :
    codeAny C.M A (.compLoop (.ListComp elt gens scope pos) dep (.ref I) (.ref (cenv.locals - 1)) cenv) R s := by
  refine codeAny_loop rfl (fun kk s' => ∃ i o, i + kk = n ∧ Same s s' ∧ O i o ∧ St C A cenv s₀ Z₀ ((I, o) :: (X ++ H)) (V' ++ V) ((".acc", .own (ds₀ ++ (List.range i).flatMap outs)) :: Γc) s') ?_ n ⟨0, o, by omega, Same.refl s, hO, by simpa using S⟩
  rintro kk s' ⟨i, o, hik, sm, hO, ss', Z', m', S'⟩
  show wpAny _ A ((compTurn (.ListComp elt gens scope pos) dep (.ref I) (.ref (cenv.locals - 1)) cenv).onRaise (fun x => do noteFrame x cenv; theTreesLotGoes x)) _ _ s'
  refine wpAny_noted ?_
  rw [compTurn_eq hg]
  refine wpAny_bind (wpAny_standAt (wpAny_bind ?_))
  have hIo := (S'.hs _ List.mem_cons_self).1
  have hXs : ∀ p ∈ X, s'.heap.get? p.1 = some p.2 := fun p hp => (S'.hs p (List.mem_cons_of_mem _ (List.mem_append_left _ hp))).1
  by_cases hi : i < n
  · refine W.item i s' o _ _ hi hIo hO hXs fun v h' tk o' hv hO' ho' eb => ?_
    have S'' := S'.iter nI (W.fld i o hO) hXI eb ho' (W.clsF _ _ hO')
    have hcls := W.cls _ _ hO'
    refine wpAny_bind (letOwned (s := { s' with heap := h', toks := tk }) ho' hcls ?_)
    obtain ⟨Γ'', b, as, hacc, hsub, hc, hf, ht⟩ := turn i (ds₀ ++ (List.range i).flatMap outs) _ hi
    have rv := hv Z' h' fun p hp => S''.vs p (List.mem_append_left _ hp)
    refine wpAny_bind (wpAny_mono (as ((I, o') :: (X ++ H)) (V' ++ V) { s' with heap := h', toks := tk } v ⟨ss'.trans ⟨h', tk, rfl⟩, Z', m', S''.addV (V' := [(v, dat i)]) fun p hp => by cases List.mem_singleton.mp hp; exact rv⟩) (fun _ s₃ ⟨sm', S₃⟩ => ?_) fun _ _ x => x)
    obtain ⟨ss₃, Z₃, m₃, S₃⟩ := S₃
    refine wpAny_bind (hc.go S₃.i fun s₄ kp₄ I₄ => ?_)
    have S₄ : St C A cenv s₀ Z₀ ((I, o') :: (X ++ H)) (V' ++ V) Γ'' s₄ := ⟨ss₃.trans kp₄.toSame, _, _, S₃.ext kp₄.ext⟩
    have sm₄ : Same s s₄ := sm.trans (Same.trans ⟨h', tk, rfl⟩ (sm'.trans kp₄.toSame))
    have back : ∀ {s₅ : Shared} {ds : List PyData}, St C A cenv s₀ Z₀ ((I, o') :: (X ++ H)) (V' ++ V) ((".acc", .own ds) :: Γ'') s₅ → St C A cenv s₀ Z₀ ((I, o') :: (X ++ H)) (V' ++ V) ((".acc", .own ds) :: Γc) s₅ := fun ⟨ss, Z, m, S⟩ =>
      ⟨ss, Z, m, S.sub fun x e l => by
        by_cases hx : x = ".acc"
        · subst hx; rw [lookup_cons_eq] at l ⊢; exact l
        · rw [lookup_cons_ne hx] at l ⊢; exact hsub x e hx l⟩
    cases b with
    | false =>
      rw [if_neg (by decide)]
      refine wpAny_pure ⟨rfl, kk - 1, by omega, i + 1, o', by omega, sm₄, hO', ?_⟩
      rw [flat_succ, hf rfl, List.append_nil]
      refine back ?_
      obtain ⟨ss, Z, m, S⟩ := S₄
      exact ⟨ss, Z, m, S.sub fun x e l => by
        by_cases hx : x = ".acc"
        · subst hx; rw [lookup_cons_eq] at l; rw [hacc, l]
        · rwa [lookup_cons_ne hx] at l⟩
    | true =>
      rw [if_pos rfl]
      refine ht rfl _ _ _ _ s₄ _ _ hacc ?_ S₄ fun s₅ sm₅ S₅ => wpAny_pure ⟨rfl, kk - 1, by omega, i + 1, o', by omega, sm₄.trans sm₅, hO', ?_⟩
      · have := flat_le outs (i := i + 1) (n := n) hi
        rw [flat_succ, List.length_append] at this
        rw [List.length_append]; omega
      · rw [flat_succ, ← List.append_assoc]; exact back S₅
  · obtain rfl : i = n := by omega
    refine W.done s' o _ _ hIo hO hXs fun h' tk eb => wpAny_pure (fin _ (sm.trans ⟨h', tk, rfl⟩) ?_)
    have S'' := S'.iterDone nI (W.fld _ o hO) hXI eb
    exact ⟨ss'.trans ⟨h', tk, rfl⟩, Z', m', (S''.dropH fun p hp => List.mem_append_right _ hp).dropV fun p hp => List.mem_append_right _ hp⟩
end
end

section
set_option autoImplicit false
set_option linter.unusedVariables false
open PySem PyProof.Rows PySem.W

noncomputable def freesOf (env : Env) : List (Str × NameKind) → List (Str × Addr) → List (Str × Addr)
  | [], acc => acc
  | (n, k) :: r, acc => if k == .free then freesOf env r ((n, (env.cells.lookup n).getD 0) :: acc) else freesOf env r acc
theorem closureFor_eq {scope : Scope} {env : Env} (h : (scope.names.all fun p => p.2 != .free || (env.cells.lookup p.1).isSome) = true) : closureFor scope env = pure (freesOf env scope.names []) := by
  have key : ∀ (names : List (Str × NameKind)) (acc : List (Str × Addr)), (names.all fun p => p.2 != .free || (env.cells.lookup p.1).isSome) = true →
      (forIn names acc fun x cs => match x with | (name, kind) => if (kind == NameKind.free) = true then (do let a ← cellOf env name; pure (ForInStep.yield ((name, a) :: cs))) else pure (ForInStep.yield cs) : Sem (List (Str × Addr))) = pure (freesOf env names acc) := by
    intro names
    induction names with
    | nil => intro acc _; rfl
    | cons p r ih =>
      intro acc h
      obtain ⟨n, k⟩ := p
      simp only [List.all_cons, Bool.and_eq_true] at h
      have ih' := fun acc => ih acc h.2
      rw [List.forIn_cons]
      unfold freesOf
      dsimp only
      by_cases hk : (k == NameKind.free) = true
      · have hs : (env.cells.lookup n).isSome = true := by
          have := h.1
          simp only [bne, hk, Bool.not_true, Bool.false_or] at this
          exact this
        obtain ⟨c, hc⟩ := Option.isSome_iff_exists.mp hs
        have hcell : cellOf env n = pure c := by unfold cellOf; rw [hc]
        rw [if_pos hk, if_pos hk, hcell, hc]
        exact ih' _
      · rw [if_neg hk, if_neg hk]
        exact ih' _
  unfold closureFor
  show (forIn scope.names ([] : List (Str × Addr)) _ >>= fun cs => pure cs) = _
  rw [key _ _ h]
  rfl
theorem frees_mem {env : Env} : ∀ {names : List (Str × NameKind)} {acc : List (Str × Addr)} {x : Str} {c : Addr}, (names.all fun p => p.2 != .free || (env.cells.lookup p.1).isSome) = true → (x, c) ∈ freesOf env names acc →
    (x, c) ∈ acc ∨ ((x, NameKind.free) ∈ names ∧ env.cells.lookup x = some c)
  | [], _, _, _, _, h => .inl h
  | (n, k) :: r, acc, x, c, hall, h => by
    simp only [List.all_cons, Bool.and_eq_true] at hall
    unfold freesOf at h
    split at h
    · rename_i hk
      have hk' : k = .free := by simpa using hk
      subst hk'
      rcases frees_mem hall.2 h with q | q
      · rcases List.mem_cons.mp q with q | q
        · obtain ⟨rfl, rfl⟩ := Prod.mk.inj q
          refine .inr ⟨List.mem_cons_self, ?_⟩
          have hs : (env.cells.lookup x).isSome = true := by simpa using hall.1
          obtain ⟨c, hc⟩ := Option.isSome_iff_exists.mp hs
          rw [hc]; rfl
        · exact .inl q
      · exact .inr ⟨List.mem_cons_of_mem _ q.1, q.2⟩
    · rcases frees_mem hall.2 h with q | q
      · exact .inl q
      · exact .inr ⟨List.mem_cons_of_mem _ q.1, q.2⟩
theorem cellsFrom_app : ∀ (names : List (Str × NameKind)) (n : Nat) (a b : List (Str × Addr)), cellsFrom n names (a ++ b) = cellsFrom n names a ++ b
  | [], _, _, _ => rfl
  | (x, k) :: r, n, a, b => by
    unfold cellsFrom
    split
    · exact cellsFrom_app r (n + 1) ((x, n) :: a) b
    · exact cellsFrom_app r n a b
theorem cellsFrom_mem : ∀ (names : List (Str × NameKind)) (n : Nat) (acc : List (Str × Addr)) (x : Str) (c : Addr), (x, c) ∈ cellsFrom n names acc → (x, c) ∈ acc ∨ (x, NameKind.cell) ∈ names
  | [], _, _, _, _, h => .inl h
  | (y, k) :: r, n, acc, x, c, h => by
    unfold cellsFrom at h
    split at h
    · rename_i hk
      have hk' : k = .cell := by simpa using hk
      subst hk'
      rcases cellsFrom_mem r _ _ x c h with q | q
      · rcases List.mem_cons.mp q with q | q
        · obtain ⟨rfl, rfl⟩ := Prod.mk.inj q; exact .inr List.mem_cons_self
        · exact .inl q
      · exact .inr (List.mem_cons_of_mem _ q)
    · rcases cellsFrom_mem r _ _ x c h with q | q
      · exact .inl q
      · exact .inr (List.mem_cons_of_mem _ q)
theorem lookup_append {α : Type} {a b : List (Str × α)} {x : Str} {c : α} (h : (a ++ b).lookup x = some c) : a.lookup x = some c ∨ (a.lookup x = none ∧ b.lookup x = some c) := by
  rw [List.lookup_append] at h
  cases q : a.lookup x with
  | none => rw [q] at h; exact .inr ⟨rfl, h⟩
  | some v => rw [q] at h; exact .inl h

noncomputable def compEnv (scope : Scope) (env : Env) (L : Addr) : Env :=
  { scope := relabel scope env, locals := L, globals := env.globals, cells := cellsFrom (L + 1) scope.names (freesOf env scope.names []), qual := env.qual, func := none, code := env.code, frame := env.frame, builtins := env.builtins }

structure CompDef (scope : Scope) (env : Env) : Prop where
  free : (scope.names.all fun p => p.2 != .free || (env.cells.lookup p.1).isSome) = true
  kind : scope.kind = .function
  fn : (scope.names.all fun p => scope.names.lookup p.1 == some p.2) = true
  acc : scope.names.lookup (".acc" : Str) = none

theorem newCompEnv {M : Model} {A : Around} {E : Value → Shared → Prop} {s : Shared} {scope : Scope} {env : Env} {cl : List (Str × Addr)} {Q : Env → Shared → Prop}
    (h : Q { scope := scope, locals := s.heap.objs.size, globals := env.globals, cells := cellsFrom (s.heap.objs.size + 1) scope.names cl, qual := env.qual, func := none, code := env.code, frame := env.frame, builtins := env.builtins }
      { s with heap := pushCells (s.heap.push { cls := .type "dict", data := .dict #[] }) scope.names }) :
    wpAny M A (newFunctionEnv scope env.globals cl [] env.qual none .none (some env)) Q E s := by
  simp only [newFunctionEnv, Option.isSome_some, if_true]
  refine wpAny_bind (wpAny_alloc (wpAny_bind (wpAny_layCells _ (fun name kind cells => by cases hkc : kind == NameKind.cell <;> simp) _ _ _ _ ?_)))
  have hsz : (s.heap.push { cls := .type "dict", data := .dict #[] }).objs.size = s.heap.objs.size + 1 := Heap.size_push ..
  rw [hsz]
  exact wpAny_bind (wpAny_pure (wpAny_pure h))

theorem relabel_local {scope : Scope} {env : Env} {x : Str} (h : (relabel scope env).names.lookup x = some .local) : scope.names.lookup x = some .local := by
  unfold relabel at h
  simp only at h
  generalize scope.names = names at h ⊢
  induction names with
  | nil => cases h
  | cons p r ih =>
    obtain ⟨n, k⟩ := p
    rw [List.map_cons] at h
    by_cases hx : x = n
    · subst hx
      by_cases hc : (k == NameKind.free && env.scope.kind == .function && env.kindOf x == some .cell) = true
      · simp only [hc, if_true, List.lookup_cons, beq_self_eq_true] at h; cases h
      · simp only [hc, Bool.false_eq_true, if_false, List.lookup_cons, beq_self_eq_true] at h ⊢; exact h
    · have hb : (x == n) = false := by simpa using hx
      simp only [List.lookup_cons, hb]
      refine ih ?_
      by_cases hc : (k == NameKind.free && env.scope.kind == .function && env.kindOf n == some .cell) = true
      · simp only [hc, if_true, List.lookup_cons, hb] at h; exact h
      · simp only [hc, Bool.false_eq_true, if_false, List.lookup_cons, hb] at h; exact h
theorem relabel_none {scope : Scope} {env : Env} {x : Str} (h : scope.names.lookup x = none) : (relabel scope env).names.lookup x = none := by
  unfold relabel
  simp only
  generalize scope.names = names at h ⊢
  induction names with
  | nil => rfl
  | cons p r ih =>
    obtain ⟨n, k⟩ := p
    rw [List.map_cons]
    by_cases hx : x = n
    · subst hx; simp at h
    · have hb : (x == n) = false := by simpa using hx
      simp only [List.lookup_cons, hb] at h
      by_cases hc : (k == NameKind.free && env.scope.kind == .function && env.kindOf n == some .cell) = true
      · simp only [hc, if_true, List.lookup_cons, hb]; exact ih h
      · simp only [hc, Bool.false_eq_true, if_false, List.lookup_cons, hb]; exact ih h

noncomputable def capE : Ent → Ent
  | .fz d => .fz d
  | .bor d => .bor d
  | .own ds => .bor (.list ds)
  | .any => .any
  | .reg _ _ => .any
noncomputable def capT (names : List (Str × NameKind)) (Γ : Tab) : Tab := names.filterMap fun p => if p.2 == .free then (Γ.lookup p.1).map fun e => (p.1, capE e) else none
theorem capT_lookup {Γ : Tab} : ∀ {names : List (Str × NameKind)} {x : Str} {e : Ent}, (capT names Γ).lookup x = some e → (x, NameKind.free) ∈ names ∧ ∃ e', Γ.lookup x = some e' ∧ e = capE e'
  | [], _, _, h => by cases h
  | (n, k) :: r, x, e, h => by
    unfold capT at h
    rw [List.filterMap_cons] at h
    have ih := @capT_lookup Γ r x e
    by_cases hk : (k == NameKind.free) = true
    · have hk' : k = .free := by simpa using hk
      subst hk'
      cases hl : Γ.lookup n with
      | none =>
        simp only [hk, if_true, hl, Option.map_none] at h
        exact ⟨List.mem_cons_of_mem _ (ih h).1, (ih h).2⟩
      | some e' =>
        simp only [hk, if_true, hl, Option.map_some, List.lookup_cons] at h
        by_cases hx : x = n
        · subst hx
          simp only [beq_self_eq_true] at h
          cases h
          exact ⟨List.mem_cons_self, e', hl, rfl⟩
        · have hb : (x == n) = false := by simpa using hx
          simp only [hb] at h
          exact ⟨List.mem_cons_of_mem _ (ih h).1, (ih h).2⟩
    · simp only [hk] at h
      exact ⟨List.mem_cons_of_mem _ (ih h).1, (ih h).2⟩
end

section
set_option autoImplicit false
set_option linter.unusedVariables false
open PySem PyProof.Rows PySem.W

section
variable {C : Cx} {A : Around} {env : Env} {Γ : Tab} {μ : Bool} {E : Value → Shared → Prop} {scope : Scope}

theorem CompDef.at {x : Str} {k : NameKind} (D : CompDef scope env) (h : (x, k) ∈ scope.names) : scope.names.lookup x = some k := by
  have := List.all_eq_true.mp D.fn _ h
  simpa using this
theorem compEnv_cells {L : Addr} : (compEnv scope env L).cells = cellsFrom (L + 1) scope.names [] ++ freesOf env scope.names [] := cellsFrom_app scope.names (L + 1) [] _

theorem CompDef.cellAt {L c : Addr} {x : Str} (D : CompDef scope env) (h : (compEnv scope env L).cells.lookup x = some c) :
    ((cellsFrom (L + 1) scope.names []).lookup x = some c ∧ scope.names.lookup x = some .cell) ∨ (env.cells.lookup x = some c ∧ scope.names.lookup x = some .free) := by
  rw [compEnv_cells] at h
  rcases lookup_append h with q | ⟨_, q⟩
  · rcases cellsFrom_mem _ _ _ _ _ (mem_of_lookup q) with r | r
    · cases r
    · exact .inl ⟨q, D.at r⟩
  · rcases frees_mem D.free (mem_of_lookup q) with r | ⟨r, r'⟩
    · cases r
    · exact .inr ⟨r', D.at r⟩

theorem CompDef.kindAcc {L : Addr} (D : CompDef scope env) : (compEnv scope env L).kindOf ".acc" = none := relabel_none D.acc

theorem compSt {m : Str → Option Value} {Z₀ Z : Addr → Prop} {s₁ : Shared} {o : Obj} {X : List (Addr × Obj)} {V : List (Value × PyData)} (D : CompDef scope env) (I : In C A env Z₀ Z Γ m s₁.heap) (hof : o.isFreed = false) (hoc : o.cls ≠ .type "frame")
    (hX : ∀ p ∈ X, s₁.heap.get? p.1 = some p.2 ∧ ¬ Z p.1 ∧ p.2.cls ≠ .type "frame") (hV : ∀ p ∈ V, Rd C.prog C.w Z s₁.heap p.1 p.2) :
    St C A (compEnv scope env (s₁.heap.objs.size + 2)) s₁ Z ((s₁.heap.objs.size, o) :: (X ++ [])) (V ++ []) ((".acc", .own []) :: capT scope.names Γ)
      { s₁ with heap := pushCells (((s₁.heap.push o).push (listO #[] 0)).push { cls := .type "dict", data := .dict #[] }) scope.names } := by
  have hk : ∀ b x, s₁.heap.get? b = some x → (pushCells (((s₁.heap.push o).push (listO #[] 0)).push { cls := .type "dict", data := .dict #[] }) scope.names).get? b = some x :=
    fun b x e => pushCells_keeps _ _ _ _ (Heap.get?_push_of_some _ (Heap.get?_push_of_some _ (Heap.get?_push_of_some _ e)))
  have sz1 : (s₁.heap.push o).objs.size = s₁.heap.objs.size + 1 := Heap.size_push ..
  have sz2 : ((s₁.heap.push o).push (listO #[] 0)).objs.size = s₁.heap.objs.size + 2 := by rw [Heap.size_push, sz1]
  have sz3 : (((s₁.heap.push o).push (listO #[] 0)).push { cls := .type "dict", data := .dict #[] }).objs.size = s₁.heap.objs.size + 3 := by rw [Heap.size_push, sz2]
  have gI : (pushCells (((s₁.heap.push o).push (listO #[] 0)).push { cls := .type "dict", data := .dict #[] }) scope.names).get? s₁.heap.objs.size = some o :=
    pushCells_keeps _ _ _ _ (Heap.get?_push_of_some _ (Heap.get?_push_of_some _ (Heap.get?_push_size _ hof)))
  have gA : (pushCells (((s₁.heap.push o).push (listO #[] 0)).push { cls := .type "dict", data := .dict #[] }) scope.names).get? (s₁.heap.objs.size + 1) = some (listO #[] 0) :=
    pushCells_keeps _ _ _ _ (Heap.get?_push_of_some _ (by rw [← sz1]; exact Heap.get?_push_size _ rfl))
  have gL : (((s₁.heap.push o).push (listO #[] 0)).push { cls := .type "dict", data := .dict #[] }).Ns (s₁.heap.objs.size + 2) (fun _ => none) := by
    rw [← sz2]; exact Heap.Ns.new _ (.type "dict")
  have gL' := gL.keeps (pushCells_keeps scope.names _)
  have ok := cellsFrom_ok scope.names (((s₁.heap.push o).push (listO #[] 0)).push { cls := .type "dict", data := .dict #[] }) (s₁.heap.objs.size + 3) [] ⟨fun _ _ hm => (nomatch hm), List.Pairwise.nil⟩ (by rw [sz3]; exact Nat.le_refl _)
  rw [sz3] at ok
  generalize hh : pushCells (((s₁.heap.push o).push (listO #[] 0)).push { cls := .type "dict", data := .dict #[] }) scope.names = h₄ at hk gI gA gL' ok ⊢
  generalize hN : s₁.heap.objs.size = N at *
  have hnew : ∀ a : Nat, N ≤ a → s₁.heap.get? a = none := fun a ha => Heap.get?_none_of_le (by rw [hN]; exact ha)
  have hlt : ∀ (a : Nat) x, s₁.heap.get? a = some x → a < N := fun a x e => hN ▸ Heap.lt_size e
  have ext : Ext A s₁.heap h₄ := .of hk
  let Zc : Addr → Prop := fun (a : Nat) => Z a ∨ (N + 1 ≤ a ∧ ∃ x, h₄.get? a = some x)
  have zlt : ∀ a : Nat, Z a → a < N := fun a z => let ⟨x, e⟩ := I.z.st a z; hlt a x e
  have hre : ∀ (a : Nat) x, s₁.heap.get? a = some x → Zc a → Z a := fun a x e q => q.elim id fun q => by have := hlt a x e; omega
  have hre2 : ∀ a x, s₁.heap.get? a = some x → (Zc a ∧ ¬ Z a) → False := fun a x e q => q.2 (hre a x e q.1)
  refine ⟨⟨h₄, _, rfl⟩, Zc, fun x => if x = ".acc" then some (.ref (N + 1)) else if scope.names.lookup x = some .free then m x else none, ?_⟩
  refine ⟨⟨⟨D.kind, I.fn.glob, I.fn.blt, D.kindAcc⟩, ⟨⟨_, gL', fun x hx => ?_⟩, fun x c hc => ?_, fun v hv => ?_⟩, fun x e l => ?_, I.base.keep ext, ⟨fun a z => ?_, fun a z => ?_⟩, I.fr.keep ext, ?zc, ?cd⟩, I.base, ext, fun a z => ⟨.inl z, I.z.st a z⟩, .inr ⟨by show N + 1 ≤ N + 2; omega, ?_⟩, hnew _ (by show N ≤ N + 2; omega), ?zc, ?cd,
    fun p hp => ?_, fun p hp => ?_, fun x ds a l e => ?_, fun x a R l => ?_⟩
  case zc =>
    intro x c hc
    rcases D.cellAt hc with ⟨q, _⟩ | ⟨q, _⟩
    · obtain ⟨⟨x', e, _⟩, hlo⟩ := ok.empty _ _ (mem_of_lookup q)
      exact .inr ⟨by omega, x', e⟩
    · exact .inl (I.zc x c q)
  case cd =>
    intro x y c hc hc'
    rcases D.cellAt hc with ⟨q, _⟩ | ⟨q, _⟩ <;> rcases D.cellAt hc' with ⟨q', _⟩ | ⟨q', _⟩
    · exact name_of_addr ok.apart (mem_of_lookup q) (mem_of_lookup q')
    · have h1 := (ok.empty _ _ (mem_of_lookup q)).2
      have h2 := zlt _ (I.zc y c q')
      omega
    · have h1 := (ok.empty _ _ (mem_of_lookup q')).2
      have h2 := zlt _ (I.zc x c q)
      omega
    · exact I.cd x y c q q'
  · have hx' := relabel_local hx
    have hna : x ≠ ".acc" := by rintro rfl; rw [D.acc] at hx'; cases hx'
    rw [if_neg hna, if_neg (by rw [hx']; decide)]
  · rcases D.cellAt hc with ⟨q, hk'⟩ | ⟨q, hk'⟩
    · have hna : x ≠ ".acc" := by rintro rfl; rw [D.acc] at hk'; cases hk'
      rw [if_neg hna, if_neg (by rw [hk']; decide)]
      exact (ok.empty _ _ (mem_of_lookup q)).1
    · have hna : x ≠ ".acc" := by rintro rfl; rw [D.acc] at hk'; cases hk'
      rw [if_neg hna, if_pos hk']
      exact ext.cell (I.vars.cel x c q)
  · simp only [if_true] at hv
    cases hv
    rfl
  · by_cases hx : x = ".acc"
    · subst hx
      rw [lookup_cons_eq] at l; cases l
      simp only [if_true]
      exact ⟨N + 1, #[], 0, rfl, gA, .inr ⟨Nat.le_refl _, _, gA⟩, .nil⟩
    · rw [lookup_cons_ne hx] at l
      obtain ⟨hin, e', hl, rfl⟩ := capT_lookup l
      rw [if_neg hx, if_pos (D.at hin)]
      have := I.ents x e' hl
      cases hv : m x with
      | none => rw [hv] at this; exact this.elim
      | some v =>
        rw [hv] at this
        cases e' with
        | fz d => exact (Rd.reZ hre this).keep ext
        | bor d => exact (Rd.reZ (Z' := fun a => Zc a ∧ ¬ Z a) (fun a x e q => (hre2 a x e q).elim) this).keep ext
        | own ds =>
          obtain ⟨a, vs, n, rfl, e, z, r⟩ := this
          exact .list (ext.at e listO_cls) (fun q => q.2 z) ((r.reZ (Z' := fun a => Zc a ∧ ¬ Z a) fun a x e q => (hre2 a x e q).elim).keep ext)
        | any => trivial
        | reg a R => trivial
  · rcases z with z | z
    · obtain ⟨x, e⟩ := I.z.st a z; exact ⟨x, hk _ _ e⟩
    · exact z.2
  · rcases z with z | z
    · exact I.z.k a z
    · cases e : C.K.lookup a with
      | none => rfl
      | some x => have := hlt _ _ (I.base.k _ _ e); omega
  · obtain ⟨x, _, _, e, _⟩ := gL'; exact ⟨x, e⟩
  · rw [List.append_nil] at hp
    rcases List.mem_cons.mp hp with rfl | hp
    · exact ⟨gI, fun q => q.elim (fun z => by have := zlt _ z; simp at this) fun q => by have := q.1; simp at this; omega, hoc⟩
    · obtain ⟨e, nz, c⟩ := hX p hp
      exact ⟨hk _ _ e, fun q => nz (hre _ _ e q), c⟩
  · rw [List.append_nil] at hp
    exact (Rd.reZ hre (hV p hp)).keep ext
  · have key : ∀ (y : Str) es, List.lookup y (((".acc" : Str), Ent.own []) :: capT scope.names Γ) = some (.own es) → y = ".acc" := fun y es l => by
      by_cases hy : y = ".acc"
      · exact hy
      · rw [lookup_cons_ne hy] at l
        obtain ⟨_, e', _, q⟩ := capT_lookup l
        cases e' <;> cases q
    have hx := key x ds l
    subst hx
    simp only [if_true] at e
    cases e
    exact ⟨hnew _ (Nat.le_succ _), fun y es l' e' => key y es l'⟩
  · exfalso
    by_cases hx : x = ".acc"
    · subst hx; rw [lookup_cons_eq] at l; cases l
    · rw [lookup_cons_ne hx] at l
      obtain ⟨_, e', _, q⟩ := capT_lookup l
      cases e' <;> cases q
end
end

section
set_option autoImplicit false
set_option linter.unusedVariables false
open PySem PyProof.Rows PySem.W

section
variable {C : Cx} {A : Around} {env : Env} {Γ : Tab} {μ : Bool} {E : Value → Shared → Prop} {scope : Scope}

noncomputable def Turn (C : Cx) (A : Around) (scope : Scope) (env : Env) (Γc : Tab) (target : Expr) (ifs : List Expr) (elt : Expr) (gens : List Comprehension) (pos : Pos) (dep : Nat) (L : Addr) (s₀ : Shared) (Z₀ : Addr → Prop) (d : PyData) (out : List PyData) : Prop :=
  ∀ ds E, ∃ Γ'' b, As C A (compEnv scope env L) s₀ Z₀ E ((".acc", .own ds) :: Γc) target d Γ'' ∧ Γ''.lookup (".acc" : Str) = some (.own ds) ∧ (∀ (x : Str) e, x ≠ ".acc" → Γc.lookup x = some e → Γ''.lookup x = some e) ∧
    Cds C A (compEnv scope env L) Γ'' ifs b ∧ (b = false → out = []) ∧ (b = true → Inn C A (compEnv scope env L) s₀ Z₀ elt gens scope pos dep Γ'' out)
noncomputable abbrev OwnC (scope : Scope) (env : Env) (L : Addr) (s₀ : Shared) : Prop := ∀ x : Str, (scope.names.lookup x == some .free) = false → Owned (compEnv scope env L) s₀.heap x

theorem comp_run {use : Option (Value → Sem Unit)} {elt target iter : Expr} {ifs : List Expr} {gens : List Comprehension} {pos p : Pos} {n : Nat} {dat : Nat → PyData} {s : Shared} {m : Str → Option Value} {Z₀ Z : Addr → Prop} {Q : Value → Shared → Prop} (D : CompDef scope env)
    (src : Src C A env Γ iter n dat) (hs : ∀ x, foldedSetIterable iter env x = pure x) (outs : Nat → List PyData) (hsz : ((List.range n).flatMap outs).length ≤ sizeLine)
    (turn : ∀ L s₀ Z₀ i, OwnC scope env L s₀ → i < n → Turn C A scope env (capT scope.names Γ) target ifs elt (⟨target, iter, ifs, 0⟩ :: gens) pos 0 L s₀ Z₀ (dat i) (outs i))
    (I : In C A env Z₀ Z Γ m s.heap)
    (k : ∀ acc L s' vs j ml, Same s s' → Ext A s.heap s'.heap → s.heap.get? acc = none → s.heap.get? L = none → acc ≠ L → s'.heap.Ns L ml → s'.heap.get? acc = some (listO vs j) →
      Rds C.prog C.w (fun a => Z a ∨ a = L ∨ a = acc) s'.heap vs.toList ((List.range n).flatMap outs) → compPost C.M A E use Q (.ref acc) L (.ok .next) s') :
    wpAny C.M A (comprehension (.ListComp elt (⟨target, iter, ifs, 0⟩ :: gens) scope pos) scope env p (newList []) false (eval iter env) use) Q E s := by
  refine wpAny_comprehension_free (g := ⟨target, iter, ifs, 0⟩) (gs := gens) rfl hs (closureFor_eq D.free) D.kind (fun x hx hl => by have := D.at (x := x.1) (k := x.2) hx; rwa [hl] at this) (src E s m Z₀ Z _ I fun s₁ X V O o kp hof hO W hX hV => ?_)
  have sz1 : (s₁.heap.push o).objs.size = s₁.heap.objs.size + 1 := Heap.size_push ..
  have sz2 : ((s₁.heap.push o).push (listO #[] 0)).objs.size = s₁.heap.objs.size + 2 := by rw [Heap.size_push, sz1]
  refine wpAny_newList (newCompEnv ?_) (by decide)
  show codeAny C.M A (.compStart _ 0 (.ref s₁.heap.objs.size) (.ref (s₁.heap.push o).objs.size) (compEnv scope env ((s₁.heap.push o).push (listO #[] 0)).objs.size)) (compPost C.M A E use Q (.ref (s₁.heap.push o).objs.size) ((s₁.heap.push o).push (listO #[] 0)).objs.size)
    { s₁ with heap := pushCells (((s₁.heap.push o).push (listO #[] 0)).push { cls := .type "dict", data := .dict #[] }) scope.names }
  rw [sz1, sz2]
  have S := compSt (Γ := Γ) D (I.keep kp.ext) hof (W.clsF _ _ hO) hX hV
  have hnone : ∀ a : Nat, s₁.heap.objs.size ≤ a → s₁.heap.get? a = none := fun a ha => Heap.get?_none_of_le ha
  have hnone0 : ∀ a : Nat, s₁.heap.objs.size ≤ a → s.heap.get? a = none := fun a ha => by
    cases q : s.heap.get? a with
    | none => rfl
    | some x => obtain ⟨x', q', _⟩ := kp.ext.stays q; rw [hnone a ha] at q'; cases q'
  have hXI : ∀ p ∈ X ++ ([] : List (Addr × Obj)), p.1 ≠ s₁.heap.objs.size := fun p hp q => by
    rw [List.append_nil] at hp
    have e := (hX p hp).1
    rw [q, hnone _ (Nat.le_refl _)] at e; cases e
  have own : OwnC scope env (s₁.heap.objs.size + 2) s₁ := fun x hx c hc => by
    rcases D.cellAt hc with ⟨q, _⟩ | ⟨q, hk⟩
    · have ok := cellsFrom_ok scope.names (((s₁.heap.push o).push (listO #[] 0)).push { cls := .type "dict", data := .dict #[] }) (s₁.heap.objs.size + 3) [] ⟨fun _ _ hm => (nomatch hm), List.Pairwise.nil⟩ (by rw [Heap.size_push, sz2]; exact Nat.le_refl _)
      rw [Heap.size_push, sz2] at ok
      exact hnone c (by have h : (s₁.heap.objs.size + 3 : Nat) ≤ c := (ok.empty _ _ (mem_of_lookup q)).2; omega)
    · rw [hk] at hx; exact absurd hx (by decide)
  have loop := comp_loop (elt := elt) (gens := ⟨target, iter, ifs, 0⟩ :: gens) (scope := scope) (pos := pos) (dep := 0) (R := compPost C.M A E use Q (.ref (s₁.heap.objs.size + 1)) (s₁.heap.objs.size + 2)) (hg := rfl) W hO outs (capT scope.names Γ) (hnone _ (Nat.le_refl _)) hXI (by simpa using hsz)
    (fun i ds E hi => turn _ s₁ Z i own hi ds E) S (fun s' sm S' => by
      obtain ⟨_, Z', m', S'⟩ := S'
      obtain ⟨ml, hn, _⟩ := S'.i.vars.loc
      have he := S'.i.ents _ _ lookup_cons_eq
      cases hv : m' ".acc" with
      | none => rw [hv] at he; exact he.elim
      | some u =>
        have hu := S'.i.vars.hid u hv
        rw [hv] at he
        obtain ⟨a, vs, k', e1, e2, z, r⟩ := he
        rw [e1] at hu
        have ha : a = s₁.heap.objs.size + 1 := by cases hu; rfl
        subst ha
        rw [List.nil_append] at r
        refine k _ _ s' vs k' ml (kp.toSame.trans (Same.trans ⟨_, _, rfl⟩ sm)) (kp.ext.trans S'.keep) (hnone0 _ (Nat.le_succ _)) (hnone0 _ (by omega)) (fun q => by have : s₁.heap.objs.size + 1 = s₁.heap.objs.size + 2 := q; omega) hn e2 (r.reZ fun b x _ q => ?_)
        rcases q with q | rfl | rfl
        · exact (S'.z0 b q).1
        · exact S'.zl
        · exact z)
  refine codeAny_compStart_list loop (W.self 0 _ o _ _ ?_ hO loop)
  have := (S.2.choose_spec.choose_spec.hs _ List.mem_cons_self).1
  exact this

theorem ev_comp {elt target iter : Expr} {ifs : List Expr} {gens : List Comprehension} {pos : Pos} {n : Nat} {dat : Nat → PyData} (D : CompDef scope env)
    (src : Src C A env Γ iter n dat) (hs : ∀ x, foldedSetIterable iter env x = pure x) (outs : Nat → List PyData) (hsz : ((List.range n).flatMap outs).length ≤ sizeLine)
    (turn : ∀ L s₀ Z₀ i, OwnC scope env L s₀ → i < n → Turn C A scope env (capT scope.names Γ) target ifs elt (⟨target, iter, ifs, 0⟩ :: gens) pos 0 L s₀ Z₀ (dat i) (outs i)) :
    Ev C A env Γ (.ListComp elt (⟨target, iter, ifs, 0⟩ :: gens) scope pos) μ (.list ((List.range n).flatMap outs)) := fun E s m Z₀ Z I => by
  rw [eval_ListComp]
  refine comp_run (use := none) D src hs outs hsz turn I fun acc L s' vs k ml sm ex na nl hne hn ha r => ⟨ml, hn, fun h' sb => ?_⟩
  refine ⟨⟨sm.trans ⟨h', _, rfl⟩, ex.mutOf nl fun b o hb e => (sb.2 b hb).trans e⟩, ?_⟩
  have hz : ¬ sel μ Z acc := fun q => by
    cases μ with
    | true => obtain ⟨x, e⟩ := I.z.st acc q; rw [na] at e; cases e
    | false => exact q
  refine .list ((sb.2 acc hne).trans ha) hz ?_
  have r' : Rds C.prog C.w (fun a => Z a ∨ a = L ∨ a = acc) h' vs.toList ((List.range n).flatMap outs) := r.keepZ fun b o nz e => (sb.2 b (by rintro rfl; exact nz (.inr (.inl rfl)))).trans e
  refine r'.reZ fun a x _ q => ?_
  cases μ with
  | true => exact .inl q
  | false => exact q.elim

end
end

section
set_option autoImplicit false
set_option linter.unusedVariables false
open PySem PyProof.Rows PySem.W

section
variable {C : Cx} {A : Around} {env : Env} {Γ : Tab} {e e₁ e₂ : Expr} {μ : Bool} {d d₁ d₂ : PyData} {s₀ : Shared} {Z₀ : Addr → Prop} {E : Value → Shared → Prop}

theorem Ev.cast {d' : PyData} (h : Ev C A env Γ e μ d) (q : d = d') : Ev C A env Γ e μ d' := q ▸ h
theorem Cd.cast {b b' : Bool} (h : Cd C A env Γ e b) (q : b = b') : Cd C A env Γ e b' := q ▸ h
theorem Src.cast {n n' : Nat} {dat dat' : Nat → PyData} (h : Src C A env Γ e n dat) (q : n = n') (q' : dat = dat') : Src C A env Γ e n' dat' := q ▸ q' ▸ h

noncomputable def DOk (d : PyData) (n : Nat) : Prop := noDict d = true ∧ d.depth ≤ n
theorem DOk.flat (hf : flat d = true) : DOk d 0 := by
  cases d with
  | none => exact ⟨by simp [noDict], by simp [PyData.depth]⟩
  | bool b => exact ⟨by simp [noDict], by simp [PyData.depth]⟩
  | int i => exact ⟨by simp [noDict], by simp [PyData.depth]⟩
  | str s => exact ⟨by simp [noDict], by simp [PyData.depth]⟩
  | list xs => cases hf
  | tuple xs => cases hf
  | dict xs => cases hf
theorem marks_of {op : CmpOp} {e : Expr} (h : (op == .In || op == .NotIn) = false) : behindInMarks op e = false := by
  cases e <;> first | rfl | simp [behindInMarks, h]
theorem dOk_all {xs : List PyData} {n : Nat} (h : ∀ x ∈ xs, DOk x n) : noDict.noDicts xs = true ∧ PyData.depthAll xs ≤ n := by
  induction xs with
  | nil => exact ⟨by simp [noDict.noDicts], by simp [PyData.depthAll]⟩
  | cons x xs ih =>
    obtain ⟨h1, h2⟩ := h x List.mem_cons_self
    obtain ⟨i1, i2⟩ := ih fun y hy => h y (List.mem_cons_of_mem _ hy)
    refine ⟨by simp [noDict.noDicts, h1, i1], ?_⟩
    simp only [PyData.depthAll]; omega
theorem DOk.list {xs : List PyData} {n : Nat} (h : ∀ x ∈ xs, DOk x n) : DOk (.list xs) (n + 1) :=
  let ⟨a, b⟩ := dOk_all h; ⟨by simpa [noDict] using a, by simp only [PyData.depth]; omega⟩
theorem DOk.tuple {xs : List PyData} {n : Nat} (h : ∀ x ∈ xs, DOk x n) : DOk (.tuple xs) (n + 1) :=
  let ⟨a, b⟩ := dOk_all h; ⟨by simpa [noDict] using a, by simp only [PyData.depth]; omega⟩
theorem DOk.mono {n k : Nat} (h : DOk d n) (hk : n ≤ k) : DOk d k := ⟨h.1, by have := h.2; omega⟩

theorem eqv_int (a b : Int) : PyData.eqv (.int a) (.int b) = (a == b) := by first | rfl | (unfold PyData.eqv; rfl) | simp [PyData.eqv]
theorem eqv_str (a b : Str) : PyData.eqv (.str a) (.str b) = (a == b) := by first | rfl | simp [PyData.eqv]

theorem cmp_room {k : Nat} (n₁ : DOk d₁ k) (n₂ : DOk d₂ 100) (hk : k ≤ 100) : (noDict d₁ && noDict d₂ && decide (min d₁.depth d₂.depth ≤ 100)) = true := by
  have := n₁.2
  simp only [n₁.1, n₂.1, Bool.true_and, decide_eq_true_eq]; omega
theorem c_ne {n k : Nat} {pos : Pos} (hA : OkA A n) (h₁ : Ev C A env Γ e₁ false d₁) (h₂ : Ev C A env Γ e₂ false d₂) (n₁ : DOk d₁ k) (n₂ : DOk d₂ 100) (hk : k ≤ 100) : Cd C A env Γ (.Compare e₁ [.NotEq] [e₂] pos) (!PyData.eqv d₁ d₂) :=
  cd_cmp hA h₁ h₂ (if_pos (cmp_room n₁ n₂ hk)) (marks_of rfl)
theorem c_lt {n : Nat} {pos : Pos} {a b : Int} (hA : OkA A n) (h₁ : Ev C A env Γ e₁ false (.int a)) (h₂ : Ev C A env Γ e₂ false (.int b)) : Cd C A env Γ (.Compare e₁ [.Lt] [e₂] pos) (decide (a < b)) := cd_cmp hA h₁ h₂ rfl (marks_of rfl)
noncomputable def hasSub (y x : Str) : Bool := !(Builtin.Str.occurrences x y 0 x.length 1).isEmpty
theorem c_inS {n : Nat} {pos : Pos} {a b : Str} (hA : OkA A n) (h₁ : Ev C A env Γ e₁ false (.str a)) (h₂ : Ev C A env Γ e₂ false (.str b)) (hm : behindInMarks .In e₂ = false) : Cd C A env Γ (.Compare e₁ [.In] [e₂] pos) (hasSub a b) := cd_cmp hA h₁ h₂ rfl hm
theorem e_mod {pos : Pos} {a b : Int} (h₁ : Ev C A env Γ e₁ false (.int a)) (h₂ : Ev C A env Γ e₂ false (.int b)) (hb : b ≠ 0) : Ev C A env Γ (.BinOp e₁ .Mod e₂ pos) μ (.int (a.fmod b)) := ev_mod h₁ h₂ hb
theorem e_sub {pos : Pos} {a b : Int} (h₁ : Ev C A env Γ e₁ false (.int a)) (h₂ : Ev C A env Γ e₂ false (.int b)) : Ev C A env Γ (.BinOp e₁ .Sub e₂ pos) μ (.int (a - b)) := ev_sub h₁ h₂
theorem e_addI {pos : Pos} {a b : Int} (h₁ : Ev C A env Γ e₁ false (.int a)) (h₂ : Ev C A env Γ e₂ false (.int b)) : Ev C A env Γ (.BinOp e₁ .Add e₂ pos) μ (.int (a + b)) := (ev_add h₁ h₂ rfl trivial).ofFlat rfl
theorem e_addS {pos : Pos} {a b : Str} (h₁ : Ev C A env Γ e₁ false (.str a)) (h₂ : Ev C A env Γ e₂ false (.str b)) (hz : a.length + b.length ≤ sizeLine) : Ev C A env Γ (.BinOp e₁ .Add e₂ pos) μ (.str (a ++ b)) := (ev_add h₁ h₂ rfl hz).ofFlat rfl
theorem e_addL {pos : Pos} {a b : List PyData} (h₁ : Ev C A env Γ e₁ μ (.list a)) (h₂ : Ev C A env Γ e₂ μ (.list b)) (hz : a.length + b.length ≤ sizeLine) : Ev C A env Γ (.BinOp e₁ .Add e₂ pos) μ (.list (a ++ b)) := ev_add h₁ h₂ rfl hz
theorem e_len {x : Str} {p pos : Pos} {n : Nat} (hb : Blt C env x (.builtin "len")) (h : Ev C A env Γ e false d) (hn : notStar e = true) (hd : lenD d = some n) (hz : n ≤ sizeLine) : Ev C A env Γ (.Call (.Name x p) [e] [] pos) μ (.int n) := ev_len hb h hn hd hz
theorem e_item {pos : Pos} {ds : List PyData} {k : Int} (h₁ : Ev C A env Γ e₁ μ d₁) (h₂ : Ev C A env Γ e₂ false (.int k)) (hd : itemsD d₁ = some ds) (h0 : 0 ≤ k) (hk : k < 2 ^ 63) (hx : ds[k.toNat]? = some d) : Ev C A env Γ (.Subscript e₁ e₂ pos) μ d := ev_item h₁ h₂ hd h0 hk hx
theorem e_join {ap cp : Pos} {x : Str} {ts : List Str} (h₁ : Ev C A env Γ e₁ false (.str x)) (h₂ : Ev C A env Γ e₂ false (.list (ts.map .str))) (hb : attributeBase e₁ "join" env (eval e₁ env) = eval e₁ env) (hn : notStar e₂ = true) (hline : (ap.endLine == cp.line) = true)
    (hz : (ts.map (·.length)).sum + ts.length * x.length ≤ 16777216) : Ev C A env Γ (.Call (.Attribute e₁ "join" ap) [e₂] [] cp) μ (.str (Str.join x ts)) := ev_join h₁ h₂ hb hn hline hz
theorem c_bool {b : Bool} (h : Ev C A env Γ e false (.bool b)) (he : ∀ whole : Sem Value, isTrue e env whole = (do let v ← whole; standAt e.pos; holding [v] (truthy v))) : Cd C A env Γ e b := cd_bool h he
theorem c_type {op : CmpOp} {f t : Str} {T : String} {p q cp pos : Pos} {b : Bool} (hf : Blt C env f (.type "type")) (ht : Blt C env t (.type T)) (h : Ev C A env Γ e false d) (hn : notStar e = true) (hd : isT op (tyD d) T = some b) :
    Cd C A env Γ (.Compare (.Call (.Name f p) [e] [] cp) [op] [.Name t q] pos) b := cd_type hf ht h hn hd
theorem s_range {x : Str} {p pos : Pos} {n : Nat} (hA : A.handled = none) (hb : Blt C env x (.type "range")) (h : Ev C A env Γ e false (.int n)) (hn : notStar e = true) (hz : n ≤ sizeLine) : Src C A env Γ (.Call (.Name x p) [e] [] pos) n (fun i => .int i) := src_range hA hb h hn hz
theorem o_none : EvO C A env Γ none none := trivial
theorem o_some {i : Int} (h : Ev C A env Γ e false (.int i)) : EvO C A env Γ (some e) (some i) := ⟨false, h⟩
end
end

section
set_option autoImplicit false
set_option linter.unusedVariables false
open PySem PyProof.Rows PySem.W

theorem flat_get {α : Type} (f : α → List PyData) (l : List α) : (List.range l.length).flatMap (fun i => (l[i]?).elim [] f) = l.flatMap f := by
  induction l with
  | nil => rfl
  | cons a l ih =>
    rw [List.length_cons, List.range_succ_eq_map, List.flatMap_cons, List.flatMap_map, List.flatMap_cons]
    congr 1
theorem flat_one {α : Type} (f : α → PyData) (l : List α) : l.flatMap (fun a => [f a]) = l.map f := by
  induction l with
  | nil => rfl
  | cons a l ih => simp [ih]
theorem flat_if {α : Type} (p : α → Bool) (f : α → PyData) (l : List α) : l.flatMap (fun a => if p a then [f a] else []) = (l.filter p).map f := by
  induction l with
  | nil => rfl
  | cons a l ih =>
    rw [List.flatMap_cons, ih, List.filter_cons]
    cases p a <;> simp
theorem getD_map {α : Type} (f : α → PyData) {l : List α} {i : Nat} (h : i < l.length) : (l.map f).getD i .none = f l[i] := by
  rw [List.getD_eq_getElem?_getD, List.getElem?_map, List.getElem?_eq_getElem h]; rfl
section
variable {C : Cx} {A : Around} {scope : Scope} {env : Env} {Γ Γc : Tab} {target elt : Expr} {ifs : List Expr} {gens : List Comprehension} {pos : Pos} {dep : Nat} {L : Addr} {s₀ : Shared} {Z₀ : Addr → Prop} {d d₁ d₂ : PyData} {out : List PyData} {μ : Bool}

theorem turn_name {y : Str} {p : Pos} (b : Bool) (hy : isLoc (compEnv scope env L) y = true) (hO : Owned (compEnv scope env L) s₀.heap y) (hn : Γc.lookup y = none) (hna : (y == (".acc" : Str)) = false)
    (hc : ∀ ds, Cds C A (compEnv scope env L) ((y, .fz d) :: (".acc", .own ds) :: Γc) ifs b) (hf : b = false → out = [])
    (ht : ∀ ds, b = true → Inn C A (compEnv scope env L) s₀ Z₀ elt gens scope pos dep ((y, .fz d) :: (".acc", .own ds) :: Γc) out) :
    Turn C A scope env Γc (.Name y p) ifs elt gens pos dep L s₀ Z₀ d out := fun ds E => by
  have hna' : (".acc" : Str) ≠ y := by intro q; rw [q] at hna; simp at hna
  refine ⟨_, b, as_name hy hO, ?_, fun x e hx l => ?_, hc ds, hf, ht ds⟩
  · rw [lookup_cons_ne hna', lookup_cons_eq]
  · have hxy : x ≠ y := by rintro rfl; rw [hn] at l; cases l
    rw [lookup_cons_ne hxy, lookup_cons_ne hx]; exact l

theorem e_comp {α : Type} {iter : Expr} (l : List α) (dat : α → PyData) (f : α → List PyData) (D : CompDef scope env) (src : Src C A env Γ iter l.length (fun i => (l.map dat).getD i .none)) (hs : ∀ x, foldedSetIterable iter env x = pure x) (hsz : (l.flatMap f).length ≤ sizeLine)
    (turn : ∀ L s₀ Z₀ a, OwnC scope env L s₀ → a ∈ l → Turn C A scope env (capT scope.names Γ) target ifs elt (⟨target, iter, ifs, 0⟩ :: gens) pos 0 L s₀ Z₀ (dat a) (f a)) :
    Ev C A env Γ (.ListComp elt (⟨target, iter, ifs, 0⟩ :: gens) scope pos) μ (.list (l.flatMap f)) := by
  have := ev_comp (μ := μ) (elt := elt) (target := target) (ifs := ifs) (gens := gens) (pos := pos) D src hs (fun i => (l[i]?).elim [] f) (by rw [flat_get]; exact hsz) fun L s₀ Z₀ i own hi => by
    rw [getD_map dat hi, List.getElem?_eq_getElem hi]
    exact turn L s₀ Z₀ l[i] own (List.getElem_mem hi)
  rwa [flat_get] at this
end

noncomputable def Has (Γ Γe : Tab) : Prop := ∀ x e, Γe.lookup x = some e → Γ.lookup x = some e
theorem Has.refl (Γ : Tab) : Has Γ Γ := fun _ _ h => h
theorem Has.nil (Γ : Tab) : Has Γ [] := fun _ _ h => by cases h
theorem Has.add {Γ Γe : Tab} {x : Str} {e : Ent} (h : Γ.lookup x = some e) (hs : Has Γ Γe) : Has Γ ((x, e) :: Γe) := fun y e' l => by
  by_cases hy : y = x
  · subst hy; rw [lookup_cons_eq] at l; rw [h, l]
  · rw [lookup_cons_ne hy] at l; exact hs y e' l
theorem Has.cons {Γ Γe : Tab} {x : Str} {e : Ent} (hs : Has Γ Γe) : Has ((x, e) :: Γ) ((x, e) :: Γe) := fun y e' l => by
  by_cases hy : y = x
  · subst hy; rw [lookup_cons_eq] at l ⊢; exact l
  · rw [lookup_cons_ne hy] at l ⊢; exact hs y e' l
theorem ex_has {C : Cx} {A : Around} {env : Env} {s₀ : Shared} {Z₀ : Addr → Prop} {E : Value → Shared → Prop} {Γ Γe : Tab} {ss : List Stmt} {Post : Out → Prop} (hs : Has Γ Γe) (h : Ex C A env s₀ Z₀ E Γe ss Post) : Ex C A env s₀ Z₀ E Γ ss Post := ex_sub hs h

noncomputable def joinP (J : Tab → Prop) (Post : Out → Prop) : Out → Prop
  | .next Γ => J Γ
  | o => Post o
theorem ex_join {C : Cx} {A : Around} {env : Env} {s₀ : Shared} {Z₀ : Addr → Prop} {E : Value → Shared → Prop} {Γ : Tab} {st : Stmt} {rest : List Stmt} {Post : Out → Prop} (J : Tab → Prop) (h : Xs C A env s₀ Z₀ E Γ st (joinP J Post)) (hr : ∀ Γ', J Γ' → Ex C A env s₀ Z₀ E Γ' rest Post) :
    Ex C A env s₀ Z₀ E Γ (st :: rest) Post :=
  ex_cons fun H V s S => wpAny_mono (h H V s S) (fun fl s' ⟨sm, o, p, ok⟩ => ⟨sm, o, by cases o <;> first | exact hr _ p | exact p, ok⟩) fun _ _ x => x
end

section
set_option autoImplicit false
set_option linter.unusedVariables false
set_option maxRecDepth 100000
open PySem PyProof.Rows
section
variable {prog : Program} {w : World} {A : Around} {E : Value → Shared → Prop} {h : Heap} {g : Array GenState} {d : Drawn} {t : Nat} {os : OsState} {a : Addr} {o : Obj}
theorem lk_list_keys : typeLookup (.type "list") "keys" = pure none := by rw [typeLookup_type, builtinLookup_eq_fast]; kernel_rfl
theorem lk_list_getattr : typeLookup (.type "list") "__getattr__" = pure none := by rw [typeLookup_type, builtinLookup_eq_fast]; kernel_rfl
theorem keys_entry_list {vs : Array Value} {n : Nat} {tk : Tok} {Q : Fin → Shared → Prop} (hA : A.handled = none) (hx : h.get? a = some (listO vs n)) (hq : ∀ h' tk e, Heap.NewAttrErr h h' e (.ref a) "keys" → E (.ref e) ⟨h', g, d, tk, os⟩) :
    wpAny (model prog w) A (Builtin.«object.__getattribute__» ⟨[.ref a, .str "keys" tk], []⟩) Q E ⟨h, g, d, t, os⟩ := by
  have hT : (⟨h, g, d, t, os⟩ : Shared).TypeIs (.ref a) "list" := ⟨_, hx, rfl⟩
  have f4 := lk_list_keys
  repeat (any_goals (first | assumption | wp_step))
  exact wpAny_raiseAttrError (s := ⟨h, g, d, t, os⟩) hA hq (attrMsg_fits (by decide +kernel) (by decide +kernel))
theorem keys_by_list {vs : Array Value} {n : Nat} {tk : Tok} {Q : Value → Shared → Prop} (hA : A.handled = none) (hx : h.get? a = some (listO vs n)) (hq : ∀ h' tk e, Heap.NewAttrErr h h' e (.ref a) "keys" → E (.ref e) ⟨h', g, d, tk, os⟩) :
    wpAny (model prog w) A (getAttrBy (.ref a) (.str "keys" tk) false) Q E ⟨h, g, d, t, os⟩ := by
  have hT : (⟨h, g, d, t, os⟩ : Shared).TypeIs (.ref a) "list" := ⟨_, hx, rfl⟩
  have f1 := sub_AttributeError
  have f2 := F.slot_list_getattribute.lookup
  have f3 := F.slot_list_getattribute.bind (.ref a)
  have f5 := lk_list_getattr
  repeat (any_goals (first | assumption | wp_step))
  refine codeAny_call_builtin F.slot_list_getattribute.plain F.entry_list_ga (F.slot_list_getattribute.check _ _ _ _ _ _ _ _ (show (⟨h, g, d, t, os⟩ : Shared).TypeIs (.ref a) "list" from ⟨_, hx, rfl⟩) (F.args_list_getattribute_2 _ _) (keys_entry_list hA hx fun h' tk' e hn => ?_))
  obtain ⟨t', u', he⟩ := hn.there
  show wpAny _ _ (getattributeRaised _ _ _ _ _ _ _) _ _ _
  unfold getattributeRaised
  repeat (any_goals (first | assumption | wp_step))
  exact hq _ _ _ hn
theorem keys_attr_list {vs : Array Value} {n : Nat} {Q : Option Value → Shared → Prop} (hA : A.handled = none) (hx : h.get? a = some (listO vs n)) (hq : ∀ h' tk, (∀ b o, h.get? b = some o → h'.get? b = some o) → Q none ⟨h', g, d, tk, os⟩) :
    wpAny (model prog w) A (getAttr? (.ref a) "keys") Q E ⟨h, g, d, t, os⟩ := by
  have f1 := sub_AttributeError
  unfold getAttr? getAttrBy?
  repeat (any_goals (first | assumption | (with_reducible refine keys_by_list hA hx fun h' tk' e hn => ?_) | wp_step))
  obtain ⟨t', u', he⟩ := hn.there
  repeat (any_goals (first | assumption | wp_step))
  exact hq _ _ hn.keeps
end
end

section
set_option autoImplicit false
set_option linter.unusedVariables false
set_option maxRecDepth 100000
open PySem PyProof.Rows

theorem entry_upd_loop : entryFor table "dict.update.loop" = some Builtin.«dict.update.loop» := entryFor_of_tree (by kernel_rfl)
theorem plain_upd_loop : plainId "dict.update.loop" = true := by decide +kernel

noncomputable def storeAll (kvs : List (Str × Value)) : List (Str × Value) → List (Str × Value)
  | [] => kvs
  | (k, v) :: r => storeAll (stored kvs k v) r

section
variable {prog : Program} {w : World} {A : Around} {E : Value → Shared → Prop}

theorem stored_len (kvs : List (Str × Value)) (k : Str) (v : Value) : (stored kvs k v).length ≤ kvs.length + 1 := by
  unfold stored
  split <;> simp

theorem upd_loop {D I l : Addr} {vs : Array Value} {n : Nat} {R : Result → Shared → Prop} (hA : A.handled = none) (hDI : D ≠ I) (hlI : l ≠ I) (hDl : D ≠ l) : ∀ (ps : List (Str × Value)) (i : Nat) (kvs : List (Str × Value)) (s : Shared),
    i + ps.length = vs.size → s.heap.IsListIter I l i → s.heap.get? l = some (listO vs n) → s.heap.DictOf (strKind prog w) D kvs → kvs.length + ps.length ≤ sizeLine →
    (∀ j (hj : j < ps.length), ∃ a m t, vs[i + j]? = some (.ref a) ∧ a ≠ D ∧ a ≠ I ∧ s.heap.get? a = some (tupO #[.str ps[j].1 t, ps[j].2] m)) →
    (∀ h' tk, h'.DictOf (strKind prog w) D (storeAll kvs ps) → (∀ b o, b ≠ D → b ≠ I → s.heap.get? b = some o → h'.get? b = some o) → R (.ok (.ret .none)) { s with heap := h', toks := tk }) →
    codeAny (model prog w) A (.builtin "dict.update.loop" ⟨[.ref D, .ref I, rawInt i, .none], []⟩) R s := by
  intro ps
  induction ps with
  | nil =>
    intro i kvs s hn hit hl hd hsz hps hR
    refine codeAny_builtin entry_upd_loop ?_
    rw [Around.under_plainId plain_upd_loop _]
    show wpAny _ A.in1 (pyNext (.ref I) >>= _) _ _ s
    refine wpAny_bind (wpAny_pyNext_list_end (i := i) hA hit (⟨_, hl, rfl, _, rfl⟩ : s.heap.IsList l vs) (by simp at hn; simp [hn]) fun h' he => ?_)
    show wpAny _ _ (Builtin.Dict.addKeywords D [] >>= _) _ _ _
    refine wpAny_bind (wpAny_pure (wpAny_pure ?_))
    exact hR h' s.toks (hd.extBut he hDI) fun b o _ hb e => he b o hb e
  | cons p ps ih =>
    intro i kvs s hn hit hl hd hsz hps hR
    obtain ⟨a, m, t, h1, h2, h3, h4⟩ := hps 0 (by simp)
    refine codeAny_builtin entry_upd_loop ?_
    rw [Around.under_plainId plain_upd_loop _]
    show wpAny _ A.in1 (pyNext (.ref I) >>= _) _ _ s
    refine wpAny_bind (wpAny_pyNext_list_item (i := i) hit (⟨_, hl, rfl, _, rfl⟩ : s.heap.IsList l vs) (x := .ref a) h1 fun h' hit' sb => ?_)
    have h4' : h'.get? a = some (tupO #[.str p.1 t, p.2] m) := (sb.2 a h3).trans h4
    have hd' := hd.extBut sb.extBut hDI
    have hT : ({ s with heap := h' } : Shared).TypeIs (.ref a) "tuple" := ⟨_, h4', rfl⟩
    refine wpAny_bind (wpAny_holding ?_)
    refine wpAny_bind ?_
    refine wpAny_tryCatch ?_
    unfold Builtin.Dict.pairItems
    refine wpAny_bind (wpAny_typeOf hT ?_)
    rw [if_pos (by decide)]
    refine wpAny_bind (wpAny_seqItems h4' rfl (wpAny_pure ?_))
    show wpAny _ _ (holding _ (dictSet D (.str p.1 t) p.2)) _ _ _
    refine wpAny_holding (wpAny_dictSet_pairs (s := { s with heap := h' }) (k := p.1) (strKind_is prog w p.1 t) hd' (fun h'' hd'' sb'' => ?_) (by simp only [List.length_cons] at hsz; omega))
    refine wpAny_pure ⟨plainId_quiet plain_upd_loop _, ?_⟩
    have hlen := stored_len kvs p.1 p.2
    have e : rawInt ((i : Int) + 1) = rawInt ((i + 1 : Nat) : Int) := rfl
    rw [e]
    refine ih (i + 1) (stored kvs p.1 p.2) { s with heap := h'', toks := s.toks + 1 } (by simp only [List.length_cons] at hn; omega) ?_ ((sb''.2 l (Ne.symm hDl)).trans ((sb.2 l hlI).trans hl)) hd'' (by simp only [List.length_cons] at hsz; omega) (fun j hj => ?_) fun h₃ tk₃ hd₃ hk₃ => ?_
    · obtain ⟨o, ho, r⟩ := hit'
      exact ⟨o, (sb''.2 I (Ne.symm hDI)).trans ho, r⟩
    · obtain ⟨a', m', t', q1, q2, q3, q4⟩ := hps (j + 1) (by simp; omega)
      refine ⟨a', m', t', by rw [show i + 1 + j = i + (j + 1) by omega]; exact q1, q2, q3, ?_⟩
      have q4' := (sb''.2 a' q2).trans ((sb.2 a' q3).trans q4)
      simpa using q4'
    · exact hR h₃ tk₃ hd₃ fun b o hb1 hb2 e => hk₃ b o hb1 hb2 ((sb''.2 b hb1).trans ((sb.2 b hb2).trans e))

theorem call_dict_pairs {l : Addr} {vs : Array Value} {n : Nat} {s : Shared} {Q : Value → Shared → Prop} (hA : A.handled = none) (ps : List (Str × Value)) (hl : s.heap.get? l = some (listO vs n)) (hn : ps.length = vs.size) (hsz : ps.length ≤ sizeLine)
    (hps : ∀ j (hj : j < ps.length), ∃ a m t, vs[j]? = some (.ref a) ∧ s.heap.get? a = some (tupO #[.str ps[j].1 t, ps[j].2] m))
    (h : ∀ h' tk, h'.DictOf (strKind prog w) s.heap.objs.size (storeAll [] ps) → (∀ b o, s.heap.get? b = some o → h'.get? b = some o) → Q (.ref s.heap.objs.size) { s with heap := h', toks := tk }) :
    wpAny (model prog w) A (call (.type "dict") [.ref l]) Q E s := by
  refine callType_codes (Q₁ := fun obj s₁ => obj = .ref s.heap.objs.size ∧ s₁ = { s with heap := s.heap.push { cls := .type "dict", data := .dict #[] } }) F.kt_called_dict (F.kt_typeCall_dict_1 _) F.entry_dict_init (kt_code_dict_new _ ⟨rfl, rfl⟩) ?_
  rintro obj s₁ ⟨rfl, rfl⟩
  have hnew : (s.heap.push { cls := .type "dict", data := .dict #[] }).DictOf (strKind prog w) s.heap.objs.size [] := Heap.DictOf.new s.heap
  have hl' : (s.heap.push { cls := .type "dict", data := .dict #[] }).get? l = some (listO vs n) := Heap.get?_push_of_some _ hl
  refine ⟨hnew.typeIs, F.args_dict_init_2 _ _, ?_⟩
  unfold Builtin.«dict.__init__»
  refine wpAny_bind ?_
  unfold Builtin.Dict.selfAndRest
  refine wpAny_bind (wpAny_notOrdered_dict hnew.typeIs ?_)
  show wpAny _ _ (pure (s.heap.objs.size, [Value.ref l])) _ _ _
  refine wpAny_pure ?_
  show wpAny _ _ (Builtin.Dict.updateFrom "dict.__init__" s.heap.objs.size (.ref l) [] .none) _ _ _
  unfold Builtin.Dict.updateFrom
  have hT : ({ s with heap := s.heap.push { cls := .type "dict", data := .dict #[] } } : Shared).TypeIs (.ref l) "list" := ⟨_, hl', rfl⟩
  refine wpAny_bind (wpAny_typeOf hT ?_)
  rw [if_pos (by decide)]
  refine wpAny_bind (keys_attr_list hA hl' fun h₁ tk₁ k₁ => ?_)
  rw [if_pos (show (none : Option Value).isNone = true from rfl)]
  refine wpAny_bind (wpAny_rule (wpAny_bind ?_))
  have hl₁ := k₁ _ _ hl'
  refine wpAny_pyIter_list (⟨_, hl₁, rfl, _, rfl⟩ : h₁.IsList l vs) (wpAny_pure ?_)
  have k01 : ∀ b o, s.heap.get? b = some o → h₁.get? b = some o := fun b o e => k₁ b o (Heap.get?_push_of_some _ e)
  have hsz₁ : s.heap.objs.size < h₁.objs.size := by
    have h0 : (s.heap.push { cls := .type "dict", data := .dict #[] }).get? s.heap.objs.size = some { cls := .type "dict", data := .dict #[] } := Heap.get?_push_size _ rfl
    exact Heap.lt_size (k₁ _ _ h0)
  have hll : l < s.heap.objs.size := Heap.lt_size hl
  have hd₁ : h₁.DictOf (strKind prog w) s.heap.objs.size [] := hnew.keep k₁
  refine ⟨plainId_quiet plain_upd_loop _, upd_loop (prog := prog) (w := w) (A := A.in1) (i := 0) (I := h₁.objs.size) (l := l) (vs := vs) (n := n) hA (Nat.ne_of_lt hsz₁) (Nat.ne_of_lt (Nat.lt_trans hll hsz₁)) (Nat.ne_of_gt hll) ps [] _ (by simpa using hn) ?_ (Heap.get?_push_of_some _ hl₁) (hd₁.push _) (by simpa using hsz) (fun j hj => ?_) fun h₂ tk₂ hd₂ k₂ => ?_⟩
  · exact ⟨_, Heap.get?_push_size _ rfl, rfl, rfl⟩
  · obtain ⟨a, m, t, q1, q2⟩ := hps j hj
    have qa : a < s.heap.objs.size := Heap.lt_size q2
    exact ⟨a, m, t, by simpa using q1, Nat.ne_of_lt qa, Nat.ne_of_lt (Nat.lt_trans qa hsz₁), Heap.get?_push_of_some _ (k01 _ _ q2)⟩
  · refine ⟨rfl, h h₂ tk₂ hd₂ fun b o e => k₂ b o ?_ ?_ (Heap.get?_push_of_some _ (k01 b o e))⟩
    · exact Nat.ne_of_lt (Heap.lt_size e)
    · exact Nat.ne_of_lt (Nat.lt_trans (Heap.lt_size e) hsz₁)
end
end

section
set_option autoImplicit false
set_option linter.unusedVariables false
set_option maxRecDepth 100000
open PySem PyProof.Rows

noncomputable def dD (kds : List (Str × PyData)) : PyData := .dict (kds.map fun p => (.str p.1, p.2))
noncomputable def storedD (kds : List (Str × PyData)) (k : Str) (d : PyData) : List (Str × PyData) :=
  if kds.any (fun kv => kv.1 = k) then kds.map (fun kv => if kv.1 = k then (kv.1, d) else kv) else kds ++ [(k, d)]
noncomputable def storeAllD (kds : List (Str × PyData)) : List (Str × PyData) → List (Str × PyData)
  | [] => kds
  | (k, d) :: r => storeAllD (storedD kds k d) r

section
variable {prog : Program} {w : World} {Z : Addr → Prop} {h : Heap}
inductive Kv (prog : Program) (w : World) (Z : Addr → Prop) (h : Heap) : List (Str × Value) → List (Str × PyData) → Prop
  | nil : Kv prog w Z h [] []
  | cons {k : Str} {v : Value} {d : PyData} {r : List (Str × Value)} {rd : List (Str × PyData)} : Rd prog w Z h v d → Kv prog w Z h r rd → Kv prog w Z h ((k, v) :: r) ((k, d) :: rd)
theorem Kv.keys {kvs : List (Str × Value)} {kds : List (Str × PyData)} (x : Kv prog w Z h kvs kds) : kvs.map (·.1) = kds.map (·.1) := by
  induction x with
  | nil => rfl
  | cons _ _ ih => simp [ih]
theorem Kv.length {kvs : List (Str × Value)} {kds : List (Str × PyData)} (x : Kv prog w Z h kvs kds) : kvs.length = kds.length := by
  have := congrArg List.length x.keys; simpa using this
theorem Kv.append {kvs us : List (Str × Value)} {kds es : List (Str × PyData)} (x : Kv prog w Z h kvs kds) (y : Kv prog w Z h us es) : Kv prog w Z h (kvs ++ us) (kds ++ es) := by
  induction x with
  | nil => exact y
  | cons a _ ih => exact .cons a ih
theorem Kv.any {kvs : List (Str × Value)} {kds : List (Str × PyData)} (x : Kv prog w Z h kvs kds) (k : Str) : (kvs.any fun kv => kv.1 = k) = (kds.any fun kv => kv.1 = k) := by
  induction x with
  | nil => rfl
  | cons _ _ ih => simp [ih]
theorem Kv.put {kvs : List (Str × Value)} {kds : List (Str × PyData)} (x : Kv prog w Z h kvs kds) {k : Str} {v : Value} {d : PyData} (r : Rd prog w Z h v d) :
    Kv prog w Z h (kvs.map fun kv => if kv.1 = k then (kv.1, v) else kv) (kds.map fun kv => if kv.1 = k then (kv.1, d) else kv) := by
  induction x with
  | nil => exact .nil
  | @cons k' _ _ _ _ a _ ih =>
    simp only [List.map_cons]
    by_cases hk : k' = k
    · simp only [hk, if_true]; exact .cons r ih
    · simp only [hk, if_false]; exact .cons a ih
theorem Kv.stored {kvs : List (Str × Value)} {kds : List (Str × PyData)} (x : Kv prog w Z h kvs kds) {k : Str} {v : Value} {d : PyData} (r : Rd prog w Z h v d) : Kv prog w Z h (PySem.stored kvs k v) (storedD kds k d) := by
  unfold PySem.stored storedD
  rw [x.any k]
  split
  · exact x.put r
  · exact x.append (.cons r .nil)
theorem Kv.storeAll {ps : List (Str × Value)} {pd : List (Str × PyData)} (y : Kv prog w Z h ps pd) : ∀ {kvs : List (Str × Value)} {kds : List (Str × PyData)}, Kv prog w Z h kvs kds → Kv prog w Z h (storeAll kvs ps) (storeAllD kds pd) := by
  induction y with
  | nil => intro _ _ x; exact x
  | cons a _ ih => intro _ _ x; exact ih (x.stored a)
theorem Kv.at {kvs : List (Str × Value)} {kds : List (Str × PyData)} (x : Kv prog w Z h kvs kds) {k : Str} {d : PyData} (hl : kds.lookup k = some d) : ∃ v, valueAt kvs k = some v ∧ Rd prog w Z h v d := by
  induction x with
  | nil => cases hl
  | @cons k' v _ _ _ a _ ih =>
    rw [List.lookup_cons] at hl
    unfold valueAt
    rw [List.find?_cons]
    by_cases hk : k = k'
    · subst hk
      simp only [beq_self_eq_true] at hl
      cases hl
      exact ⟨v, by simp, a⟩
    · have hb : (k == k') = false := by simpa using hk
      rw [hb] at hl
      have hk' : ¬ k' = k := fun q => hk q.symm
      simp only [hk', decide_false]
      exact ih hl
theorem Kv.none {kvs : List (Str × Value)} {kds : List (Str × PyData)} (x : Kv prog w Z h kvs kds) {k : Str} (hl : kds.lookup k = none) : valueAt kvs k = none := by
  induction x with
  | nil => rfl
  | @cons k' v _ _ _ a _ ih =>
    rw [List.lookup_cons] at hl
    unfold valueAt
    rw [List.find?_cons]
    by_cases hk : k = k'
    · subst hk; simp at hl
    · have hb : (k == k') = false := by simpa using hk
      rw [hb] at hl
      have hk' : ¬ k' = k := fun q => hk q.symm
      simp only [hk', decide_false]
      exact ih hl
theorem kv_of {kvs : List (Str × Value)} {ds : List PyData} : Rds prog w Z h (kvs.map (·.2)) ds → ∃ kds : List (Str × PyData), Kv prog w Z h kvs kds ∧ zipKv kvs ds = kds.map fun p => (.str p.1, p.2) := by
  induction kvs generalizing ds with
  | nil => intro r; cases r; exact ⟨[], .nil, rfl⟩
  | cons p r ih =>
    obtain ⟨k, v⟩ := p
    intro x
    cases x with
    | cons a b =>
      obtain ⟨kds, y, e⟩ := ih b
      exact ⟨(k, _) :: kds, .cons a y, by simp only [zipKv, e, List.map_cons]⟩
theorem Kv.rds {kvs : List (Str × Value)} {kds : List (Str × PyData)} (x : Kv prog w Z h kvs kds) : Rds prog w Z h (kvs.map (·.2)) (kds.map (·.2)) ∧ zipKv kvs (kds.map (·.2)) = kds.map fun p => (.str p.1, p.2) := by
  induction x with
  | nil => exact ⟨.nil, rfl⟩
  | cons a _ ih => exact ⟨.cons a ih.1, by simp only [List.map_cons, zipKv, ih.2]⟩
theorem kds_inj : ∀ {a b : List (Str × PyData)}, (a.map fun p => (PyData.str p.1, p.2)) = (b.map fun p => (PyData.str p.1, p.2)) → a = b
  | [], [], _ => rfl
  | [], _ :: _, h => by simp at h
  | _ :: _, [], h => by simp at h
  | (k, d) :: a, (k', d') :: b, h => by
    simp only [List.map_cons, List.cons.injEq, Prod.mk.injEq, PyData.str.injEq] at h
    obtain ⟨⟨rfl, rfl⟩, h⟩ := h
    rw [kds_inj h]
theorem rd_dict_inv {v : Value} {kds : List (Str × PyData)} (r : Rd prog w Z h v (dD kds)) : ∃ a o kvs, v = .ref a ∧ h.get? a = some o ∧ ¬ Z a ∧ (a == sysModules) = false ∧ o.IsDictOf (strKind prog w) kvs ∧ Kv prog w Z h kvs kds := by
  unfold dD at r
  generalize hg : (kds.map fun p => (PyData.str p.1, p.2)) = kk at r
  cases r with
  | @dict a o kvs ds e z n k q =>
    obtain ⟨kds', y, e'⟩ := kv_of q
    rw [e'] at hg
    rw [kds_inj hg]
    exact ⟨a, o, kvs, rfl, e, z, n, k, y⟩
theorem rd_dict_mk {a : Addr} {o : Obj} {kvs : List (Str × Value)} {kds : List (Str × PyData)} (e : h.get? a = some o) (z : ¬ Z a) (n : (a == sysModules) = false) (k : o.IsDictOf (strKind prog w) kvs) (x : Kv prog w Z h kvs kds) : Rd prog w Z h (.ref a) (dD kds) := by
  obtain ⟨r, e'⟩ := x.rds
  have := Rd.dict e z n k r
  rwa [e'] at this
theorem Kv.keep {h' : Heap} {A : Around} (k : Ext A h h') {kvs : List (Str × Value)} {kds : List (Str × PyData)} (x : Kv prog w Z h kvs kds) : Kv prog w Z h' kvs kds := by
  induction x with
  | nil => exact .nil
  | cons a _ ih => exact .cons (a.keep k) ih
theorem rd_pairs {vs : List Value} {kds : List (Str × PyData)} (r : Rds prog w Z h vs (kds.map fun p => .tuple [.str p.1, p.2])) :
    ∃ ps : List (Str × Value), Kv prog w Z h ps kds ∧ ∀ j (hj : j < ps.length), ∃ a m t, vs[j]? = some (.ref a) ∧ h.get? a = some (tupO #[.str ps[j].1 t, ps[j].2] m) := by
  induction kds generalizing vs with
  | nil => exact ⟨[], .nil, fun j hj => by cases hj⟩
  | cons p kds ih =>
    obtain ⟨k, d⟩ := p
    cases r with
    | cons a b =>
      obtain ⟨ps, y, hp⟩ := ih b
      cases a with
      | @tuple ad us m _ e z q =>
        obtain ⟨us⟩ := us
        simp only at q
        cases q with
        | cons q1 q2 =>
          cases q2 with
          | cons q2 q3 =>
            cases q3
            cases q1 with
            | str _ t hs =>
              refine ⟨(k, _) :: ps, .cons q2 y, fun j hj => ?_⟩
              cases j with
              | zero => exact ⟨ad, m, t, rfl, e⟩
              | succ j => exact hp j (by simpa using hj)
end

section
variable {C : Cx} {A : Around} {env : Env} {Γ : Tab} {e e₁ e₂ : Expr} {μ : Bool} {d d₁ d₂ : PyData}

theorem In.big {m : Str → Option Value} {Z₀ Z : Addr → Prop} {h : Heap} (I : In C A env Z₀ Z Γ m h) : (h.objs.size == sysModules) = false := by
  obtain ⟨o, _, _, ho, _⟩ := I.base.g
  have : mainGlobals < h.objs.size := Heap.lt_size ho
  have h3 : mainGlobals = 3 := rfl
  have h1 : sysModules = 1 := rfl
  simp only [beq_eq_false_iff_ne]
  intro q
  rw [q, h3, h1] at this
  exact absurd this (by decide)
theorem e_dict {x : Str} {p pos : Pos} {kds : List (Str × PyData)} (hA : A.handled = none) (hb : Blt C env x (.type "dict")) (h : Ev C A env Γ e μ (.list (kds.map fun p => .tuple [.str p.1, p.2]))) (hn : notStar e = true) (hz : kds.length ≤ sizeLine) :
    Ev C A env Γ (.Call (.Name x p) [e] [] pos) μ (dD (storeAllD [] kds)) := fun E s m Z₀ Z I => by
  refine callTyp hb (by simp [hn]) (evs_cons h evs_nil hn) I fun vs s' kp I' r => ?_
  cases r with
  | cons r₁ r₂ =>
    cases r₂
    cases r₁ with
    | @list a us n _ he z q =>
      obtain ⟨ps, y, hp⟩ := rd_pairs q
      have hl := q.length
      simp only [Array.length_toList, List.length_map] at hl
      refine call_dict_pairs hA ps he (by rw [y.length, hl]) (by rw [y.length]; exact hz) (fun j hj => by
        obtain ⟨a, m, t, q1, q2⟩ := hp j hj
        exact ⟨a, m, t, by rw [← Array.getElem?_toList]; exact q1, q2⟩) fun h' tk hd hk => ?_
      obtain ⟨o, ho, hi⟩ := Heap.dictOf_iff.mp hd
      have ex : Ext A s'.heap h' := .of hk
      exact ⟨kp.trans ⟨⟨h', tk, rfl⟩, ex⟩, rd_dict_mk ho (I'.sel μ) I'.big hi ((y.storeAll .nil).keep ex)⟩
end
end

section
set_option autoImplicit false
set_option linter.unusedVariables false
set_option maxRecDepth 100000
open PySem PyProof.Rows PySem.W

section
variable {C : Cx} {A : Around} {env : Env} {Γ : Tab} {e e₁ e₂ : Expr} {μ : Bool} {d d₁ d₂ : PyData}

theorem e_keys {x : Str} {p pos : Pos} {kds : List (Str × PyData)} (hA : A.handled = none) (hb : Blt C env x (.type "list")) (h : Ev C A env Γ e false (dD kds)) (hn : notStar e = true) (hz : kds.length ≤ sizeLine) (hok : ∀ q ∈ kds, PyData.strOk q.1 = true) :
    Ev C A env Γ (.Call (.Name x p) [e] [] pos) μ (.list (kds.map fun q => .str q.1)) := fun E s m Z₀ Z I => by
  refine callTyp hb (by simp [hn]) (evs_cons h evs_nil hn) I fun vs s' kp I' r => ?_
  cases r with
  | cons r₁ r₂ =>
    cases r₂
    obtain ⟨a, o, kvs, rfl, he, z, ns, hd, y⟩ := rd_dict_inv r₁
    obtain ⟨es, ep, hx⟩ := id hd
    have hda : s'.heap.DictAt (strKind C.prog C.w) a kvs ep := ⟨o, es, he, hx⟩
    refine kdl_call (kdl_dict ns) hA hda (by rw [y.length]; exact hz) fun h' tk acc c hk hl hi => ?_
    have ex : Ext A s'.heap h' := .of hk
    refine ⟨kp.trans ⟨⟨h', tk, rfl⟩, ex⟩, .list (n := c) hl (I'.sel μ) ?_⟩
    have key : ∀ (vs : List Value) (kds : List (Str × PyData)), vs.length = kds.length → (∀ q ∈ kds, PyData.strOk q.1 = true) → (∀ (j : Nat) (v : Value), vs[j]? = some v → ∃ (q : Str × PyData) (t : Tok), kds[j]? = some q ∧ v = Value.str q.1 t) → Rds C.prog C.w (sel μ Z) h' vs (kds.map fun q => .str q.1) := by
      intro vs
      induction vs with
      | nil => intro kds hl _ _; cases kds with | nil => exact .nil | cons _ _ => cases hl
      | cons v vs ih =>
        intro kds hl ho hv
        cases kds with
        | nil => cases hl
        | cons q kds =>
          obtain ⟨q', t, e1, e2⟩ := hv 0 v rfl
          cases e1
          subst e2
          exact .cons (.str _ t (ho _ List.mem_cons_self)) (ih kds (by simpa using hl) (fun q hq => ho q (List.mem_cons_of_mem _ hq)) fun j v e => hv (j + 1) v e)
    refine key _ _ ?_ hok fun j v e => ?_
    · rw [Array.length_toList, hi.1, y.length]
    · obtain ⟨k, x, e1, e2⟩ := hi.2 j v (by rw [← Array.getElem?_toList]; exact e)
      obtain ⟨t, rfl⟩ := Value.isStrOf_shape e2
      have e3 : (kvs.map (·.1))[j]? = some k := by rw [List.getElem?_map, e1]; rfl
      rw [y.keys, List.getElem?_map] at e3
      cases hq : kds[j]? with
      | none => rw [hq] at e3; cases e3
      | some q => rw [hq] at e3; cases e3; exact ⟨q, t, rfl, rfl⟩

theorem e_getD {pos : Pos} {kds : List (Str × PyData)} {k : Str} (h₁ : Ev C A env Γ e₁ μ (dD kds)) (h₂ : Ev C A env Γ e₂ false (.str k)) (hl : kds.lookup k = some d) : Ev C A env Γ (.Subscript e₁ e₂ pos) μ d := fun E s m Z₀ Z I =>
  Subscript_ (h₁.go2 h₂ I fun v i s' kp I' r₁ r₂ => by
    obtain ⟨a, o, kvs, rfl, he, z, ns, hd, y⟩ := rd_dict_inv r₁
    cases r₂ with
    | str _ t hs =>
      obtain ⟨u, hu, ru⟩ := y.at hl
      have hdo : s'.heap.DictOf (strKind C.prog C.w) a kvs := Heap.dictOf_iff.mpr ⟨o, he, hd⟩
      obtain ⟨ops, ho⟩ := subscripted_ops e₂ (.ref a) (.str k t)
      exact tail_any hdo.typeIs slot_dict_getitem.lookup (wpAny_getItem_of (strKind_is _ _ k t) hdo.mapOf hu ⟨kp.trans (Kp.tok _ _), ru.keep (A := A) (Ext.refl _)⟩) ho)
theorem c_inD {pos : Pos} {kds : List (Str × PyData)} {k : Str} (h₁ : Ev C A env Γ e₁ false (.str k)) (h₂ : Ev C A env Γ e₂ false (dD kds)) (hm : behindInMarks .In e₂ = false) : Cd C A env Γ (.Compare e₁ [.In] [e₂] pos) (kds.lookup k).isSome := fun E s m Z₀ Z I =>
  wpAny_isTrue_Compare1 (h₁.go2 h₂ I fun i v s' kp I' r₂ r₁ => by
    obtain ⟨a, o, kvs, rfl, he, z, ns, hd, y⟩ := rd_dict_inv r₁
    cases r₂ with
    | str _ t hs =>
      have hdo : s'.heap.DictOf (strKind C.prog C.w) a kvs := Heap.dictOf_iff.mpr ⟨o, he, hd⟩
      refine wpAny_in_of (strKind_is _ _ k t) ns hdo.mapOf (wpAny_truthy_bool ⟨kp.trans (Kp.tok _ _), ?_⟩)
      cases hl : kds.lookup k with
      | none => rw [y.none hl]; rfl
      | some d => obtain ⟨u, hu, _⟩ := y.at hl; rw [hu]; rfl) hm

theorem rd_bools {Z : Addr → Prop} {h : Heap} {vs : List Value} {bs : List Bool} (r : Rds C.prog C.w Z h vs (bs.map .bool)) : vs = bs.map .bool := by
  induction bs generalizing vs with
  | nil => cases r; rfl
  | cons b bs ih => cases r with | cons a q => cases a; rw [ih q]; rfl
theorem range_any {bs : List Bool} : (List.range bs.length).any (fun i => bs.getD i false) = bs.any id := by
  induction bs with
  | nil => rfl
  | cons b bs ih => rw [List.length_cons, List.range_succ_eq_map, List.any_cons, List.any_map, List.any_cons]; congr 1
theorem truth_bools {bs : List Bool} {prog : Program} {w : World} {A : Around} : TruthOf prog w A (fun i v => ((bs.map Value.bool).toArray)[i]? = some v) (fun i => bs.getD i false) := fun i v s Q E hP hQ => by
  simp only [List.getElem?_toArray, List.getElem?_map] at hP
  cases hb : bs[i]? with
  | none => rw [hb] at hP; cases hP
  | some b =>
    rw [hb] at hP; cases hP
    have hQ' : Q (bs.getD i false) s := hQ
    rw [List.getD_eq_getElem?_getD, hb] at hQ'
    exact wpAny_truthy_bool hQ'
theorem e_any {x : Str} {p pos : Pos} {bs : List Bool} (hA : A.handled = none) (hb : Blt C env x (.builtin "any")) (h : Ev C A env Γ e false (.list (bs.map .bool))) (hn : notStar e = true) : Ev C A env Γ (.Call (.Name x p) [e] [] pos) μ (.bool (bs.any id)) := fun E s m Z₀ Z I => by
  refine callBlt hb (by simp [hn]) (evs_cons h evs_nil hn) I fun vs s' kp I' r => ?_
  cases r with
  | cons r₁ r₂ =>
    cases r₂
    cases r₁ with
    | @list a us n _ he z q =>
      have hus : us = (bs.map Value.bool).toArray := by rw [← rd_bools q]
      subst hus
      have hl : s'.heap.IsList a (bs.map Value.bool).toArray := ⟨_, he, rfl, _, rfl⟩
      refine call_any_walk (wpAny_pyIter_list hl ⟨_, _, _, _, _, _, _, rfl, Walks.list (A := A.in1) hA _ a (Nat.ne_of_lt (Heap.lt_size he)) _, ⟨⟨_, Heap.get?_push_size _ rfl, rfl, rfl⟩, ⟨_, Heap.get?_push_of_some _ he, rfl, _, rfl⟩⟩, truth_bools, fun h' tk hk => ?_⟩)
      have e1 : (bs.map Value.bool).toArray.size = bs.length := by simp
      rw [e1, range_any]
      exact ⟨kp.trans ⟨⟨h', tk, rfl⟩, .of fun b o e => hk b o (by simp; exact Nat.ne_of_lt (Heap.lt_size e)) (Heap.get?_push_of_some _ e)⟩, .bool _⟩
end
end

section
set_option autoImplicit false
set_option linter.unusedVariables false
set_option maxRecDepth 100000
open PySem PyProof.Rows PySem.W

section
variable {C : Cx} {A : Around} {env : Env} {Γ : Tab} {e e₁ e₂ : Expr} {μ : Bool} {d d₁ d₂ : PyData}

theorem dOk_strs (l : List Str) : DOk (.list (l.map .str)) 1 := DOk.list fun x hx => by
  obtain ⟨s, _, rfl⟩ := List.mem_map.mp hx
  exact DOk.flat rfl
theorem any_eqv_str (l : List Str) (s : Str) : ((l.map PyData.str).any fun y => PyData.eqv y (.str s)) = l.contains s := by
  induction l with
  | nil => rfl
  | cons a l ih =>
    rw [List.map_cons, List.any_cons, ih, eqv_str, List.contains_cons]
    congr 1
    rw [Bool.eq_iff_iff]; simp only [beq_iff_eq]; exact ⟨fun q => q.symm, fun q => q.symm⟩
theorem c_inL {n : Nat} {pos : Pos} {s : Str} {l : List Str} (hA : OkA A n) (h₁ : Ev C A env Γ e₁ false (.str s)) (h₂ : Ev C A env Γ e₂ false (.list (l.map .str))) (hm : behindInMarks .In e₂ = false) : Cd C A env Γ (.Compare e₁ [.In] [e₂] pos) (l.contains s) := by
  refine cd_cmp hA h₁ h₂ ?_ hm
  unfold cmpD
  have hd := dOk_strs l
  have h1 : noDict (.str s) = true := by simp [noDict]
  have h2 : (PyData.str s).depth = 0 := by simp [PyData.depth]
  show (if _ then some _ else none) = _
  rw [if_pos (by simp only [h1, hd.1, h2, Bool.true_and, decide_eq_true_eq]; omega), any_eqv_str]
theorem c_notInL {n : Nat} {pos : Pos} {s : Str} {l : List Str} (hA : OkA A n) (h₁ : Ev C A env Γ e₁ false (.str s)) (h₂ : Ev C A env Γ e₂ false (.list (l.map .str))) (hm : behindInMarks .NotIn e₂ = false) : Cd C A env Γ (.Compare e₁ [.NotIn] [e₂] pos) (!l.contains s) := by
  refine cd_cmp hA h₁ h₂ ?_ hm
  unfold cmpD
  have hd := dOk_strs l
  have h1 : noDict (.str s) = true := by simp [noDict]
  have h2 : (PyData.str s).depth = 0 := by simp [PyData.depth]
  show (if _ then some _ else none) = _
  rw [if_pos (by simp only [h1, hd.1, h2, Bool.true_and, decide_eq_true_eq]; omega), any_eqv_str]
end
end

section
set_option autoImplicit false
set_option linter.unusedVariables false
set_option maxRecDepth 100000
open PySem PyProof.Rows PySem.W

section
variable {C : Cx} {A : Around} {env : Env} {Γ : Tab} {μ : Bool} {E : Value → Shared → Prop} {scope : Scope} {Post : Out → Prop} {s₀ : Shared} {Z₀ : Addr → Prop}

theorem StW.drop {h₀ h h' : Heap} {H : List (Addr × Obj)} {V : List (Value × PyData)} {Z : Addr → Prop} {m : Str → Option Value} {L : Addr} (S : StW C A env h₀ Z₀ H V Γ h (fun a => Z a ∨ a = L) m) (nz : ¬ Z L) (h0 : h₀.get? L = none)
    (hl : env.locals ≠ L) (hc : ∀ x c, env.cells.lookup x = some c → c ≠ L) (ho : ∀ x ds, Γ.lookup x = some (.own ds) → m x ≠ some (.ref L)) (hor : ∀ x a R, Γ.lookup x = some (.reg a R) → ∀ p ∈ R, p.1 ≠ L) (hf : ¬ isFrame A L) (sb : Heap.SameBut L h h') : StW C A env h₀ Z₀ H V Γ h' Z m := by
  have kz : ∀ b o, ¬ (Z b ∨ b = L) → h.get? b = some o → h'.get? b = some o := fun b o n e => (sb.2 b fun q => n (.inr q)).trans e
  have hre : ∀ a o, h'.get? a = some o → Z a → (Z a ∨ a = L) := fun a o _ q => .inl q
  have keep' : Ext A h₀ h' := S.keep.mutOf h0 fun b o hb e => (sb.2 b hb).trans e
  have fr' : FrOk A h' := by
    obtain ⟨l, hl', hx⟩ := S.i.fr
    refine ⟨l, hl', fun e he => ?_⟩
    obtain ⟨h1, F, o, h2, h3, h4⟩ := hx e he
    have : F ≠ L := fun q => hf ⟨l, hl', e, he, by rw [h2, q]⟩
    exact ⟨h1, F, o, h2, (sb.2 F this).trans h3, h4⟩
  have zin : ∀ a, (Z a ∨ a = L) → a ≠ L → Z a := fun a q n => q.elim id fun q => absurd q n
  refine ⟨⟨S.i.fn, ⟨?_, fun x c e => (S.i.vars.cel x c e).sameBut sb (hc x c e), S.i.vars.hid⟩, fun x e l => ?_, S.b0.keep keep', ⟨fun a z => ?_, fun a z => S.i.z.k a (.inl z)⟩, fr', fun x c e => zin c (S.zc x c e) (hc x c e), S.cd⟩, S.b0, keep', fun a z => ⟨?_, (S.z0 a z).2⟩, zin _ S.zl hl, S.nl, fun x c e => zin c (S.zc x c e) (hc x c e), S.cd, fun p hp => ?_, fun p hp => ((S.vs p hp).keepZ kz).reZ hre, S.ow, S.rg⟩
  · obtain ⟨ml, hn, hm⟩ := S.i.vars.loc
    exact ⟨ml, hn.sameBut sb hl, hm⟩
  · have := S.i.ents x e l
    cases hv : m x with
    | none => rw [hv] at this; exact this
    | some v =>
      rw [hv] at this
      cases e with
      | fz d => exact (Rd.keepZ kz this).reZ hre
      | bor d =>
        have h0' : ¬ Z₀ L := fun q => by obtain ⟨_, o, e⟩ := S.z0 L q; rw [h0] at e; cases e
        exact (Rd.keepZ (fun b o n e => (sb.2 b fun q => n ⟨.inr q, q ▸ h0'⟩).trans e) this).reZ fun a o _ q => ⟨.inl q.1, q.2⟩
      | own ds =>
        obtain ⟨a, vs, n, rfl, e, z, r⟩ := this
        have hne : a ≠ L := fun q => ho x ds l (by rw [hv, q])
        exact ⟨a, vs, n, rfl, (sb.2 a hne).trans e, zin a z hne, (r.keepZ kz).reZ hre⟩
      | any => trivial
      | reg a R => exact ⟨this.1, fun p hp => let ⟨e, z, c, f⟩ := this.2 p hp; ⟨(sb.2 p.1 (hor x a R l p hp)).trans e, zin p.1 z (hor x a R l p hp), c, f⟩⟩
  · have hne : a ≠ L := fun q => nz (q ▸ z)
    obtain ⟨o, e⟩ := S.i.z.st a (.inl z)
    exact ⟨o, (sb.2 a hne).trans e⟩
  · have hne : a ≠ L := fun q => by obtain ⟨_, o, e⟩ := S.z0 a z; rw [q, h0] at e; cases e
    exact zin a (S.z0 a z).1 hne
  · obtain ⟨e, n, c⟩ := S.hs p hp
    exact ⟨(sb.2 p.1 fun q => n (.inr q)).trans e, fun q => n (.inl q), c⟩

theorem xs_compUse {x : Str} {xp pos : Pos} {elt target iter : Expr} {ifs : List Expr} {gens : List Comprehension} {cp : Pos} {n : Nat} {dat : Nat → PyData} (hs : swapsWith (.ListComp elt (⟨target, iter, ifs, 0⟩ :: gens) scope cp) (some (.Name x xp)) pos.line env = pure true)
    (hx : isLoc env x = true) (hO : Owned env s₀.heap x) (D : CompDef scope env) (src : Src C A env Γ iter n dat) (hsi : ∀ x, foldedSetIterable iter env x = pure x) (outs : Nat → List PyData) (hsz : ((List.range n).flatMap outs).length ≤ sizeLine)
    (turn : ∀ L s₀ Z₀ i, OwnC scope env L s₀ → i < n → Turn C A scope env (capT scope.names Γ) target ifs elt (⟨target, iter, ifs, 0⟩ :: gens) cp 0 L s₀ Z₀ (dat i) (outs i))
    (hp : Post (.next ((x, .fz (.list ((List.range n).flatMap outs))) :: Γ))) : Xs C A env s₀ Z₀ E Γ (.Assign [.Name x xp] (.ListComp elt (⟨target, iter, ifs, 0⟩ :: gens) scope cp) pos) Post := fun H V s ⟨ss, Z, m, S⟩ => by
  rw [exec_Assign_Name_used _ _ _ _ hs]
  refine wpAny_bind (wpAny_standAt (wpAny_bind ?_))
  show wpAny C.M A (comprehension _ scope env _ (newList []) false (eval iter env) (some (assign (.Name x xp) env)) >>= fun _ => pure ()) _ _ _
  refine wpAny_bind (comp_run (use := some (assign (.Name x xp) env)) D src hsi outs hsz turn S.i fun acc L s' vs j ml sm ex na nl hne hn ha r => ?_)
  obtain ⟨oL, esL, epL, hoL, hdL, hLr⟩ := id hn
  have S₁ := S.growE ex nl hoL
  have nzL : ¬ Z L := fun q => by obtain ⟨o, e⟩ := S.i.z.st L q; rw [nl] at e; cases e
  have nza : ¬ (Z acc ∨ acc = L) := fun q => q.elim (fun q => by obtain ⟨o, e⟩ := S.i.z.st acc q; rw [na] at e; cases e) hne
  have rd : Rd C.prog C.w (fun a => Z a ∨ a = L) s'.heap (.ref acc) (.list ((List.range n).flatMap outs)) := .list ha nza (r.reZ fun a o _ q => q.elim .inl fun q => .inr (.inl q))
  have hlL : env.locals ≠ L := fun q => by
    obtain ⟨ml', hn', _⟩ := S.i.vars.loc
    obtain ⟨o, _, _, ho, _⟩ := hn'
    rw [q, nl] at ho; cases ho
  have hcL : ∀ y c, env.cells.lookup y = some c → c ≠ L := fun y c e q => by
    obtain ⟨o, ho, _⟩ := S.i.vars.cel y c e
    rw [q, nl] at ho; cases ho
  have hfL : ¬ isFrame A L := fun q => by
    obtain ⟨o, ho, _⟩ := S.i.fr.noFields q
    rw [nl] at ho; cases ho
  have h0L : s₀.heap.get? L = none := by
    cases q : s₀.heap.get? L with
    | none => rfl
    | some o => obtain ⟨o', e, _⟩ := S.keep.stays q; rw [nl] at e; cases e
  show wpAny C.M A (assign (.Name x xp) env (.ref acc)) _ _ _
  refine wpAny_assign_Name (S₁.storeK (s := s') (en := .fz (.list ((List.range n).flatMap outs))) hx hO (fun h' hk => Rd.keepZ (fun b o nz e => hk b o (.inl nz) e) rd) (fun ds q => by cases q) (fun ds q => by cases q) (fun b R q => by cases q) fun h' tk hk' S₂ => ?_)
  refine ⟨ml, ⟨oL, esL, epL, hk' L oL (Ne.symm hlL) (fun c e => Ne.symm (hcL x c e)) hoL, hdL, hLr⟩, fun h'' sb => ?_⟩
  have S₃ := S₂.drop nzL h0L hlL hcL (fun y ds l e => by
    by_cases hy : y = x
    · subst hy; rw [lookup_cons_eq] at l; cases l
    · rw [lookup_cons_ne hy] at l
      simp only [upd, if_neg hy] at e
      have := S.i.ents y _ l
      rw [e] at this
      obtain ⟨b, us, k, e1, e2, _⟩ := this
      cases e1; rw [nl] at e2; cases e2) (fun y a R l p hp' q => by
    by_cases hy : y = x
    · subst hy; rw [lookup_cons_eq] at l; cases l
    · rw [lookup_cons_ne hy] at l
      exact S.regNew l hp' nl q) hfL sb
  exact wpAny_pure (wpAny_pure ⟨sm.trans (Same.trans ⟨h', tk, rfl⟩ ⟨h'', tk, rfl⟩), _, hp, ss.trans (sm.trans (Same.trans ⟨h', tk, rfl⟩ ⟨h'', tk, rfl⟩)), Z, _, S₃⟩)

theorem xs_compL {α : Type} {x : Str} {xp pos : Pos} {elt target iter : Expr} {ifs : List Expr} {gens : List Comprehension} {cp : Pos} (l : List α) (dat : α → PyData) (f : α → List PyData) (hs : swapsWith (.ListComp elt (⟨target, iter, ifs, 0⟩ :: gens) scope cp) (some (.Name x xp)) pos.line env = pure true)
    (hx : isLoc env x = true) (hO : Owned env s₀.heap x) (D : CompDef scope env) (src : Src C A env Γ iter l.length (fun i => (l.map dat).getD i .none)) (hsi : ∀ x, foldedSetIterable iter env x = pure x) (hsz : (l.flatMap f).length ≤ sizeLine)
    (turn : ∀ L s₀ Z₀ a, OwnC scope env L s₀ → a ∈ l → Turn C A scope env (capT scope.names Γ) target ifs elt (⟨target, iter, ifs, 0⟩ :: gens) cp 0 L s₀ Z₀ (dat a) (f a))
    (hp : Post (.next ((x, .fz (.list (l.flatMap f))) :: Γ))) : Xs C A env s₀ Z₀ E Γ (.Assign [.Name x xp] (.ListComp elt (⟨target, iter, ifs, 0⟩ :: gens) scope cp) pos) Post :=
  xs_compUse hs hx hO D src hsi (fun i => (l[i]?).elim [] f) (by rw [flat_get]; exact hsz) (fun L s₀ Z₀ i own hi => by
    rw [getD_map dat hi, List.getElem?_eq_getElem hi]
    exact turn L s₀ Z₀ l[i] own (List.getElem_mem hi)) (by rw [flat_get]; exact hp)
end
end

section
set_option autoImplicit false
set_option linter.unusedVariables false
set_option maxRecDepth 100000
open PySem PyProof.Rows PySem.W

section
variable {C : Cx} {A : Around} {env : Env} {Γ Γ₁ : Tab} {e e₁ e₂ : Expr} {μ : Bool} {d d₁ d₂ : PyData} {s₀ : Shared} {Z₀ : Addr → Prop} {E : Value → Shared → Prop} {Post : Out → Prop}

noncomputable def FnNew (C : Cx) (k : Nat) (f : Addr) (ds : List PyData) (out : List PyData) : Prop :=
  ∀ A E s Z vs, OkA A k → FrOk A s.heap → Base C s.heap → Zok C Z s.heap → Rds C.prog C.w Z s.heap vs ds →
    wpAny C.M A (call (.ref f) vs []) (fun v s' => Kp A s s' ∧ ∃ a us n, v = .ref a ∧ s.heap.get? a = none ∧ s'.heap.get? a = some (listO us n) ∧ Rds C.prog C.w (fun b => Z b ∨ b = a) s'.heap us.toList out) E s
theorem FnNew.ok {k : Nat} {f : Addr} {ds out : List PyData} (h : FnNew C k f ds out) : FnOk C k f ds (.list out) := fun A E s Z vs hA hf B hz r =>
  wpAny_mono (h A E s Z vs hA hf B hz r) (fun v s' ⟨kp, a, us, n, hv, na, ha, q⟩ => ⟨kp, by
    subst hv
    exact .list ha (fun z => by obtain ⟨o, e⟩ := hz.st a z; rw [na] at e; cases e) (q.reZ fun b o _ z => .inl z)⟩) fun _ _ x => x
theorem ev_and {rest : List Expr} {pos : Pos} {a b : Bool} (h₁ : Ev C A env Γ e₁ false (.bool a)) (h₂ : a = true → Ev C A env Γ (.BoolOp .And (e₂ :: rest) pos) false (.bool b)) : Ev C A env Γ (.BoolOp .And (e₁ :: e₂ :: rest) pos) μ (.bool (a && b)) := fun E s m Z₀ Z I =>
  BoolOp_and (h₁.go I fun v s' kp I' r => by
    cases r
    refine wpAny_truthy_bool ?_
    cases a with
    | false => exact ⟨kp, .bool _⟩
    | true => exact (h₂ rfl).go I' fun v s'' kp' _ r' => ⟨kp.trans kp', by cases r'; exact .bool _⟩)
theorem ev_op1 {op : BoolOp} {pos : Pos} (h : Ev C A env Γ e μ d) : Ev C A env Γ (.BoolOp op [e] pos) μ d := fun E s m Z₀ Z I => BoolOp_one (h E s m Z₀ Z I)
theorem e_inL {n : Nat} {pos : Pos} {s : Str} {l : List Str} (hA : OkA A n) (h₁ : Ev C A env Γ e₁ false (.str s)) (h₂ : Ev C A env Γ e₂ false (.list (l.map .str))) (hm : behindInMarks .In e₂ = false) : Ev C A env Γ (.Compare e₁ [.In] [e₂] pos) μ (.bool (l.contains s)) := by
  refine ev_cmp hA h₁ h₂ ?_ hm
  unfold cmpD
  have hd := dOk_strs l
  have h1 : noDict (.str s) = true := by simp [noDict]
  have h2 : (PyData.str s).depth = 0 := by simp [PyData.depth]
  show (if _ then some _ else none) = _
  rw [if_pos (by simp only [h1, hd.1, h2, Bool.true_and, decide_eq_true_eq]; omega), any_eqv_str]
end
end

section
set_option autoImplicit false
set_option linter.unusedVariables false
set_option maxRecDepth 100000
open PySem PyProof.Rows PySem.W

section
variable {C : Cx} {A : Around} {env : Env} {Γ Γc : Tab} {e e₁ e₂ : Expr} {μ : Bool} {d d₁ d₂ : PyData} {s₀ : Shared} {Z₀ : Addr → Prop} {E : Value → Shared → Prop} {Post : Out → Prop} {scope : Scope} {target elt iter : Expr} {ifs : List Expr} {gens : List Comprehension} {pos cp : Pos} {dep : Nat} {L : Addr}

theorem e_eqS {n : Nat} {pos : Pos} {a b : Str} (hA : OkA A n) (h₁ : Ev C A env Γ e₁ false (.str a)) (h₂ : Ev C A env Γ e₂ false (.str b)) : Ev C A env Γ (.Compare e₁ [.Eq] [e₂] pos) μ (.bool (a == b)) :=
  have h : cmpD .Eq (.str a) (.str b) = some (PyData.eqv (.str a) (.str b)) := if_pos (e := none) (cmp_room (d₁ := .str a) (d₂ := .str b) (k := 0) (DOk.flat rfl) ((DOk.flat rfl).mono (by omega)) (Nat.zero_le 100))
  ev_cmp hA h₁ h₂ (h.trans (by rw [eqv_str])) (marks_of rfl)

theorem cds_one {c : Expr} {b : Bool} (h : Cd C A env Γ c b) : Cds C A env Γ [c] b := ⟨b, h, fun q => q, fun q => q⟩
theorem turn_if {y : Str} {p : Pos} {d' : PyData} (b : Bool) (hg : gens[dep + 1]? = none) (hy : isLoc (compEnv scope env L) y = true) (hO : Owned (compEnv scope env L) s₀.heap y) (hn : Γc.lookup y = none) (hna : (y == (".acc" : Str)) = false)
    (hc : ∀ ds, Cds C A (compEnv scope env L) ((y, .fz d) :: (".acc", .own ds) :: Γc) ifs b) (ht : ∀ ds, b = true → Ev C A (compEnv scope env L) ((y, .fz d) :: (".acc", .own ds) :: Γc) elt true d') :
    Turn C A scope env Γc (.Name y p) ifs elt gens pos dep L s₀ Z₀ d (if b then [d'] else []) :=
  turn_name b hy hO hn hna hc (fun h => by rw [h]; rfl) fun ds h => by rw [if_pos h]; exact inn_emit hg (ht ds h)
theorem turn_all {y : Str} {p : Pos} {d' : PyData} (hg : gens[dep + 1]? = none) (hy : isLoc (compEnv scope env L) y = true) (hO : Owned (compEnv scope env L) s₀.heap y) (hn : Γc.lookup y = none) (hna : (y == (".acc" : Str)) = false)
    (ht : ∀ ds, Ev C A (compEnv scope env L) ((y, .fz d) :: (".acc", .own ds) :: Γc) elt true d') : Turn C A scope env Γc (.Name y p) [] elt gens pos dep L s₀ Z₀ d [d'] :=
  turn_name true hy hO hn hna (fun ds => rfl) (fun q => by cases q) fun ds _ => inn_emit hg (ht ds)
theorem e_map {α : Type} (l : List α) (dat : α → PyData) (f : α → PyData) (D : CompDef scope env) (src : Src C A env Γ iter (l.map dat).length (fun i => (l.map dat).getD i .none)) (hs : ∀ x, foldedSetIterable iter env x = pure x) (hsz : l.length ≤ sizeLine)
    (turn : ∀ L s₀ Z₀ a, OwnC scope env L s₀ → a ∈ l → Turn C A scope env (capT scope.names Γ) target ifs elt (⟨target, iter, ifs, 0⟩ :: gens) cp 0 L s₀ Z₀ (dat a) [f a]) :
    Ev C A env Γ (.ListComp elt (⟨target, iter, ifs, 0⟩ :: gens) scope cp) μ (.list (l.map f)) :=
  (e_comp l dat (fun a => [f a]) D (src.cast (by simp) rfl) hs (by rw [flat_one, List.length_map]; exact hsz) turn).cast (by rw [flat_one])
theorem xs_filter {α : Type} {x : Str} {xp : Pos} (l : List α) (dat : α → PyData) (p : α → Bool) (f : α → PyData) (hs : swapsWith (.ListComp elt (⟨target, iter, ifs, 0⟩ :: gens) scope cp) (some (.Name x xp)) pos.line env = pure true)
    (hx : isLoc env x = true) (hO : Owned env s₀.heap x) (D : CompDef scope env) (src : Src C A env Γ iter (l.map dat).length (fun i => (l.map dat).getD i .none)) (hsi : ∀ x, foldedSetIterable iter env x = pure x) (hsz : l.length ≤ sizeLine)
    (turn : ∀ L s₀ Z₀ a, OwnC scope env L s₀ → a ∈ l → Turn C A scope env (capT scope.names Γ) target ifs elt (⟨target, iter, ifs, 0⟩ :: gens) cp 0 L s₀ Z₀ (dat a) (if p a then [f a] else []))
    (hp : Post (.next ((x, .fz (.list ((l.filter p).map f))) :: Γ))) : Xs C A env s₀ Z₀ E Γ (.Assign [.Name x xp] (.ListComp elt (⟨target, iter, ifs, 0⟩ :: gens) scope cp) pos) Post :=
  xs_compL l dat (fun a => if p a then [f a] else []) hs hx hO D (src.cast (by simp) rfl) hsi (by rw [flat_if, List.length_map]; exact Nat.le_trans (List.length_filter_le _ _) hsz) turn (by rw [flat_if]; exact hp)
end
end

section
set_option autoImplicit false
set_option linter.unusedVariables false
set_option maxRecDepth 100000
open PySem PyProof.Rows PySem.W

section
variable {C : Cx} {A : Around} {env : Env} {Γ Γc : Tab} {e e₁ e₂ : Expr} {μ : Bool} {d d₁ d₂ : PyData} {s₀ : Shared} {Z₀ : Addr → Prop} {E : Value → Shared → Prop} {Post : Out → Prop} {scope : Scope} {target elt iter : Expr} {ifs : List Expr} {gens : List Comprehension} {pos cp : Pos} {dep : Nat} {L : Addr}

theorem dOk_ints (l : List Int) : DOk (.list (l.map .int)) 1 := DOk.list fun x hx => by
  obtain ⟨i, _, rfl⟩ := List.mem_map.mp hx
  exact DOk.flat rfl
theorem any_eqv_int (l : List Int) (i : Int) : ((l.map PyData.int).any fun y => PyData.eqv y (.int i)) = l.contains i := by
  induction l with
  | nil => rfl
  | cons a l ih =>
    rw [List.map_cons, List.any_cons, ih, eqv_int, List.contains_cons]
    congr 1
    by_cases h : a = i
    · subst h; rfl
    · rw [beq_eq_false_iff_ne.mpr h, beq_eq_false_iff_ne.mpr (Ne.symm h)]
theorem cmp_inI (l : List Int) (i : Int) : cmpD .In (.int i) (.list (l.map .int)) = some (l.contains i) := by
  have h1 : DOk (.int i) 0 := DOk.flat rfl
  have h2 := dOk_ints l
  have h3 := h1.2
  show (if _ then some _ else none) = _
  rw [if_pos (by simp only [h1.1, h2.1, Bool.true_and, decide_eq_true_eq]; omega), any_eqv_int]
end
end

section
set_option autoImplicit false
set_option linter.unusedVariables false
set_option maxRecDepth 100000
open PySem PyProof.Rows PySem.W

noncomputable abbrev TF := Str → Nat → Nat → Bool
noncomputable def setT (T : TF) (h : Str) (i j : Nat) : TF := fun h' i' j' => if h' = h ∧ i' = i ∧ j' = j then true else T h' i' j'
noncomputable def tabD (hs : List Str) (n : Nat) (T : TF) : PyData := dD (hs.map fun h => (h, .list ((List.range n).map fun i => .list ((List.range n).map fun j => .bool (T h i j)))))

noncomputable def nodesOf (a : Addr) (sh : List (Addr × List Addr)) : List Addr := a :: sh.flatMap fun q => q.1 :: q.2
noncomputable abbrev rowO (n : Nat) (f : Nat → Bool) (c : Nat) : Obj := listO ((List.range n).map fun j => Value.bool (f j)).toArray c
structure RegT (C : Cx) (a : Addr) (R : List (Addr × Obj)) (hs : List Str) (n : Nat) (T : TF) (sh : List (Addr × List Addr)) : Prop where
  len : sh.length = hs.length
  top : ∃ o, (a, o) ∈ R ∧ o.IsDictOf (strKind C.prog C.w) (hs.zip (sh.map fun q => Value.ref q.1))
  ns : (a == sysModules) = false
  tab : ∀ k (h : k < sh.length), ∃ c, (sh[k].1, listO (sh[k].2.map Value.ref).toArray c) ∈ R
  row : ∀ k (h : k < sh.length) (h' : k < hs.length), sh[k].2.length = n ∧ ∀ i (hi : i < sh[k].2.length), ∃ c, (sh[k].2[i], rowO n (T hs[k] i) c) ∈ R
  nd : (nodesOf a sh).Nodup
  all : ∀ p ∈ R, ∀ vs k, p.2 = listO vs k → ∃ v ∈ vs.toList, ∀ i t, v ≠ Value.int i t

section
variable {prog : Program} {w : World} {Z : Addr → Prop} {h : Heap}
theorem rds_of {vs : List Value} {ds : List PyData} (hl : vs.length = ds.length) (hr : ∀ i (h1 : i < vs.length) (h2 : i < ds.length), Rd prog w Z h vs[i] ds[i]) : Rds prog w Z h vs ds := by
  induction vs generalizing ds with
  | nil => cases ds with | nil => exact .nil | cons _ _ => cases hl
  | cons v vs ih =>
    cases ds with
    | nil => cases hl
    | cons d ds => exact .cons (hr 0 (by simp) (by simp)) (ih (by simpa using hl) fun i h1 h2 => hr (i + 1) (by simpa using h1) (by simpa using h2))
theorem kv_zip {f : Str → PyData} {hs : List Str} {us : List Value} (hl : us.length = hs.length) (hr : ∀ k (h1 : k < us.length) (h2 : k < hs.length), Rd prog w Z h us[k] (f hs[k])) : Kv prog w Z h (hs.zip us) (hs.map fun h => (h, f h)) := by
  induction hs generalizing us with
  | nil => exact .nil
  | cons x hs ih =>
    cases us with
    | nil => cases hl
    | cons u us => exact .cons (hr 0 (by simp) (by simp)) (ih (by simpa using hl) fun i h1 h2 => hr (i + 1) (by simpa using h1) (by simpa using h2))
theorem rds_bools (n : Nat) (f : Nat → Bool) : Rds prog w Z h ((List.range n).map fun j => Value.bool (f j)) ((List.range n).map fun j => PyData.bool (f j)) := by
  refine rds_of (by simp) fun i h1 h2 => ?_
  rw [List.getElem_map, List.getElem_map]
  exact .bool _
end
theorem valueAt_zip {hs : List Str} {us : List Value} (hn : hs.Nodup) {k : Nat} (h1 : k < hs.length) (h2 : k < us.length) : valueAt (hs.zip us) hs[k] = some us[k] := by
  induction hs generalizing us k with
  | nil => simp at h1
  | cons x hs ih =>
    cases us with
    | nil => simp at h2
    | cons u us =>
      obtain ⟨n1, n2⟩ := List.nodup_cons.mp hn
      unfold valueAt
      rw [List.zip_cons_cons, List.find?_cons]
      cases k with
      | zero => simp
      | succ k =>
        have hne : ¬ x = hs[k]'(by simpa using h1) := fun q => n1 (q ▸ List.getElem_mem _)
        simp only [List.getElem_cons_succ, hne, decide_false]
        exact ih n2 (by simpa using h1) (by simpa using h2)

section
variable {C : Cx} {A : Around} {env : Env} {Γ : Tab} {e e₁ e₂ e₃ : Expr} {μ : Bool} {d : PyData} {s₀ : Shared} {Z₀ : Addr → Prop} {E : Value → Shared → Prop} {Post : Out → Prop} {a : Addr} {R : List (Addr × Obj)} {hs : List Str} {n : Nat} {T : TF} {sh : List (Addr × List Addr)}

theorem RegT.rd {Z : Addr → Prop} {h : Heap} (r : RegT C a R hs n T sh) (hh : ∀ p ∈ R, h.get? p.1 = some p.2) (hz : ∀ p ∈ R, ¬ Z p.1) : Rd C.prog C.w Z h (.ref a) (tabD hs n T) := by
  obtain ⟨o, ho, hd⟩ := r.top
  have hl := r.len
  refine rd_dict_mk (hh _ ho) (hz _ ho) r.ns hd (kv_zip (f := fun x => .list ((List.range n).map fun i => .list ((List.range n).map fun j => .bool (T x i j)))) (by simp [hl]) fun k h1 h2 => ?_)
  have hk : k < sh.length := by omega
  rw [List.getElem_map]
  obtain ⟨c, hc⟩ := r.tab k hk
  obtain ⟨q1, q2⟩ := r.row k hk h2
  refine .list (hh _ hc) (hz _ hc) ?_
  show Rds _ _ _ _ (sh[k].2.map Value.ref) _
  refine rds_of (by simp [q1]) fun i h3 h4 => ?_
  rw [List.getElem_map, List.getElem_map, List.getElem_range]
  obtain ⟨c', hc'⟩ := q2 i (by simpa using h3)
  exact .list (hh _ hc') (hz _ hc') (rds_bools n _)

theorem In.reg {m : Str → Option Value} {Z : Addr → Prop} {h : Heap} {x : Str} (I : In C A env Z₀ Z Γ m h) (l : Γ.lookup x = some (.reg a R)) : m x = some (.ref a) ∧ ∀ p ∈ R, h.get? p.1 = some p.2 ∧ Z p.1 ∧ p.2.cls ≠ .type "frame" ∧ ∀ us, p.2.data ≠ .fields us := by
  have := I.ents x _ l
  cases hv : m x with
  | none => rw [hv] at this; exact this.elim
  | some v => rw [hv] at this; obtain ⟨rfl, q⟩ := this; exact ⟨rfl, q⟩
theorem ev_reg {x : Str} {p : Pos} (hx : isVar env x = true) (l : Γ.lookup x = some (.reg a R)) (r : RegT C a R hs n T sh) : Ev C A env Γ (.Name x p) false (tabD hs n T) := fun E s m Z₀ Z I => by
  obtain ⟨h1, h2, h3⟩ := isVar_spec hx
  obtain ⟨hm, hh⟩ := I.reg l
  exact loadVar I h1 hm ⟨Kp.refl s, r.rd (fun p hp => (hh p hp).1) fun _ _ q => q⟩ h2 h3

theorem StW.freezeR {h₀ h : Heap} {H : List (Addr × Obj)} {V : List (Value × PyData)} {Z : Addr → Prop} {m : Str → Option Value} {x : Str} (S : StW C A env h₀ Z₀ H V Γ h Z m) (l : Γ.lookup x = some (.reg a R)) (r : RegT C a R hs n T sh) : ∃ Z', StW C A env h₀ Z₀ H V ((x, .fz (tabD hs n T)) :: Γ) h Z' m := by
  obtain ⟨hm, hh⟩ := S.i.reg l
  obtain ⟨r1, r2, r3⟩ := S.rg x a R l
  have hz : ∀ b o, h.get? b = some o → (Z b ∧ ∀ p ∈ R, b ≠ p.1) → Z b := fun b o _ q => q.1
  have zc' : ∀ y c, env.cells.lookup y = some c → Z c ∧ ∀ p ∈ R, c ≠ p.1 := fun y c ec => ⟨S.zc y c ec, fun p hp => (r1 p hp).2.2 y c ec⟩
  refine ⟨fun b => Z b ∧ ∀ p ∈ R, b ≠ p.1, ⟨S.i.fn, S.i.vars, fun y en ly => ?_, S.i.base, ⟨fun b q => S.i.z.st b q.1, fun b q => S.i.z.k b q.1⟩, S.i.fr, zc', S.cd⟩, S.b0, S.keep, fun b q => ⟨⟨(S.z0 b q).1, fun p hp q' => ?_⟩, (S.z0 b q).2⟩, ⟨S.zl, fun p hp q => (r1 p hp).2.1 q.symm⟩, S.nl, zc', S.cd, fun p hp => ⟨(S.hs p hp).1, fun q => (S.hs p hp).2.1 q.1, (S.hs p hp).2.2⟩, fun p hp => (S.vs p hp).reZ hz, fun y es b ly eb => ?_, fun y b R' ly => ?_⟩
  · by_cases hyx : y = x
    · subst hyx
      rw [lookup_cons_eq] at ly; cases ly
      rw [hm]
      exact r.rd (fun p hp => (hh p hp).1) fun p hp q => q.2 p hp rfl
    · rw [lookup_cons_ne hyx] at ly
      have := S.i.ents y en ly
      cases hvy : m y with
      | none => rw [hvy] at this; exact this
      | some v =>
        rw [hvy] at this
        cases en with
        | fz d => exact Rd.reZ hz this
        | bor d => exact Rd.reZ (fun b o e q => ⟨q.1.1, q.2⟩) this
        | own es =>
          obtain ⟨b, us, n', rfl, e', z', r'⟩ := this
          exact ⟨b, us, n', rfl, e', ⟨z', fun p hp q => r2 y es ly p hp (by rw [hvy, q])⟩, r'.reZ hz⟩
        | any => trivial
        | reg b R' => exact absurd (r3 y b R' ly) hyx
  · subst q'
    obtain ⟨_, o, e'⟩ := S.z0 _ q
    rw [(r1 p hp).1] at e'; cases e'
  · by_cases hyx : y = x
    · subst hyx; rw [lookup_cons_eq] at ly; cases ly
    · rw [lookup_cons_ne hyx] at ly
      obtain ⟨q1, q2⟩ := S.ow y es b ly eb
      refine ⟨q1, fun w' fs lw ew => ?_⟩
      by_cases hwx : w' = x
      · subst hwx; rw [lookup_cons_eq] at lw; cases lw
      · rw [lookup_cons_ne hwx] at lw; exact q2 w' fs lw ew
  · by_cases hyx : y = x
    · subst hyx; rw [lookup_cons_eq] at ly; cases ly
    · rw [lookup_cons_ne hyx] at ly
      exact absurd (r3 y b R' ly) hyx
theorem ex_freezeR {x : Str} {ss : List Stmt} (l : Γ.lookup x = some (.reg a R)) (r : RegT C a R hs n T sh) (h : Ex C A env s₀ Z₀ E ((x, .fz (tabD hs n T)) :: Γ) ss Post) : Ex C A env s₀ Z₀ E Γ ss Post := fun H V s ⟨ss, Z, m, S⟩ => by
  obtain ⟨Z', S'⟩ := S.freezeR l r
  exact h H V s ⟨ss, Z', m, S'⟩

theorem xs_regDict {x : Str} {p q pos : Pos} (hx : isLoc env x = true) (hO : Owned env s₀.heap x) (hnr : ∀ y b R, y ≠ x → Γ.lookup y ≠ some (.reg b R)) (T : TF) (n : Nat)
    (hp : ∀ a R, RegT C a R [] n T [] → Post (.next ((x, .reg a R) :: Γ))) : Xs C A env s₀ Z₀ E Γ (.Assign [.Name x p] (.Dict [] [] q) pos) Post := fun H V s ⟨ss, Z, m, S⟩ => by
  refine wpAny_Assign_Name (wpAny_Dict_empty ?_) rfl
  have hnone : s.heap.get? s.heap.objs.size = none := Heap.get?_none_of_le (Nat.le_refl _)
  have hno : s₀.heap.get? s.heap.objs.size = none := by
    cases e : s₀.heap.get? s.heap.objs.size with
    | none => rfl
    | some o => obtain ⟨o', q, _⟩ := S.keep.stays e; rw [hnone] at q; cases q
  have hd0 : ({ cls := .type "dict", data := .dict #[] } : Obj).IsDictOf (strKind C.prog C.w) [] := ⟨#[], 0, ⟨rfl, rfl, rfl⟩, rfl, fun _ he => by simp at he, Pairs.nil, List.nodup_nil⟩
  have hgt : (s.heap.push { cls := .type "dict", data := .dict #[] }).get? s.heap.objs.size = some { cls := .type "dict", data := .dict #[] } := Heap.get?_push_size _ rfl
  have hl : s.heap.objs.size ≠ env.locals := fun q => by
    obtain ⟨ml, hn, _⟩ := S.i.vars.loc
    obtain ⟨o, _, _, ho, _⟩ := hn
    rw [← q, hnone] at ho; cases ho
  have hcl : ∀ y c, env.cells.lookup y = some c → c ≠ s.heap.objs.size := fun y c e q => by
    obtain ⟨o, ho, _⟩ := S.i.vars.cel y c e
    rw [q, hnone] at ho; cases ho
  have S' := S.grow { cls := .type "dict", data := .dict #[] } rfl
  refine S'.storeR (s := { s with heap := s.heap.push { cls := .type "dict", data := .dict #[] } }) (en := .reg s.heap.objs.size [(s.heap.objs.size, { cls := .type "dict", data := .dict #[] })]) hx hO (fun h' _ hk => ⟨rfl, fun p hp => ?_⟩) (fun ds q => nomatch q) (fun ds q => nomatch q) (fun b R q => ?_) fun h' tk _ S'' => ⟨⟨h', tk, rfl⟩, _, hp _ _ ?_, ss.trans ⟨h', tk, rfl⟩, _, _, S''⟩
  · cases List.mem_singleton.mp hp
    exact ⟨hk _ _ hl hcl hgt, .inr rfl, by show Value.type "dict" ≠ _; decide, fun us q => by cases q⟩
  · cases q
    refine ⟨fun p hp => ?_, fun y ds hy l p hp e => ?_, fun y c R' hy => hnr y c R' hy⟩
    · cases List.mem_singleton.mp hp
      exact ⟨hno, hl, hcl⟩
    · cases List.mem_singleton.mp hp
      have := S.i.ents y _ l
      rw [e] at this
      obtain ⟨a, vs, n, e1, e2, _⟩ := this
      cases e1; rw [hnone] at e2; cases e2
  · exact ⟨rfl, ⟨_, List.mem_singleton.mpr rfl, hd0⟩, S.i.big, fun k h => absurd h (Nat.not_lt_zero k), fun k h => absurd h (Nat.not_lt_zero k), by simp [nodesOf], fun p hp vs k q => by cases List.mem_singleton.mp hp; have q2 := congrArg Obj.data q; cases q2⟩

noncomputable def repl (R : List (Addr × Obj)) (c : Addr) (o : Obj) : List (Addr × Obj) := R.map fun p => if p.1 = c then (c, o) else p
theorem repl_other {c x : Addr} {o ox : Obj} (h : (x, ox) ∈ R) (hne : x ≠ c) : (x, ox) ∈ repl R c o := List.mem_map.mpr ⟨(x, ox), h, by simp [hne]⟩
theorem repl_self {c : Addr} {o o' : Obj} (h : (c, o') ∈ R) : (c, o) ∈ repl R c o := List.mem_map.mpr ⟨(c, o'), h, by simp⟩
theorem repl_cases {c : Addr} {o : Obj} {p : Addr × Obj} (h : p ∈ repl R c o) : (p = (c, o) ∧ ∃ o', (c, o') ∈ R) ∨ (p ∈ R ∧ p.1 ≠ c) := by
  obtain ⟨q, hq, e⟩ := List.mem_map.mp h
  by_cases hc : q.1 = c
  · rw [if_pos hc] at e
    exact .inl ⟨e.symm, q.2, hc ▸ hq⟩
  · rw [if_neg hc] at e
    subst e; exact .inr ⟨hq, hc⟩

theorem StW.regMut {h₀ h h' : Heap} {H : List (Addr × Obj)} {V : List (Value × PyData)} {Z : Addr → Prop} {m : Str → Option Value} {x : Str} {c : Addr} {o o' : Obj} (S : StW C A env h₀ Z₀ H V Γ h Z m) (l : Γ.lookup x = some (.reg a R)) (hc : (c, o') ∈ R) (sb : Heap.SameBut c h h') (ho : h'.get? c = some o)
    (hcl : o.cls ≠ .type "frame") (hf : ∀ us, o.data ≠ .fields us) (hd : ∀ es ep, o'.data = .dict es ep → o.cls = o'.cls ∧ ∃ es ep, o.data = .dict es ep) : StW C A env h₀ Z₀ H V ((x, .reg a (repl R c o)) :: Γ) h' Z m := by
  obtain ⟨hm, hh⟩ := S.i.reg l
  obtain ⟨r1, r2, r3⟩ := S.rg x a R l
  obtain ⟨ec, zc, _⟩ := hh _ hc
  obtain ⟨nc, nl, ncc⟩ := r1 _ hc
  have hv : Vars env h' m := by
    refine ⟨?_, fun y k ek => (S.i.vars.cel y k ek).sameBut sb (ncc y k ek), S.i.vars.hid⟩
    obtain ⟨ml, hn, hml⟩ := S.i.vars.loc
    exact ⟨ml, hn.sameBut sb (Ne.symm nl), hml⟩
  have := S.mut (a := c) (x := x) (v := .ref a) (en := .reg a (repl R c o)) zc nc sb ho (S.i.fr.mut (fun b o hb e => (sb.2 b hb).trans e) fun o₂ es ep e2 q2 => by
      rw [ec] at e2; cases e2
      obtain ⟨q3, q4⟩ := hd es ep q2
      exact ⟨o, ho, q3, q4⟩) (fun y ds hy ly => r2 y ds ly _ hc) (fun y b R' hy ly => absurd (r3 y b R' ly) hy) (by rw [upd_self hm]; exact hv)
    ⟨rfl, fun p hp => ?_⟩ (fun ds q => nomatch q) (fun ds q => nomatch q) (fun b R' q => ?_)
  · rwa [upd_self hm] at this
  · rcases repl_cases hp with ⟨rfl, _⟩ | ⟨q, hne⟩
    · exact ⟨ho, zc, hcl, hf⟩
    · obtain ⟨e, z⟩ := hh p q
      exact ⟨(sb.2 p.1 hne).trans e, z⟩
  · cases q
    refine ⟨fun p hp => ?_, fun y ds hy ly p hp => ?_, fun y b R' hy ly => hy (r3 y b R' ly)⟩
    · rcases repl_cases hp with ⟨rfl, _⟩ | ⟨q, _⟩
      · exact ⟨nc, nl, ncc⟩
      · exact r1 p q
    · rcases repl_cases hp with ⟨rfl, _⟩ | ⟨q, _⟩
      · have := r2 y ds ly (c, o') hc
        exact this
      · exact r2 y ds ly p q

theorem StW.regAdd {h₀ h h' : Heap} {H Rn : List (Addr × Obj)} {V : List (Value × PyData)} {Z : Addr → Prop} {m : Str → Option Value} {x : Str} (S : StW C A env h₀ Z₀ H V Γ h Z m) (l : Γ.lookup x = some (.reg a R)) (k : Ext A h h')
    (hn : ∀ p ∈ Rn, h.get? p.1 = none ∧ h'.get? p.1 = some p.2 ∧ p.2.cls ≠ .type "frame" ∧ ∀ us, p.2.data ≠ .fields us) : StW C A env h₀ Z₀ H V ((x, .reg a (R ++ Rn)) :: Γ) h' (fun b => Z b ∨ ∃ p ∈ Rn, b = p.1) m := by
  obtain ⟨hm, hh⟩ := S.i.reg l
  obtain ⟨r1, r2, r3⟩ := S.rg x a R l
  have hz : ∀ b o, h.get? b = some o → (Z b ∨ ∃ p ∈ Rn, b = p.1) → Z b := fun b o e q => q.elim id fun ⟨p, hp, q⟩ => by rw [q, (hn p hp).1] at e; cases e
  have S' := S.ext k
  have hno : ∀ p ∈ Rn, h₀.get? p.1 = none := fun p hp => by
    cases e : h₀.get? p.1 with
    | none => rfl
    | some o => obtain ⟨o', q, _⟩ := S.keep.stays e; rw [(hn p hp).1] at q; cases q
  refine ⟨⟨S.i.fn, S'.i.vars, fun y en ly => ?_, S'.i.base, ⟨fun b q => ?_, fun b q => ?_⟩, S'.i.fr, fun y c e => .inl (S.zc y c e), S.cd⟩, S.b0, S'.keep, fun b q => ⟨.inl (S.z0 b q).1, (S.z0 b q).2⟩, .inl S.zl, S.nl, fun y c e => .inl (S.zc y c e), S.cd, fun p hp => ?_, fun p hp => ((S.vs p hp).reZ hz).keep k, fun y ds b ly eb => ?_, fun y b R' ly => ?_⟩
  · by_cases hyx : y = x
    · subst hyx
      rw [lookup_cons_eq] at ly; cases ly
      rw [hm]
      refine ⟨rfl, fun p hp => ?_⟩
      rcases List.mem_append.mp hp with q | q
      · obtain ⟨e, z, c, f⟩ := hh p q
        exact ⟨k.at e c, .inl z, c, f⟩
      · obtain ⟨_, e, c, f⟩ := hn p q
        exact ⟨e, .inr ⟨p, q, rfl⟩, c, f⟩
    · rw [lookup_cons_ne hyx] at ly
      have := S.i.ents y en ly
      cases hvy : m y with
      | none => rw [hvy] at this; exact this
      | some v =>
        rw [hvy] at this
        cases en with
        | fz d => exact (Rd.reZ hz this).keep k
        | bor d => exact (Rd.reZ (fun b o e q => ⟨hz b o e q.1, q.2⟩) this).keep k
        | own es => obtain ⟨b, vs, n, rfl, e, z, r⟩ := this; exact ⟨b, vs, n, rfl, k.at e listO_cls, .inl z, (r.reZ hz).keep k⟩
        | any => trivial
        | reg b R' => exact absurd (r3 y b R' ly) hyx
  · rcases q with q | ⟨p, hp, rfl⟩
    · exact S'.i.z.st b q
    · exact ⟨_, (hn p hp).2.1⟩
  · rcases q with q | ⟨p, hp, rfl⟩
    · exact S.i.z.k b q
    · cases e : C.K.lookup p.1 with
      | none => rfl
      | some o' => have := S.i.base.k _ _ e; rw [(hn p hp).1] at this; cases this
  · obtain ⟨e, d⟩ := S.hs p hp
    exact ⟨k.at e d.2, fun q => d.1 (hz _ _ e q), d.2⟩
  · by_cases hyx : y = x
    · subst hyx; rw [lookup_cons_eq] at ly; cases ly
    · rw [lookup_cons_ne hyx] at ly
      obtain ⟨q1, q2⟩ := S.ow y ds b ly eb
      refine ⟨q1, fun w' fs lw ew => ?_⟩
      by_cases hwx : w' = x
      · subst hwx; rw [lookup_cons_eq] at lw; cases lw
      · rw [lookup_cons_ne hwx] at lw; exact q2 w' fs lw ew
  · by_cases hyx : y = x
    · subst hyx
      rw [lookup_cons_eq] at ly; cases ly
      refine ⟨fun p hp => ?_, fun w' ds lw p hp ew => ?_, fun w' c R' lw => ?_⟩
      · rcases List.mem_append.mp hp with q | q
        · exact r1 p q
        · refine ⟨hno p q, fun e => ?_, fun w' c ec e => ?_⟩
          · obtain ⟨ml, hnn, _⟩ := S.i.vars.loc
            obtain ⟨o, _, _, ho, _⟩ := hnn
            rw [← e, (hn p q).1] at ho; cases ho
          · obtain ⟨o, ho, _⟩ := S.i.vars.cel w' c ec
            rw [e, (hn p q).1] at ho; cases ho
      · by_cases hwx : w' = y
        · subst hwx; rw [lookup_cons_eq] at lw; cases lw
        · rw [lookup_cons_ne hwx] at lw
          rcases List.mem_append.mp hp with q | q
          · exact r2 w' ds lw p q ew
          · have := S.i.ents w' _ lw
            rw [ew] at this
            obtain ⟨b, us, k', e1, e2, _⟩ := this
            cases e1; rw [(hn p q).1] at e2; cases e2
      · by_cases hwx : w' = y
        · exact hwx
        · rw [lookup_cons_ne hwx] at lw; exact r3 w' c R' lw
    · rw [lookup_cons_ne hyx] at ly
      exact absurd (r3 y b R' ly) hyx

theorem nodes_apart (hn : (sh.flatMap fun q => q.1 :: q.2).Nodup) {k k' : Nat} (hk : k < sh.length) (hk' : k' < sh.length) {i : Nat} (hi : i < sh[k].2.length) : sh[k].2[i] ≠ sh[k'].1 ∧ ∀ i' (hi' : i' < sh[k'].2.length), sh[k].2[i] = sh[k'].2[i'] → k = k' ∧ i = i' := by
  induction sh generalizing k k' with
  | nil => simp at hk
  | cons q sh ih =>
    rw [List.flatMap_cons, List.nodup_append] at hn
    obtain ⟨n1, n2, n3⟩ := hn
    have hm : ∀ {k} (hk : k < sh.length), sh[k].1 ∈ sh.flatMap (fun q => q.1 :: q.2) ∧ ∀ i (hi : i < sh[k].2.length), sh[k].2[i] ∈ sh.flatMap (fun q => q.1 :: q.2) := fun hk =>
      ⟨List.mem_flatMap.mpr ⟨_, List.getElem_mem hk, List.mem_cons_self⟩, fun i hi => List.mem_flatMap.mpr ⟨_, List.getElem_mem hk, List.mem_cons_of_mem _ (List.getElem_mem hi)⟩⟩
    obtain ⟨n4, n5⟩ := List.nodup_cons.mp n1
    cases k with
    | zero =>
      cases k' with
      | zero =>
        refine ⟨fun e => n4 (e ▸ List.getElem_mem _), fun i' hi' e => ⟨rfl, ?_⟩⟩
        exact (List.getElem_inj n5).mp e
      | succ k' =>
        have hk2 : k' < sh.length := by simpa using hk'
        exact ⟨fun e => n3 _ (List.mem_cons_of_mem _ (List.getElem_mem hi)) _ (hm hk2).1 e, fun i' hi' e => (n3 _ (List.mem_cons_of_mem _ (List.getElem_mem hi)) _ ((hm hk2).2 i' hi') e).elim⟩
    | succ k =>
      have hk1 : k < sh.length := by simpa using hk
      cases k' with
      | zero => exact ⟨fun e => n3 _ List.mem_cons_self _ ((hm hk1).2 i hi) e.symm, fun i' hi' e => (n3 _ (List.mem_cons_of_mem _ (List.getElem_mem hi')) _ ((hm hk1).2 i hi) e.symm).elim⟩
      | succ k' =>
        have hk2 : k' < sh.length := by simpa using hk'
        obtain ⟨q1, q2⟩ := ih n2 hk1 hk2 hi
        exact ⟨q1, fun i' hi' e => by obtain ⟨rfl, rfl⟩ := q2 i' hi' e; exact ⟨rfl, rfl⟩⟩

theorem row_set (n : Nat) (f : Nat → Bool) (j : Nat) (hj : j < n) : (((List.range n).map fun j => Value.bool (f j)).toArray).setIfInBounds j (.bool true) = ((List.range n).map fun j' => Value.bool (if j' = j then true else f j')).toArray := by
  apply Array.ext'
  rw [Array.toList_setIfInBounds]
  refine List.ext_getElem (by simp) fun i h1 h2 => ?_
  rw [List.getElem_set]
  simp only [List.getElem_map, List.getElem_range]
  by_cases e : j = i
  · subst e; simp
  · rw [if_neg e, if_neg (Ne.symm e)]

theorem RegT.set {k i j c : Nat} (r : RegT C a R hs n T sh) (hnd : hs.Nodup) (hk : k < sh.length) (hk' : k < hs.length) (hi : i < sh[k].2.length) (hj : j < n) : RegT C a (repl R sh[k].2[i] (rowO n (setT T hs[k] i j hs[k] i) c)) hs n (setT T hs[k] i j) sh := by
  have hnd2 : (sh.flatMap fun q => q.1 :: q.2).Nodup := (List.nodup_cons.mp r.nd).2
  have hna : ¬ a ∈ sh.flatMap fun q => q.1 :: q.2 := (List.nodup_cons.mp r.nd).1
  have hmi : sh[k].2[i] ∈ sh.flatMap fun q => q.1 :: q.2 := List.mem_flatMap.mpr ⟨_, List.getElem_mem hk, List.mem_cons_of_mem _ (List.getElem_mem hi)⟩
  refine ⟨r.len, ?_, r.ns, fun k' h => ?_, fun k' h h' => ⟨(r.row k' h h').1, fun i' hi' => ?_⟩, r.nd, fun p hp vs c' q => ?_⟩
  · obtain ⟨o, ho, hd⟩ := r.top
    exact ⟨o, repl_other ho fun e => hna (e ▸ hmi), hd⟩
  · obtain ⟨c', hc'⟩ := r.tab k' h
    exact ⟨c', repl_other hc' fun e => (nodes_apart hnd2 hk h hi).1 e.symm⟩
  · obtain ⟨c', hc'⟩ := (r.row k' h h').2 i' hi'
    by_cases e : sh[k].2[i] = sh[k'].2[i']
    · obtain ⟨rfl, rfl⟩ := (nodes_apart hnd2 hk h hi).2 i' hi' e
      exact ⟨c, repl_self hc'⟩
    · refine ⟨c', ?_⟩
      have hT : setT T hs[k] i j hs[k'] i' = T hs[k'] i' := by
        funext j'
        unfold setT
        rw [if_neg]
        rintro ⟨e1, e2, _⟩
        have : k' = k := (List.getElem_inj hnd).mp e1
        subst this
        subst e2
        exact e rfl
      rw [hT]
      exact repl_other hc' fun q => e q.symm
  · rcases repl_cases hp with ⟨rfl, _⟩ | ⟨hp', _⟩
    · cases q
      exact ⟨.bool (setT T hs[k] i j hs[k] i j), by simp only [List.mem_map, List.mem_range]; exact ⟨j, hj, rfl⟩, fun i t q => by cases q⟩
    · exact r.all p hp' vs c' q

theorem xs_regSet {x h : Str} {i j : Nat} {p p1 p2 p3 q pos : Pos} {kk : Nat} (hx : isVar env x = true) (l : Γ.lookup x = some (.reg a R)) (r : RegT C a R hs n T sh) (hnd : hs.Nodup) (hh : h ∈ hs) (hi : i < n) (hj : j < n) (hn : n ≤ 1000)
    (h₁ : Ev C A env Γ e₁ false (.str h)) (h₂ : Ev C A env Γ e₂ false (.int i)) (h₃ : Ev C A env Γ e₃ false (.int j))
    (hsw : swapsWith (.Constant (.bool true) kk q) (some (.Subscript (.Subscript (.Subscript (.Name x p) e₁ p1) e₂ p2) e₃ p3)) pos.line env = pure false)
    (hp : ∀ R', RegT C a R' hs n (setT T h i j) sh → Post (.next ((x, .reg a R') :: Γ))) :
    Xs C A env s₀ Z₀ E Γ (.Assign [.Subscript (.Subscript (.Subscript (.Name x p) e₁ p1) e₂ p2) e₃ p3] (.Constant (.bool true) kk q) pos) Post := fun H V s ⟨ss, Z, m, S⟩ => by
  obtain ⟨v1, v2, v3⟩ := isVar_spec hx
  obtain ⟨k, hk', rfl⟩ := List.getElem_of_mem hh
  have hk : k < sh.length := by have := r.len; omega
  obtain ⟨hrl, hrow⟩ := r.row k hk hk'
  obtain ⟨ct, htab⟩ := r.tab k hk
  have hi' : i < sh[k].2.length := by omega
  obtain ⟨cr, hro⟩ := hrow i hi'
  obtain ⟨o, ho, hd⟩ := r.top
  refine wpAny_Assign_Subscript ((ev_bool true (μ := true)).go S.i fun v s₁ k₁ I₁ r₁ => ?_) hsw
  cases r₁
  refine Subscript_ (Subscript_ (loadVar I₁ v1 (I₁.reg l).1 (h₁.go I₁ fun u s₂ k₂ I₂ r₂ => ?_) v2 v3))
  cases r₂ with
  | str _ t hs' =>
    have hdo : s₂.heap.DictOf (strKind C.prog C.w) a (hs.zip (sh.map fun q => Value.ref q.1)) := Heap.dictOf_iff.mpr ⟨o, ((I₂.reg l).2 _ ho).1, hd⟩
    obtain ⟨ops, hops⟩ := subscripted_ops e₁ (.ref a) (.str hs[k] t)
    have hva := valueAt_zip (us := sh.map fun q => Value.ref q.1) hnd hk' (by simpa using hk)
    rw [List.getElem_map] at hva
    refine tail_any hdo.typeIs slot_dict_getitem.lookup (wpAny_getItem_of (strKind_is _ _ hs[k] t) hdo.mapOf hva ?_) hops
    have k₂' := k₂.trans (Kp.tok s₂ (s₂.toks + 1))
    refine h₂.go (s := { s₂ with toks := s₂.toks + 1 }) I₂ fun u3 s₃ k₃ I₃ r₃ => ?_
    cases r₃ with
    | int _ t3 =>
      have htl : s₃.heap.IsList sh[k].1 (sh[k].2.map Value.ref).toArray := ⟨_, ((I₃.reg l).2 _ htab).1, rfl, _, rfl⟩
      obtain ⟨ops2, hops2⟩ := subscripted_ops e₂ (.ref sh[k].1) (.int i t3)
      refine tail_any htl.typeIs slot_list_getitem.lookup (wpAny_getItem_list htl (by omega) (by omega) (x := .ref sh[k].2[i]) (by simp [hi']) ?_) hops2
      refine h₃.go I₃ fun u4 s₄ k₄ I₄ r₄ => ?_
      cases r₄ with
      | int _ t4 =>
        have hrow4 := ((I₄.reg l).2 _ hro).1
        refine ki_setAt hrow4 (by omega) (by omega) (by simp; omega) ?_
        have kall := k₁.trans (k₂'.trans (k₃.trans k₄))
        have S₄ := S.ext kall.ext
        have sb : Heap.SameBut sh[k].2[i] s₄.heap (s₄.heap.update sh[k].2[i] (Obj.mapSeq fun xs => xs.setIfInBounds (j : Int).toNat (.bool true))) := Heap.SameBut.update ..
        have e' := IsL.update hrow4 fun xs => xs.setIfInBounds (j : Int).toNat (.bool true)
        rw [Int.toNat_natCast, row_set n _ j hj] at e'
        rw [Int.toNat_natCast] at sb ⊢
        have hfe : (fun j' => Value.bool (if j' = j then true else T hs[k] i j')) = fun j' => Value.bool (setT T hs[k] i j hs[k] i j') := by
          funext j'; unfold setT; simp
        rw [hfe] at e'
        have S₅ := S₄.regMut l hro sb e' listO_cls (seqO_ne ·) (fun es ep q => by cases q)
        exact ⟨kall.toSame.trans ⟨_, _, rfl⟩, _, hp _ (r.set hnd hk hk' hi' hj), ss.trans (kall.toSame.trans ⟨_, _, rfl⟩), Z, m, S₅⟩

noncomputable def EvR (C : Cx) (A : Around) (env : Env) (Γ : Tab) (R : List (Addr × Obj)) (e : Expr) (d : PyData) : Prop :=
  ∀ E s m Z₀ Z, In C A env Z₀ Z Γ m s.heap → wpAny C.M A (eval e env) (fun v s' => Kp A s s' ∧ Rd C.prog C.w (fun b => Z b ∧ ∀ p ∈ R, b ≠ p.1) s'.heap v d) E s
noncomputable def EvsR (C : Cx) (A : Around) (env : Env) (Γ : Tab) (R : List (Addr × Obj)) (es : List Expr) (ds : List PyData) : Prop :=
  ∀ E s m Z₀ Z (pos : Pos), In C A env Z₀ Z Γ m s.heap → wpAny C.M A (spliced (backTo pos (starEach es env))) (fun vs s' => Kp A s s' ∧ Rds C.prog C.w (fun b => Z b ∧ ∀ p ∈ R, b ≠ p.1) s'.heap vs ds) E s
theorem Ev.toR (h : Ev C A env Γ e true d) : EvR C A env Γ R e d := fun E s m Z₀ Z I =>
  wpAny_mono (h E s m Z₀ Z I) (fun v s' ⟨k, r⟩ => ⟨k, Rd.reZ (fun b o _ q => q.1) r⟩) fun _ _ x => x
theorem evR_reg {x : Str} {p : Pos} (hx : isVar env x = true) (l : Γ.lookup x = some (.reg a R)) (r : RegT C a R hs n T sh) : EvR C A env Γ R (.Name x p) (tabD hs n T) := fun E s m Z₀ Z I => by
  obtain ⟨h1, h2, h3⟩ := isVar_spec hx
  obtain ⟨hm, hh⟩ := I.reg l
  exact loadVar I h1 hm ⟨Kp.refl s, r.rd (fun p hp => (hh p hp).1) fun p hp q => q.2 p hp rfl⟩ h2 h3
theorem evsR_nil : EvsR C A env Γ R [] [] := fun E s m Z₀ Z pos I => Calls.spliced_nil ⟨Kp.refl s, .nil⟩
theorem evsR_cons {es : List Expr} {ds : List PyData} (h : EvR C A env Γ R e d) (hs : EvsR C A env Γ R es ds) (hn : notStar e = true) : EvsR C A env Γ R (e :: es) (d :: ds) := fun E s m Z₀ Z pos I => by
  rw [starEach_cons hn]
  exact Calls.spliced_cons (wpAny_mono (h E s m Z₀ Z I) (fun v s' ⟨k, r⟩ => wpAny_mono (hs E s' m Z₀ Z pos (I.keep k.ext)) (fun vs s'' ⟨k', r'⟩ => ⟨k.trans k', .cons (r.keep k'.ext) r'⟩) fun _ _ x => x) fun _ _ x => x)
theorem ev_callR {k : Nat} {x y : Str} {f : Addr} {o : Obj} {fd : FuncData} {a' : Expr} {es : List Expr} {ds : List PyData} {is : List Int} {p pos : Pos} (hA : OkA A k) (hx : isGlob env x = true) (hm : C.mg x = some (.ref f)) (ho : C.K.lookup f = some o) (hf : o.data = .func fd)
    (l : Γ.lookup y = some (.reg a R)) (r : RegT C a R hs n T sh) (ha : EvsR C A env Γ R (a' :: es) ds) (hn : notStar a' = true) (hfn : FnOk C k f ds (.list (is.map .int))) : Ev C A env Γ (.Call (.Name x p) (a' :: es) [] pos) true (.list (is.map .int)) := fun E s m Z₀ Z I => by
  refine Call_Name rfl (loadGlob I hx hm (Calls.callWith_function (o := o) (fd := fd) ?_))
  have key := ha E s m Z₀ Z pos I
  rw [starEach_cons hn] at key ⊢
  refine Calls.evalArgs_plain (wpAny_mono key (fun vs s' ⟨kp, rd⟩ => ?_) fun _ _ x => x)
  have I' := I.keep kp.ext
  refine ⟨⟨I'.base.k _ _ ho, hf⟩, ?_⟩
  rw [List.nil_append]
  refine wpAny_mono (hfn A E s' (fun b => Z b ∧ ∀ p ∈ R, b ≠ p.1) vs hA I'.fr I'.base ⟨fun b q => I'.z.st b q.1, fun b q => I'.z.k b q.1⟩ rd) (fun v s'' ⟨kp', rv⟩ => ⟨kp.trans kp', ?_⟩) fun _ _ x => x
  have I'' := I'.keep kp'.ext
  cases rv with
  | @list b us c _ he z q =>
    refine .list he (fun zb => ?_) (q.ofFlat fun d hd => by obtain ⟨i, _, rfl⟩ := List.mem_map.mp hd; rfl)
    refine z ⟨zb, fun p hp e => ?_⟩
    have hp2 := ((I''.reg l).2 p hp).1
    rw [← e, he] at hp2
    obtain ⟨v, hv, hne⟩ := r.all p hp us c (Option.some.inj hp2).symm
    obtain ⟨j, hj, ej⟩ := List.getElem_of_mem hv
    obtain ⟨d', e1, e2⟩ := q.get' (k := j) (v := v) (by rw [List.getElem?_eq_getElem hj, ej])
    rw [List.getElem?_map] at e1
    cases hi : is[j]? with
    | none => rw [hi] at e1; cases e1
    | some i =>
      rw [hi] at e1
      cases e1
      cases e2 with
      | int _ t => exact hne i t rfl
end
end

section
set_option autoImplicit false
set_option linter.unusedVariables false
set_option maxRecDepth 100000
open PySem PyProof.Rows PySem.W

structure TabNew (Rn : List (Addr × Obj)) (b : Addr) (rows : List Addr) (n k : Nat) : Prop where
  tab : ∃ c, (b, listO (rows.map Value.ref).toArray c) ∈ Rn
  len : rows.length = k
  row : ∀ i (hi : i < rows.length), ∃ c, (rows[i], rowO n (fun _ => false) c) ∈ Rn
  nd : (b :: rows).Nodup
  all : ∀ p ∈ Rn, (p.1 = b ∧ ∃ c, p.2 = listO (rows.map Value.ref).toArray c) ∨ ∃ c, p.2 = rowO n (fun _ => false) c
theorem TabNew.plain {Rn : List (Addr × Obj)} {b : Addr} {rows : List Addr} {n k : Nat} (t : TabNew Rn b rows n k) : ∀ p ∈ Rn, p.2.cls ≠ .type "frame" ∧ ∀ us, p.2.data ≠ .fields us := fun p hp => by
  rcases t.all p hp with ⟨_, c, e⟩ | ⟨c, e⟩ <;> rw [e] <;> exact ⟨listO_cls, (seqO_ne ·)⟩

section
variable {C : Cx} {A : Around} {env : Env} {Γ : Tab} {e e₁ e₂ e₃ : Expr} {μ : Bool} {d : PyData} {s₀ : Shared} {Z₀ : Addr → Prop} {E : Value → Shared → Prop} {Post : Out → Prop} {a : Addr} {R : List (Addr × Obj)} {hs : List Str} {n : Nat} {T : TF} {sh : List (Addr × List Addr)}

noncomputable def EvRows (C : Cx) (A : Around) (env : Env) (Γ : Tab) (e : Expr) (n : Nat) : Prop :=
  ∀ E s m Z₀ Z, In C A env Z₀ Z Γ m s.heap → wpAny C.M A (eval e env) (fun v s' => Kp A s s' ∧ ∃ b rows Rn, v = .ref b ∧ TabNew Rn b rows n n ∧ ∀ p ∈ Rn, s.heap.get? p.1 = none ∧ s'.heap.get? p.1 = some p.2) E s

theorem stored_zip {hs : List Str} {us : List Value} {h : Str} {v : Value} (hl : us.length = hs.length) (hn : ¬ h ∈ hs) : stored (hs.zip us) h v = (hs ++ [h]).zip (us ++ [v]) := by
  unfold stored
  have hany : ((hs.zip us).any fun kv => kv.1 = h) = false := by
    rw [List.any_eq_false]
    intro p hp
    have : p.1 ∈ hs := (List.of_mem_zip (a := p.1) (b := p.2) hp).1
    simp only [decide_eq_true_eq]
    exact fun q => hn (q ▸ this)
  rw [hany, if_neg (by decide), List.zip_append hl.symm]; rfl

theorem RegT.put {h : Str} {o : Obj} {b : Addr} {rows : List Addr} {Rn : List (Addr × Obj)} {hp : Heap} (r : RegT C a R hs n T sh) (hT : ∀ i j, T h i j = false) (hn : 0 < n) (hR : ∀ p ∈ R, ∃ x, hp.get? p.1 = some x) (hN : ∀ p ∈ Rn, hp.get? p.1 = none) (t : TabNew Rn b rows n n)
    (hd : o.IsDictOf (strKind C.prog C.w) ((hs ++ [h]).zip ((sh ++ [(b, rows)]).map fun q => Value.ref q.1))) : RegT C a (repl (R ++ Rn) a o) (hs ++ [h]) n T (sh ++ [(b, rows)]) := by
  obtain ⟨o', ho', _⟩ := r.top
  have hl := r.len
  have ha : ∃ x, hp.get? a = some x := hR _ ho'
  obtain ⟨ct, htab⟩ := t.tab
  have hold : ∀ y ∈ nodesOf a sh, ∃ x, hp.get? y = some x := fun y hy => by
    unfold nodesOf at hy
    rcases List.mem_cons.mp hy with rfl | hy
    · exact ha
    · obtain ⟨q, hq, hy⟩ := List.mem_flatMap.mp hy
      obtain ⟨k, hk, rfl⟩ := List.getElem_of_mem hq
      rcases List.mem_cons.mp hy with rfl | hy
      · obtain ⟨c, hc⟩ := r.tab k hk; exact hR _ hc
      · obtain ⟨i, hi, rfl⟩ := List.getElem_of_mem hy
        obtain ⟨c, hc⟩ := (r.row k hk (by omega)).2 i hi
        exact hR _ hc
  have hnew : ∀ y ∈ b :: rows, hp.get? y = none := fun y hy => by
    rcases List.mem_cons.mp hy with rfl | hy
    · exact hN _ htab
    · obtain ⟨i, hi, rfl⟩ := List.getElem_of_mem hy
      obtain ⟨c, hc⟩ := t.row i hi
      exact hN _ hc
  have hane : ∀ y ∈ b :: rows, y ≠ a := fun y hy q => by
    obtain ⟨x, e⟩ := ha
    have := hnew y hy
    rw [q, e] at this; cases this
  have hna : ¬ a ∈ sh.flatMap fun q => q.1 :: q.2 := (List.nodup_cons.mp r.nd).1
  refine ⟨by simp [hl], ⟨o, repl_self (List.mem_append_left _ ho'), hd⟩, r.ns, fun k h1 => ?_, fun k h1 h2 => ?_, ?_, fun p hp' vs c q => ?_⟩
  · rcases Nat.lt_or_ge k sh.length with q | q
    · rw [List.getElem_append_left q]
      obtain ⟨c, hc⟩ := r.tab k q
      exact ⟨c, repl_other (List.mem_append_left _ hc) fun e => hna (e ▸ List.mem_flatMap.mpr ⟨_, List.getElem_mem q, List.mem_cons_self⟩)⟩
    · have e : k = sh.length := by simp at h1; omega
      subst e
      have e3 : (sh ++ [(b, rows)])[sh.length]'h1 = (b, rows) := by simp
      rw [e3]
      exact ⟨ct, repl_other (List.mem_append_right _ htab) (hane b List.mem_cons_self)⟩
  · rcases Nat.lt_or_ge k sh.length with q | q
    · have q' : k < hs.length := by omega
      rw [List.getElem_append_left q, List.getElem_append_left q']
      refine ⟨(r.row k q q').1, fun i hi => ?_⟩
      obtain ⟨c, hc⟩ := (r.row k q q').2 i hi
      exact ⟨c, repl_other (List.mem_append_left _ hc) fun e => hna (e ▸ List.mem_flatMap.mpr ⟨_, List.getElem_mem q, List.mem_cons_of_mem _ (List.getElem_mem hi)⟩)⟩
    · have e : k = sh.length := by simp at h1; omega
      subst e
      have e2 : (hs ++ [h])[sh.length]'h2 = h := by
        have : (hs ++ [h])[sh.length]? = some h := by rw [hl]; simp
        rw [List.getElem?_eq_getElem h2] at this; exact Option.some.inj this
      rw [e2]
      have e3 : (sh ++ [(b, rows)])[sh.length]'h1 = (b, rows) := by simp
      rw [e3]
      refine ⟨t.len, fun i hi => ?_⟩
      obtain ⟨c, hc⟩ := t.row i hi
      have ef : T h i = fun _ => false := funext fun j => hT i j
      rw [ef]
      exact ⟨c, repl_other (List.mem_append_right _ hc) (hane _ (List.mem_cons_of_mem _ (List.getElem_mem hi)))⟩
  · have e : nodesOf a (sh ++ [(b, rows)]) = nodesOf a sh ++ (b :: rows) := by unfold nodesOf; simp
    rw [e, List.nodup_append]
    refine ⟨r.nd, t.nd, fun y hy z hz q => ?_⟩
    obtain ⟨x, ex⟩ := hold y hy
    have := hnew z hz
    rw [← q, ex] at this; cases this
  · rcases repl_cases hp' with ⟨rfl, _⟩ | ⟨hp2, _⟩
    · obtain ⟨es, ep, _, hdd, _⟩ := hd
      have : o.data = .seq vs c := by rw [show o = listO vs c from q]
      rw [hdd] at this; cases this
    · rcases List.mem_append.mp hp2 with q2 | q2
      · exact r.all p q2 vs c q
      · rcases t.all p q2 with ⟨_, c', e'⟩ | ⟨c', e'⟩
        · rw [e'] at q
          cases q
          have hrl : 0 < rows.length := by rw [t.len]; exact hn
          exact ⟨.ref rows[0], by simp, fun i t q => by cases q⟩
        · rw [e'] at q
          cases q
          exact ⟨.bool false, List.mem_map.mpr ⟨0, List.mem_range.mpr hn, rfl⟩, fun i t q => by cases q⟩

theorem xs_regPut {x h : Str} {p p1 pos : Pos} (hx : isVar env x = true) (l : Γ.lookup x = some (.reg a R)) (r : RegT C a R hs n T sh) (hh : ¬ h ∈ hs) (hT : ∀ i j, T h i j = false) (hn : 0 < n) (hz : hs.length ≤ 1000)
    (h₁ : Ev C A env Γ e₁ false (.str h)) (hv : EvRows C A env Γ e n) (hsw : swapsWith e (some (.Subscript (.Name x p) e₁ p1)) pos.line env = pure false)
    (hp : ∀ R' sh', RegT C a R' (hs ++ [h]) n T sh' → Post (.next ((x, .reg a R') :: Γ))) :
    Xs C A env s₀ Z₀ E Γ (.Assign [.Subscript (.Name x p) e₁ p1] e pos) Post := fun H V s ⟨ss, Z, m, S⟩ => by
  obtain ⟨v1, v2, v3⟩ := isVar_spec hx
  obtain ⟨o, ho, hd⟩ := r.top
  have hl := r.len
  refine wpAny_Assign_Subscript (wpAny_mono (hv E s m Z₀ Z S.i) (fun v s₁ ⟨k₁, b, rows, Rn, e1, t, hN⟩ => ?_) fun _ _ x => x) hsw
  subst e1
  have I₁ := S.i.keep k₁.ext
  refine loadVar I₁ v1 (I₁.reg l).1 (h₁.go I₁ fun u s₂ k₂ I₂ r₂ => ?_) v2 v3
  cases r₂ with
  | str _ tk hs' =>
    have hdo : s₂.heap.DictOf (strKind C.prog C.w) a (hs.zip (sh.map fun q => Value.ref q.1)) := Heap.dictOf_iff.mpr ⟨o, ((I₂.reg l).2 _ ho).1, hd⟩
    refine wpAny_setItem_pairs (strKind_is _ _ h tk) hdo (fun h' hd' sb => ?_) (by rw [List.length_zip]; have : sizeLine = 16777216 := rfl; omega)
    rw [stored_zip (by simp [hl]) hh] at hd'
    obtain ⟨o', ho', hdo'⟩ := Heap.dictOf_iff.mp hd'
    have kall := k₁.trans k₂
    have S₂ := S.regAdd (Rn := Rn) l kall.ext fun p hp => ⟨(hN p hp).1, k₂.ext.at (hN p hp).2 (t.plain p hp).1, t.plain p hp⟩
    have S₃ := S₂.regMut (x := x) (a := a) (R := R ++ Rn) (c := a) (o := o') lookup_cons_eq (List.mem_append_left _ ho) sb ho' (dictO_cls hdo') (dictO_ne hdo') (fun es ep q => by
      obtain ⟨es', ep', hx', hx2, _⟩ := hdo'
      obtain ⟨es'', ep'', hx'', _⟩ := hd
      exact ⟨hx'.1.trans hx''.1.symm, es', ep', hx2⟩)
    have S₄ := S₃.sub (Γ' := (x, .reg a (repl (R ++ Rn) a o')) :: Γ) fun y en ly => by
      by_cases hy : y = x
      · subst hy; rw [lookup_cons_eq] at ly ⊢; exact ly
      · rw [lookup_cons_ne hy] at ly; rw [lookup_cons_ne hy, lookup_cons_ne hy]; exact ly
    refine ⟨kall.toSame.trans ⟨_, _, rfl⟩, _, hp _ _ (r.put hT hn (hp := s.heap) (fun p hp => ⟨_, ((S.i.reg l).2 p hp).1⟩) (fun p hp => (hN p hp).1) t ?_), ss.trans (kall.toSame.trans ⟨_, _, rfl⟩), _, m, S₄⟩
    rw [List.map_append]; exact hdo'

noncomputable def EvRow (C : Cx) (A : Around) (env : Env) (Γ : Tab) (e : Expr) (n : Nat) : Prop :=
  ∀ E s m Z₀ Z, In C A env Z₀ Z Γ m s.heap → wpAny C.M A (eval e env) (fun v s' => Kp A s s' ∧ ∃ c k, v = .ref c ∧ s.heap.get? c = none ∧ s'.heap.get? c = some (rowO n (fun _ => false) k)) E s
theorem foldl_rep (v : Value) : ∀ (k : Nat) (xs : Array Value), List.foldl (fun x1 x2 => x1 ++ x2) xs (List.replicate k #[v]) = xs ++ (List.replicate k v).toArray
  | 0, xs => by simp
  | k + 1, xs => by
    rw [List.replicate_succ, List.foldl_cons, foldl_rep v k, List.replicate_succ]
    apply Array.ext'
    simp
theorem mul_meets (l : Addr) (c : Nat) (x : Int) (u : Tok) (h0 : 0 ≤ x) (h1 : x ≤ 1000) : Meets (Builtin.«list.__mul__» ⟨[.ref l, .int x u], []⟩) (fun _ R s => s.heap.get? l = some (listO #[Value.bool false] c) ∧ R (.ok (.ret (Value.ref s.heap.objs.size))) { s with heap := s.heap.push { cls := Value.type "list", data := Data.seq (List.foldl (fun x1 x2 => x1 ++ x2) #[] (List.replicate (if (#[Value.bool false] : Array Value).isEmpty = true then 0 else x.toNat) #[Value.bool false])) }, toks := s.toks }) := by
  have hsz : (#[Value.bool false] : Array Value).size * x.toNat ≤ 1000 := by
    show 1 * x.toNat ≤ 1000
    omega
  exact AutoListH.list___mul___list_int_3 l #[Value.bool false] c x u (by simp [Builtin.List.listFitsIndex]; omega) (by omega) (fun q => by unfold Builtin.List.listTooLong at q; have q := of_decide_eq_true q; have : sizeLine = 16777216 := rfl; omega)
theorem row_op {l : Addr} {c n : Nat} {x : Int} {u : Tok} {s : Shared} {Q : Value → Shared → Prop} (he : s.heap.get? l = some (listO #[Value.bool false] c)) (h0 : 0 ≤ x) (h1 : x ≤ 1000) (hx : x.toNat = n)
    (hq : Q (.ref s.heap.objs.size) { s with heap := s.heap.push (rowO n (fun _ => false) 0) }) : wpAny C.M A (binaryOp .Mult (.ref l) (.int x u)) Q E s := by
  have earr : List.foldl (fun x1 x2 => x1 ++ x2) #[] (List.replicate (if (#[Value.bool false] : Array Value).isEmpty = true then 0 else x.toNat) #[Value.bool false]) = ((List.range n).map fun _ => Value.bool false).toArray := by
    have e1 : (if (#[Value.bool false] : Array Value).isEmpty = true then 0 else x.toNat) = n := by rw [hx]; rfl
    rw [e1, foldl_rep]
    have e2 : (List.range n).map (fun _ => Value.bool false) = List.replicate n (Value.bool false) := by rw [List.map_const', List.length_range]
    rw [e2]
    apply Array.ext'; simp
  refine wpAny_binaryOp_repeat_ref (T := "list") (U := "int") (by decide) ⟨_, he, rfl⟩ (fun s' => typeIs_int s' x u) noFill_list_mul F.fills_int_mul F.slot_int_rmul repeat_list F.slot_int_index.lookup
    (call_meets F.slot_int_rmul (typeIs_int s x u) F.entry_int_rmul (F.args_int_rmul_2 _ _) (int___rmul___int_list x u l #[Value.bool false] c) ⟨he, rfl, ⟨_, he, rfl⟩, call_meets F.slot_list_mul ⟨_, he, rfl⟩ F.entry_list_mul (F.args_list_mul_2 _ _) (mul_meets l c x u h0 h1) ⟨he, ?_⟩⟩)
  rw [earr]
  exact hq
theorem evRow_repeat {n : Nat} {q q' pos : Pos} {kk : Nat} (h₂ : Ev C A env Γ e₂ false (.int n)) (hn : n ≤ 1000) : EvRow C A env Γ (.BinOp (.List [.Constant (.bool false) kk q] q') .Mult e₂ pos) n := fun E s m Z₀ Z I => by
  refine wpAny_BinOp ((ev_list (μ := true) (evs_cons (ev_bool false) evs_nil rfl) (by show 1 ≤ sizeLine; decide)).go2 h₂ I fun v₁ v₂ s' k I' r₁ r₂ => ?_)
  cases r₂ with
  | int _ t =>
    cases r₁ with
    | @list l vs c _ he z r =>
      have hvs : vs = #[.bool false] := by
        have : vs.toList = [.bool false] := by
          cases hv : vs.toList with
          | nil => rw [hv] at r; cases r
          | cons x xs =>
            rw [hv] at r
            cases r with
            | cons r1 r2 => cases r2; cases r1; rfl
        rw [← Array.toArray_toList (xs := vs), this]
      subst hvs
      have hsz : s'.heap.get? s'.heap.objs.size = none := Heap.get?_none_of_le (Nat.le_refl _)
      have hno : s.heap.get? s'.heap.objs.size = none := by
        cases q : s.heap.get? s'.heap.objs.size with
        | none => rfl
        | some x => obtain ⟨x', q', _⟩ := k.ext.stays q; rw [hsz] at q'; cases q'
      exact row_op he (by omega) (by omega) (Int.toNat_natCast n) ⟨k.trans (Kp.push _ _), s'.heap.objs.size, 0, rfl, hno, Heap.get?_push_size _ rfl⟩
end
end

section
set_option autoImplicit false
set_option linter.unusedVariables false
set_option maxRecDepth 100000
open PySem PyProof.Rows PySem.W

section
variable {C : Cx} {A : Around} {env cenv : Env} {Γ : Tab} {e : Expr} {s₀ : Shared} {Z₀ : Addr → Prop} {E : Value → Shared → Prop} {scope : Scope}

theorem StW.ownReg {h₀ h : Heap} {H : List (Addr × Obj)} {V : List (Value × PyData)} {Z : Addr → Prop} {m : Str → Option Value} {x : Str} (S : StW C A env h₀ Z₀ H V Γ h Z m) (l : Γ.lookup x = some (.own [])) (hnr : ∀ y b R, Γ.lookup y ≠ some (.reg b R)) :
    ∃ a n, m x = some (.ref a) ∧ StW C A env h₀ Z₀ H V ((x, .reg a [(a, listO #[] n)]) :: Γ) h Z m := by
  have he := S.i.ents x _ l
  cases hv : m x with
  | none => rw [hv] at he; exact he.elim
  | some v =>
    rw [hv] at he
    obtain ⟨a, vs, n, rfl, e, z, r⟩ := he
    have hvs : vs = #[] := by
      have : vs.toList = [] := by
        cases hl : vs.toList with
        | nil => rfl
        | cons x xs => rw [hl] at r; cases r
      rw [← Array.toArray_toList (xs := vs), this]
    subst hvs
    obtain ⟨na, uniq⟩ := S.ow x [] a l hv
    refine ⟨a, n, rfl, ⟨⟨S.i.fn, S.i.vars, fun y en ly => ?_, S.i.base, S.i.z, S.i.fr, S.i.zc, S.i.cd⟩, S.b0, S.keep, S.z0, S.zl, S.nl, S.zc, S.cd, S.hs, S.vs, fun y ds b ly eb => ?_, fun y b R ly => ?_⟩⟩
    · by_cases hyx : y = x
      · subst hyx
        rw [lookup_cons_eq] at ly; cases ly
        rw [hv]
        refine ⟨rfl, fun p hp => ?_⟩
        cases List.mem_singleton.mp hp
        exact ⟨e, z, listO_cls, (seqO_ne ·)⟩
      · rw [lookup_cons_ne hyx] at ly; exact S.i.ents y en ly
    · by_cases hyx : y = x
      · subst hyx; rw [lookup_cons_eq] at ly; cases ly
      · rw [lookup_cons_ne hyx] at ly
        obtain ⟨q1, q2⟩ := S.ow y ds b ly eb
        refine ⟨q1, fun w' fs lw ew => ?_⟩
        by_cases hwx : w' = x
        · subst hwx; rw [lookup_cons_eq] at lw; cases lw
        · rw [lookup_cons_ne hwx] at lw; exact q2 w' fs lw ew
    · by_cases hyx : y = x
      · subst hyx
        rw [lookup_cons_eq] at ly; cases ly
        refine ⟨fun p hp => ?_, fun w' ds lw p hp ew => ?_, fun w' c R' lw => ?_⟩
        · cases List.mem_singleton.mp hp
          refine ⟨na, fun q => ?_, fun w' c ec q => ?_⟩
          · obtain ⟨ml, hn, _⟩ := S.i.vars.loc
            obtain ⟨o, es, ep, ho, hd, _⟩ := hn
            rw [← q, e] at ho; cases ho; cases hd
          · obtain ⟨o, ho, hd⟩ := S.i.vars.cel w' c ec
            rw [q, e] at ho; cases ho; cases hd
        · cases List.mem_singleton.mp hp
          by_cases hwx : w' = y
          · subst hwx; rw [lookup_cons_eq] at lw; cases lw
          · rw [lookup_cons_ne hwx] at lw; exact hwx (uniq w' ds lw ew)
        · by_cases hwx : w' = y
          · exact hwx
          · rw [lookup_cons_ne hwx] at lw; exact absurd lw (hnr w' c R')
      · rw [lookup_cons_ne hyx] at ly; exact absurd ly (hnr y b R)

theorem tabNew_snoc {R : List (Addr × Obj)} {acc c : Addr} {rows : List Addr} {k i cc c2 : Nat} {h : Heap} (t : TabNew R acc rows k i) (hR : ∀ p ∈ R, ∃ x, h.get? p.1 = some x) (hc : h.get? c = none) :
    TabNew (repl (R ++ [(c, rowO k (fun _ => false) cc)]) acc (listO (((rows.map Value.ref).toArray).push (.ref c)) c2)) acc (rows ++ [c]) k (i + 1) := by
  obtain ⟨ct, htab⟩ := t.tab
  obtain ⟨n1, n2⟩ := List.nodup_cons.mp t.nd
  have hca : c ≠ acc := fun q => by obtain ⟨x, e⟩ := hR _ htab; rw [← q, hc] at e; cases e
  refine ⟨⟨c2, ?_⟩, by simp [t.len], fun j hj => ?_, ?_, fun p hp => ?_⟩
  · have e : (((rows.map Value.ref).toArray).push (.ref c)) = ((rows ++ [c]).map Value.ref).toArray := by simp
    rw [← e]
    exact repl_self (List.mem_append_left _ htab)
  · rcases Nat.lt_or_ge j rows.length with q | q
    · rw [List.getElem_append_left q]
      obtain ⟨c', hc'⟩ := t.row j q
      exact ⟨c', repl_other (List.mem_append_left _ hc') fun e => n1 (e ▸ List.getElem_mem q)⟩
    · have e : j = rows.length := by simp at hj; omega
      subst e
      have e3 : (rows ++ [c])[rows.length]'hj = c := by simp
      rw [e3]
      exact ⟨cc, repl_other (List.mem_append_right _ (List.mem_singleton.mpr rfl)) hca⟩
  · rw [← List.cons_append, List.nodup_append]
    refine ⟨t.nd, by simp, fun y hy z hz q => ?_⟩
    cases List.mem_singleton.mp hz
    subst q
    rcases List.mem_cons.mp hy with q | hy
    · exact hca q
    · obtain ⟨j, hj, e⟩ := List.getElem_of_mem hy
      obtain ⟨c', hc'⟩ := t.row j hj
      obtain ⟨x, ex⟩ := hR _ hc'
      rw [e, hc] at ex; cases ex
  · have e : (((rows.map Value.ref).toArray).push (.ref c)) = ((rows ++ [c]).map Value.ref).toArray := by simp
    rcases repl_cases hp with ⟨rfl, _⟩ | ⟨q, hne⟩
    · exact .inl ⟨rfl, c2, by rw [e]⟩
    · rcases List.mem_append.mp q with q | q
      · rcases t.all p q with ⟨q1, _⟩ | q1
        · exact absurd q1 hne
        · exact .inr q1
      · cases List.mem_singleton.mp q
        exact .inr ⟨cc, rfl⟩

theorem comp_loopR {y : Str} {yp : Pos} {elt iter : Expr} {pos : Pos} {n k : Nat} {dat : Nat → PyData} {I : Addr} {X : List (Addr × Obj)} {V' : List (Value × PyData)} {O : Nat → Obj → Prop} {o : Obj} {Rz : Result → Shared → Prop}
    {H : List (Addr × Obj)} {V : List (Value × PyData)} {s : Shared} {acc : Addr} {R₀ : List (Addr × Obj)} (W : Wk C A I X V' n dat O) (hO : O 0 o) (Γc : Tab) (nI : s₀.heap.get? I = none) (hXI : ∀ p ∈ X ++ H, p.1 ≠ I)
    (hy : isLoc cenv y = true) (hOy : Owned cenv s₀.heap y) (hna : y ≠ ".acc") (hyn : Γc.lookup y = none) (hn : n ≤ 1000)
    (helt : ∀ R i, i < n → EvRow C A cenv ((y, .fz (dat i)) :: (".acc", .reg acc R) :: Γc) elt k) (t₀ : TabNew R₀ acc [] k 0)
    (S : St C A cenv s₀ Z₀ ((I, o) :: (X ++ H)) (V' ++ V) ((".acc", .reg acc R₀) :: Γc) s)
    (fin : ∀ s' rows R, Same s s' → TabNew R acc rows k n → St C A cenv s₀ Z₀ H V ((".acc", .reg acc R) :: Γc) s' → Rz (.ok .next) s') :
    codeAny C.M A (.compLoop (.ListComp elt [⟨.Name y yp, iter, [], 0⟩] scope pos) 0 (.ref I) (.ref acc) cenv) Rz s := by
  refine codeAny_loop rfl (fun kk s' => ∃ i o rows R, i + kk = n ∧ Same s s' ∧ O i o ∧ TabNew R acc rows k i ∧ St C A cenv s₀ Z₀ ((I, o) :: (X ++ H)) (V' ++ V) ((".acc", .reg acc R) :: Γc) s') ?_ n ⟨0, o, [], R₀, by omega, Same.refl s, hO, t₀, S⟩
  rintro kk s' ⟨i, o, rows, R, hik, sm, hO, t, ss', Z', m', S'⟩
  show wpAny _ A ((compTurn (.ListComp elt [⟨.Name y yp, iter, [], 0⟩] scope pos) 0 (.ref I) (.ref acc) cenv).onRaise (fun x => do noteFrame x cenv; theTreesLotGoes x)) _ _ s'
  refine wpAny_noted ?_
  rw [compTurn_eq rfl]
  refine wpAny_bind (wpAny_standAt (wpAny_bind ?_))
  have hIo := (S'.hs _ List.mem_cons_self).1
  have hXs : ∀ p ∈ X, s'.heap.get? p.1 = some p.2 := fun p hp => (S'.hs p (List.mem_cons_of_mem _ (List.mem_append_left _ hp))).1
  by_cases hi : i < n
  · refine W.item i s' o _ _ hi hIo hO hXs fun v h' tk o' hv hO' ho' eb => ?_
    have S'' := S'.iter nI (W.fld i o hO) hXI eb ho' (W.clsF _ _ hO')
    have hcls := W.cls _ _ hO'
    refine wpAny_bind (letOwned (s := { s' with heap := h', toks := tk }) ho' hcls ?_)
    have rv := hv Z' h' fun p hp => S''.vs p (List.mem_append_left _ hp)
    have as := as_name (C := C) (A := A) (Z₀ := Z₀) (E := notedBy C.M A cenv fun x s'' => Rz (.error x) s'') (Γ := (".acc", .reg acc R) :: Γc) (p := yp) (d := dat i) hy hOy
    refine wpAny_bind (wpAny_mono (as ((I, o') :: (X ++ H)) (V' ++ V) { s' with heap := h', toks := tk } v ⟨ss'.trans ⟨h', tk, rfl⟩, Z', m', S''.addV (V' := [(v, dat i)]) fun p hp => by cases List.mem_singleton.mp hp; exact rv⟩) (fun _ s₃ ⟨sm', S₃⟩ => ?_) fun _ _ x => x)
    obtain ⟨ss₃, Z₃, m₃, S₃⟩ := S₃
    refine wpAny_bind (wpAny_pure ?_)
    rw [if_pos rfl]
    show wpAny C.M A (innerK elt [⟨.Name y yp, iter, [], 0⟩] scope pos 0 (.ref I) (.ref acc) cenv) _ _ s₃
    unfold innerK
    have hla : List.lookup (".acc" : Str) ((y, Ent.fz (dat i)) :: (".acc", Ent.reg acc R) :: Γc) = some (.reg acc R) := by
      rw [lookup_cons_ne (Ne.symm hna), lookup_cons_eq]
    refine wpAny_bind (wpAny_bind (wpAny_mono (helt R i hi _ s₃ m₃ Z₀ Z₃ S₃.i) (fun u s₄ ⟨k₄, c, cc, eu, nc, hc⟩ => ?_) fun _ _ x => x))
    subst eu
    obtain ⟨ca, htab⟩ := t.tab
    have hreg3 := (S₃.i.reg hla).2
    have e3 : s₄.heap.get? acc = some (listO (rows.map Value.ref).toArray ca) := k₄.ext.at (hreg3 _ htab).1 listO_cls
    have hlen := t.len
    refine wpAny_bind (wpAny_call_entry slot_list_append (T := "list") ⟨_, e3, rfl⟩ entry_list_append ?_ (args_list_append _ _))
    show wpAny _ _ (updateSeq acc (·.push (.ref c)) >>= fun _ => ret .none) _ _ s₄
    refine wpAny_bind (wpAny_updateSeq e3 rfl (wpAny_pure ⟨.none, rfl, wpAny_pure ?_⟩) (by have : sizeLine = 16777216 := rfl; simp; omega) (by have : sizeLine = 16777216 := rfl; simp; omega))
    have S₄ := S₃.regAdd (x := ".acc") (Rn := [(c, rowO k (fun _ => false) cc)]) hla k₄.ext fun p hp => by
      cases List.mem_singleton.mp hp
      exact ⟨nc, hc, listO_cls, (seqO_ne ·)⟩
    have sb : Heap.SameBut acc s₄.heap (s₄.heap.update acc (Obj.mapSeq fun xs => xs.push (.ref c))) := Heap.SameBut.update ..
    obtain ⟨c2, e5⟩ : ∃ c2, (s₄.heap.update acc (Obj.mapSeq fun xs => xs.push (.ref c))).get? acc = some (listO ((rows.map Value.ref).toArray.push (.ref c)) c2) := ⟨_, IsL.update e3 fun xs => xs.push (.ref c)⟩
    have S₅ := S₄.regMut (x := ".acc") lookup_cons_eq (List.mem_append_left _ htab) sb e5 listO_cls (seqO_ne ·) (fun es ep q => by cases q)
    refine wpAny_pure ⟨rfl, kk - 1, by omega, i + 1, o', rows ++ [c], _, by omega, sm.trans (Same.trans ⟨h', tk, rfl⟩ (sm'.trans (k₄.toSame.trans ⟨_, _, rfl⟩))), hO', tabNew_snoc (cc := cc) (c2 := c2) t (fun p hp => ⟨_, (hreg3 p hp).1⟩) nc, ss₃.trans (k₄.toSame.trans ⟨_, _, rfl⟩), _, _, S₅.sub fun x e lx => ?_⟩
    by_cases hx : x = ".acc"
    · subst hx; rw [lookup_cons_eq] at lx ⊢; exact lx
    · rw [lookup_cons_ne hx] at lx
      have hxy : x ≠ y := by rintro rfl; rw [hyn] at lx; cases lx
      rw [lookup_cons_ne hx, lookup_cons_ne hx, lookup_cons_ne hxy, lookup_cons_ne hx]; exact lx
  · obtain rfl : i = n := by omega
    refine W.done s' o _ _ hIo hO hXs fun h' tk eb => wpAny_pure (fin _ rows R (sm.trans ⟨h', tk, rfl⟩) t ?_)
    have S'' := S'.iterDone nI (W.fld _ o hO) hXI eb
    exact ⟨ss'.trans ⟨h', tk, rfl⟩, Z', m', (S''.dropH fun p hp => List.mem_append_right _ hp).dropV fun p hp => List.mem_append_right _ hp⟩

theorem evRows_comp {y : Str} {yp : Pos} {elt iter : Expr} {pos : Pos} {n : Nat} {dat : Nat → PyData} (D : CompDef scope env) (src : Src C A env Γ iter n dat) (hs : ∀ x, foldedSetIterable iter env x = pure x) (hn : n ≤ 1000)
    (hy : ∀ L, isLoc (compEnv scope env L) y = true) (hna : y ≠ ".acc") (hyf : (scope.names.lookup y == some .free) = false) (hyn : (capT scope.names Γ).lookup y = none)
    (helt : ∀ L acc R i, i < n → EvRow C A (compEnv scope env L) ((y, .fz (dat i)) :: (".acc", .reg acc R) :: capT scope.names Γ) elt n) :
    EvRows C A env Γ (.ListComp elt [⟨.Name y yp, iter, [], 0⟩] scope pos) n := fun E s m Z₀ Z I => by
  rw [eval_ListComp]
  refine wpAny_comprehension_free (g := ⟨.Name y yp, iter, [], 0⟩) (gs := []) rfl hs (closureFor_eq D.free) D.kind (fun x hx hl => by have := D.at (x := x.1) (k := x.2) hx; rwa [hl] at this) (src E s m Z₀ Z _ I fun s₁ X V O o kp hof hO W hX hV => ?_)
  have sz1 : (s₁.heap.push o).objs.size = s₁.heap.objs.size + 1 := Heap.size_push ..
  have sz2 : ((s₁.heap.push o).push (listO #[] 0)).objs.size = s₁.heap.objs.size + 2 := by rw [Heap.size_push, sz1]
  refine wpAny_newList (newCompEnv ?_) (by decide)
  show codeAny C.M A (.compStart _ 0 (.ref s₁.heap.objs.size) (.ref (s₁.heap.push o).objs.size) (compEnv scope env ((s₁.heap.push o).push (listO #[] 0)).objs.size)) (compPost C.M A E none _ (.ref (s₁.heap.push o).objs.size) ((s₁.heap.push o).push (listO #[] 0)).objs.size)
    { s₁ with heap := pushCells (((s₁.heap.push o).push (listO #[] 0)).push { cls := .type "dict", data := .dict #[] }) scope.names }
  rw [sz1, sz2]
  obtain ⟨ssc, Zc, mc, S⟩ := compSt (Γ := Γ) D (I.keep kp.ext) hof (W.clsF _ _ hO) hX hV
  have hnr : ∀ z b R, List.lookup z (((".acc" : Str), Ent.own []) :: capT scope.names Γ) ≠ some (.reg b R) := fun z b R l => by
    by_cases hz : z = ".acc"
    · subst hz; rw [lookup_cons_eq] at l; cases l
    · rw [lookup_cons_ne hz] at l
      obtain ⟨_, e', _, q⟩ := capT_lookup l
      cases e' <;> cases q
  obtain ⟨acc, na, hma, S₁⟩ := S.ownReg lookup_cons_eq hnr
  have hacc : acc = s₁.heap.objs.size + 1 := by
    have := S.i.vars.hid _ hma
    cases this; rfl
  subst hacc
  have hnone : ∀ a : Nat, s₁.heap.objs.size ≤ a → s₁.heap.get? a = none := fun a ha => Heap.get?_none_of_le ha
  have hnone0 : ∀ a, s₁.heap.get? a = none → s.heap.get? a = none := fun a ha => by
    cases q : s.heap.get? a with
    | none => rfl
    | some x => obtain ⟨x', q', _⟩ := kp.ext.stays q; rw [ha] at q'; cases q'
  have hXI : ∀ p ∈ X ++ ([] : List (Addr × Obj)), p.1 ≠ s₁.heap.objs.size := fun p hp q => by
    rw [List.append_nil] at hp
    have e := (hX p hp).1
    rw [q, hnone _ (Nat.le_refl _)] at e; cases e
  have own : OwnC scope env (s₁.heap.objs.size + 2) s₁ := fun x hx c hc => by
    rcases D.cellAt hc with ⟨q, _⟩ | ⟨q, hk⟩
    · have ok := cellsFrom_ok scope.names (((s₁.heap.push o).push (listO #[] 0)).push { cls := .type "dict", data := .dict #[] }) (s₁.heap.objs.size + 3) [] ⟨fun _ _ hm => (nomatch hm), List.Pairwise.nil⟩ (by rw [Heap.size_push, sz2]; exact Nat.le_refl _)
      rw [Heap.size_push, sz2] at ok
      exact hnone c (by have h : (s₁.heap.objs.size + 3 : Nat) ≤ c := (ok.empty _ _ (mem_of_lookup q)).2; omega)
    · rw [hk] at hx; exact absurd hx (by decide)
  have hgI := (S.hs _ List.mem_cons_self).1
  have S₂ := S₁.sub (Γ' := (".acc", .reg (s₁.heap.objs.size + 1) [(s₁.heap.objs.size + 1, listO #[] na)]) :: capT scope.names Γ) fun z en lz => by
    by_cases hz : z = ".acc"
    · subst hz; rw [lookup_cons_eq] at lz ⊢; exact lz
    · rw [lookup_cons_ne hz] at lz; rw [lookup_cons_ne hz, lookup_cons_ne hz]; exact lz
  have loop := comp_loopR (elt := elt) (scope := scope) (pos := pos) (yp := yp) (iter := iter) (k := n) (Rz := compPost C.M A E none (fun v s' => Kp A s s' ∧ ∃ b rows Rn, v = .ref b ∧ TabNew Rn b rows n n ∧ ∀ p ∈ Rn, s.heap.get? p.1 = none ∧ s'.heap.get? p.1 = some p.2) (.ref (s₁.heap.objs.size + 1)) (s₁.heap.objs.size + 2)) W hO (capT scope.names Γ) (hnone _ (Nat.le_refl _)) hXI
    (hy _) (own y hyf) hna hyn hn (fun R i hi => helt _ _ R i hi) ⟨⟨na, List.mem_singleton.mpr rfl⟩, rfl, fun i hi => absurd hi (Nat.not_lt_zero i), by simp, fun p hp => by cases List.mem_singleton.mp hp; exact .inl ⟨rfl, na, rfl⟩⟩ ⟨ssc, Zc, mc, S₂⟩ (fun s' rows R sm t S' => by
      obtain ⟨_, Z', m', S'⟩ := S'
      obtain ⟨ml, hnn, _⟩ := S'.i.vars.loc
      have hreg := (S'.i.reg lookup_cons_eq).2
      have hrg := (S'.rg _ _ _ lookup_cons_eq).1
      refine ⟨ml, hnn, fun h' sb => ⟨⟨kp.toSame.trans (Same.trans ⟨_, _, rfl⟩ (sm.trans ⟨h', _, rfl⟩)), (kp.ext.trans S'.keep).mutOf (hnone0 _ (hnone _ (by omega))) fun b o hb e => (sb.2 b hb).trans e⟩, _, rows, R, rfl, t, fun p hp => ⟨hnone0 _ (hrg p hp).1, (sb.2 p.1 (hrg p hp).2.1).trans (hreg p hp).1⟩⟩⟩)
  exact codeAny_compStart_list loop (W.self 0 _ o _ _ hgI hO loop)
end
end

section
set_option autoImplicit false
set_option linter.unusedVariables false
set_option maxRecDepth 100000
open PySem PyProof.Rows PySem.W

mutual
theorem eqv_self : ∀ d : PyData, noDict d = true → PyData.eqv d d = true
  | .none, _ => by simp [PyData.eqv]
  | .bool b, _ => by simp [PyData.eqv]
  | .int i, _ => by simp [PyData.eqv]
  | .str s, _ => by simp [PyData.eqv]
  | .list xs, h => by simp only [PyData.eqv]; exact eqvAll_self xs (by simpa [noDict] using h)
  | .tuple xs, h => by simp only [PyData.eqv]; exact eqvAll_self xs (by simpa [noDict] using h)
  | .dict _, h => by simp [noDict] at h
theorem eqvAll_self : ∀ xs : List PyData, noDict.noDicts xs = true → PyData.eqvAll xs xs = true
  | [], _ => by simp [PyData.eqvAll]
  | x :: xs, h => by
    simp only [noDict.noDicts, Bool.and_eq_true] at h
    simp [PyData.eqvAll, eqv_self x h.1, eqvAll_self xs h.2]
end

section
variable {C : Cx} {A : Around} {env : Env} {Γ : Tab} {e e₁ e₂ e₃ : Expr} {μ : Bool} {d d₁ d₂ d₃ : PyData}

theorem e_get2 {ap cp : Pos} {kds : List (Str × PyData)} {k : Str} (h₁ : Ev C A env Γ e₁ μ (dD kds)) (h₂ : Ev C A env Γ e₂ false (.str k)) (h₃ : Ev C A env Γ e₃ μ d₃) (hb : attributeBase e₁ "get" env (eval e₁ env) = eval e₁ env) (hn2 : notStar e₂ = true) (hn3 : notStar e₃ = true) (hline : (ap.endLine == cp.line) = true) :
    Ev C A env Γ (.Call (.Attribute e₁ "get" ap) [e₂, e₃] [] cp) μ ((kds.lookup k).getD d₃) := fun E s m Z₀ Z I => by
  refine Call_method2 hb (by rw [starEach_cons hn2, starEach_cons hn3]; rfl) hline (h₁.go I fun v s₁ k₁ I₁ r₁ => ?_)
  obtain ⟨a, o, kvs, rfl, he, z, ns, hd, y⟩ := rd_dict_inv r₁
  have hdo1 : s₁.heap.DictOf (strKind C.prog C.w) a kvs := Heap.dictOf_iff.mpr ⟨o, he, hd⟩
  refine ⟨"dict", "dict.get", F.plainAttrs_dict, F.slot_dict_get, F.type_dict_get, hdo1.typeIs, hdo1.mapOf.noDict, wpAny_dict_get2 (knd := strKind C.prog C.w) ns (h₂.go I₁ fun kv s₂ k₂ I₂ r₂ => h₃.go I₂ fun dv s₃ k₃ I₃ r₃ => ?_)⟩
  cases r₂ with
  | str _ t hs =>
    have k23 := k₂.trans k₃
    have hdo : s₃.heap.DictOf (strKind C.prog C.w) a kvs := Heap.dictOf_iff.mpr ⟨o, k23.ext.at he (dictO_cls hd), hd⟩
    refine ⟨k, _, strKind_is _ _ k t, hdo.mapOf, ?_⟩
    have kall := (k₁.trans k23).trans (Kp.tok s₃ (s₃.toks + 1))
    cases hl : kds.lookup k with
    | none => rw [y.none hl]; exact ⟨kall, r₃⟩
    | some d => obtain ⟨u, hu, ru⟩ := y.at hl; rw [hu]; exact ⟨kall, ru.keep k23.ext⟩

theorem e_items {x : Str} {p pos ap cp : Pos} {kds : List (Str × PyData)} (hA : A.handled = none) (hb : Blt C env x (.type "list")) (h : Ev C A env Γ e μ (dD kds)) (hat : attributeBase e "items" env (eval e env) = eval e env) (hline : (ap.endLine == cp.line) = true) (hz : kds.length ≤ sizeLine) (hok : ∀ q ∈ kds, PyData.strOk q.1 = true) :
    Ev C A env Γ (.Call (.Name x p) [.Call (.Attribute e "items" ap) [] [] cp] [] pos) μ (.list (kds.map fun q => .tuple [.str q.1, q.2])) := fun E s m Z₀ Z I => by
  refine Call_Name rfl (loadBlt I hb.g hb.m hb.b (PyProof.Rows.callWith_type (starEach_any rfl) ?_))
  rw [starEach_cons rfl]
  refine Calls.evalArgs_plain (Calls.spliced_cons (Call_method0 hat hline (h.go I fun v s₁ k₁ I₁ r₁ => ?_)))
  obtain ⟨a, o, kvs, rfl, he, z, ns, hd, y⟩ := rd_dict_inv r₁
  have hdo : s₁.heap.DictOf (strKind C.prog C.w) a kvs := Heap.dictOf_iff.mpr ⟨o, he, hd⟩
  refine ⟨"dict", "dict.items", F.plainAttrs_dict, F.slot_dict_items, F.type_dict_items, hdo.typeIs, hdo.mapOf.noDict, method_meetsIn F.slot_dict_items F.entry_dict_items rfl (evalArgs_empty ⟨rfl, hdo.typeIs, F.args_dict_items_1 _, _, meets_dict_items (strKind C.prog C.w) a ns, ⟨kvs, hdo⟩, ?_⟩)⟩
  refine Calls.spliced_nil ?_
  rw [List.nil_append]
  obtain ⟨es, ep, hx⟩ := id hd
  have hda : s₁.heap.DictAt (strKind C.prog C.w) a kvs ep := ⟨o, es, he, hx⟩
  refine kdx_call (s := { s₁ with heap := s₁.heap.push { cls := .type "dict_items", data := .fields #[.ref a] } }) (d := a) hA ⟨_, Heap.get?_push_size _ rfl, rfl, rfl⟩ (hda.push _) (by rw [y.length]; exact hz) fun h' tk acc c as hk hl hlen hG hacc => ?_
  have ex : Ext A s₁.heap h' := .of fun b o e => hk b o (Heap.get?_push_of_some _ e)
  have ksz : ∀ b, s₁.heap.objs.size ≤ b → ¬ sel μ Z b := fun b hb q => by
    cases μ with
    | true => obtain ⟨o, e⟩ := I₁.z.st b q; exact absurd (Heap.lt_size e) (Nat.not_lt.mpr hb)
    | false => exact q
  have hsz : (s₁.heap.push { cls := .type "dict_items", data := .fields #[.ref a] }).objs.size = s₁.heap.objs.size + 1 := Heap.size_push ..
  refine ⟨k₁.trans ⟨⟨h', tk, rfl⟩, ex⟩, .list (n := c) hl (ksz _ (by rw [hsz]; exact Nat.le_succ _)) ?_⟩
  rw [hacc]
  have yl := y.length
  refine rds_of (by rw [List.length_map, List.length_map, hlen, yl]) fun i h1 h2 => ?_
  rw [List.getElem_map, List.getElem_map]
  have hi : i < as.length := by simpa using h1
  have hi2 : i < kds.length := by simpa using h2
  obtain ⟨key, k, u, e1, e2, e3⟩ := hG.pairs i as[i] (List.getElem?_eq_getElem hi)
  obtain ⟨t, rfl⟩ := Value.isStrOf_shape e2
  have e4 : (kvs.map (·.1))[i]? = some k := by rw [List.getElem?_map, e1]; rfl
  rw [y.keys, List.getElem?_map, List.getElem?_eq_getElem hi2] at e4
  have e5 : kds[i].1 = k := Option.some.inj e4
  have ru : Rd C.prog C.w (sel μ Z) h' u kds[i].2 := by
    have hr := y.rds.1
    obtain ⟨d', q1, q2⟩ := hr.get' (k := i) (v := u) (by rw [List.getElem?_map, e1]; rfl)
    rw [List.getElem?_map, List.getElem?_eq_getElem hi2] at q1
    cases q1
    exact q2.keep ex
  have hab := hG.above as[i] (List.getElem_mem hi)
  refine .tuple (n := 0) e3 (ksz _ ?_) (.cons ?_ (.cons ru .nil))
  · rw [hsz] at hab; exact Nat.le_of_lt (Nat.lt_of_succ_lt hab)
  · rw [e5]; exact .str _ t (e5 ▸ hok _ (List.getElem_mem hi2))

theorem e_sliceS {lo hi : Expr} {x : Str} {i j : Int} {p pos : Pos} (h : Ev C A env Γ e false (.str x)) (hlo : Ev C A env Γ lo false (.int i)) (hhi : Ev C A env Γ hi false (.int j)) (hz : x.length ≤ sizeLine) (hok : PyData.strOk x = true → PyData.strOk (Txt.slice x (some i) (some j)) = true) :
    Ev C A env Γ (.Subscript e (.Slice (some lo) (some hi) none p) pos) μ (.str (Txt.slice x (some i) (some j))) := fun E s m Z₀ Z I =>
  Subscript_ (h.go I fun v s₁ k₁ I₁ r => wpAny_Slice ((o_some hlo).go I₁ fun l s₂ k₂ I₂ pl => (o_some hhi).go I₂ fun u s₃ k₃ I₃ pu => by
    rw [evalPart_none]
    refine wpAny_pure ?_
    cases r with
    | str _ t hs =>
      cases pl with
      | int _ tl =>
        cases pu with
        | int _ tu =>
          obtain ⟨ops, ho⟩ := subscripted_ops (.Slice (some lo) (some hi) none p) (.str x t) (.ref s₃.heap.objs.size)
          obtain ⟨T, id, hl, hT, hg⟩ := SBH.sliceItem_ss (A := A) (E := E) (prog := C.prog) (w := C.w) (P := fun h' => Ext A s₃.heap h') (s := s₃) (x := x) (t := t) (i := i) (j := j) (ui := tl) (uj := tu) (Q := fun v s' => Kp A s s' ∧ Rd C.prog C.w (sel μ Z) s'.heap v (.str (Txt.slice x (some i) (some j))))
            (fun h ob q => q.trans (Ext.push ob)) (Ext.refl _) (fun h' t' k q => ⟨((k₁.trans k₂).trans k₃).trans ⟨⟨h', k, rfl⟩, q⟩, .str _ t' (hok hs)⟩) hz
          exact tail_any hT hl hg ho))

theorem e_geI {n : Nat} {pos : Pos} {a b : Int} (hA : OkA A n) (h₁ : Ev C A env Γ e₁ false (.int a)) (h₂ : Ev C A env Γ e₂ false (.int b)) : Ev C A env Γ (.Compare e₁ [.GtE] [e₂] pos) μ (.bool (decide (b ≤ a))) := ev_cmp hA h₁ h₂ rfl (marks_of rfl)
theorem e_gtI {n : Nat} {pos : Pos} {a b : Int} (hA : OkA A n) (h₁ : Ev C A env Γ e₁ false (.int a)) (h₂ : Ev C A env Γ e₂ false (.int b)) : Ev C A env Γ (.Compare e₁ [.Gt] [e₂] pos) μ (.bool (decide (b < a))) := ev_cmp hA h₁ h₂ rfl (marks_of rfl)
theorem e_inI {n : Nat} {pos : Pos} {i : Int} {l : List Int} (hA : OkA A n) (h₁ : Ev C A env Γ e₁ false (.int i)) (h₂ : Ev C A env Γ e₂ false (.list (l.map .int))) (hm : behindInMarks .In e₂ = false) : Ev C A env Γ (.Compare e₁ [.In] [e₂] pos) μ (.bool (l.contains i)) := ev_cmp hA h₁ h₂ (cmp_inI l i) hm

theorem kv_val {prog : Program} {w : World} {Z : Addr → Prop} {h : Heap} {kvs : List (Str × Value)} {kds : List (Str × PyData)} (y : Kv prog w Z h kvs kds) {k : Str} {d : PyData} (hm : (k, d) ∈ kds) (hn : (kds.map (·.1)).Nodup) : ∃ u, valueAt kvs k = some u ∧ Rd prog w Z h u d := by
  refine y.at ?_
  clear y
  induction kds with
  | nil => cases hm
  | cons p kds ih =>
    obtain ⟨k', d'⟩ := p
    rw [List.map_cons, List.nodup_cons] at hn
    rw [List.lookup_cons]
    rcases List.mem_cons.mp hm with q | q
    · cases q; simp
    · have hne : k ≠ k' := fun e => hn.1 (e ▸ List.mem_map.mpr ⟨(k, d), q, rfl⟩)
      have hb : (k == k') = false := by simpa using hne
      rw [hb]; exact ih q hn.2
theorem c_neDict {n : Nat} {pos : Pos} {kds : List (Str × PyData)} {k : Nat} (hA : OkA A n) (h₁ : Ev C A env Γ e₁ false (dD kds)) (h₂ : Ev C A env Γ e₂ false (dD kds)) (hn : (kds.map (·.1)).Nodup) (hd : ∀ q ∈ kds, DOk q.2 k) (hk : k ≤ 60) : Cd C A env Γ (.Compare e₁ [.NotEq] [e₂] pos) false := fun E s m Z₀ Z I =>
  wpAny_isTrue_Compare1 (h₁.go2 h₂ I fun v₁ v₂ s' kp I' r₁ r₂ => by
    obtain ⟨a, o, kvs, rfl, he, z, ns, hx, y⟩ := rd_dict_inv r₁
    obtain ⟨a', o', kvs', rfl, he', z', ns', hx', y'⟩ := rd_dict_inv r₂
    have d1 : s'.heap.DictOf (strKind C.prog C.w) a kvs := Heap.dictOf_iff.mpr ⟨o, he, hx⟩
    have d2 : s'.heap.DictOf (strKind C.prog C.w) a' kvs' := Heap.dictOf_iff.mpr ⟨o', he', hx'⟩
    have hun := hA.un
    have hits : ∀ (ka : List (Str × Value)) (kd : List (Str × PyData)), Kv C.prog C.w (sel false Z) s'.heap ka kd → (∀ q ∈ kd, q ∈ kds) → KeqHits A.in1 s' kvs' ka true := by
      intro ka kd yy
      induction yy with
      | nil => intro _; exact .nil
      | @cons k0 v0 dd _ _ rr _ ih =>
        intro hsub
        obtain ⟨u, hu, ru⟩ := kv_val y' (hsub _ List.mem_cons_self) hn
        have hdd := hd _ (hsub (k0, dd) List.mem_cons_self)
        obtain ⟨as, ra⟩ := rr.reads hdd.1
        obtain ⟨bs, rb⟩ := ru.reads hdd.1
        have hsh : SeqAt.shaped dd = true := by
          unfold SeqAt.shaped
          rw [rr.canLay0 hdd.1, decide_eq_true (by have h : dd.depth ≤ k := hdd.2; omega)]; rfl
        have hq := keq_at (A := A) ra rb hsh hsh (by show A.units + 1 + 64 < _; omega)
        rw [eqv_self dd hdd.1] at hq
        exact KeqHits.hit (e := true) (b := true) hu hq (ih fun q hq => hsub q (List.mem_cons_of_mem _ hq))
    refine keq_ne (r := true) ns ns' d1 d2 (by omega) (fun _ => hits kvs kds y fun q h => h) ?_
    have el : kvs.length = kvs'.length := by rw [y.length, y'.length]
    rw [el]
    refine wpAny_truthy_bool ?_
    exact ⟨kp, by simp⟩) (marks_of rfl)
end
end

section
open PySem PySem.W PyProof.Rows
set_option Elab.async false
set_option maxRecDepth 100000
set_option maxHeartbeats 8000000
open_top hd2 for PySem.Challenge.rw_sx_yaugur_2
end

section
set_option autoImplicit false
set_option linter.unusedVariables false
set_option maxRecDepth 100000
open PySem PyProof.Rows PySem.W

theorem fnDef_of {C : Cx} {f : Addr} {o : Obj} {fd : FuncData} {ps : List Str} {body : List Stmt} (ho : C.K.lookup f = some o) (hd : o.data = .func fd) (hc : codeIn C.K fd.code fd.qualname = true) (hb : fd.body = .stmts body) (h1 : fd.closure = []) (h2 : fd.globals = mainGlobals) (h3 : fd.builtins = builtinsNs)
    (h4 : ∀ vs : List Value, vs.length = ps.length → bindArgs fd ⟨vs, []⟩ = pure (ps.zip vs)) (h5 : ps.Nodup)
    (h6 : (ps.all fun x => fd.scope.names.lookup x == some .local || (fd.scope.names.lookup x == some .cell && ((cellsFrom 0 fd.scope.names []).lookup x).isSome)) = true)
    (h7 : ((cellsFrom 0 fd.scope.names []).all fun p => fd.scope.names.lookup p.1 != some .local) = true) (h8 : fd.scope.isCoroutine = false) (h9 : fd.scope.isGenerator = false) (h10 : fd.scope.kind = .function) (h11 : fd.scope.names.lookup (".acc" : Str) = none) : FnDef C f fd ps body :=
  ⟨⟨o, ho, hd⟩, fun h B => codeRec_of B.k hc, hb, h1, h2, h3, h4, h5, h6, h7, h8, h9, h10, h11⟩


noncomputable abbrev C2 (prog : Program) (w : World) (mg mb : Str → Option Value) (P : Params) : Cx := ⟨prog, w, mg, mb, hd2.heap_39 P⟩

structure G2 (prog : Program) (w : World) (mg mb : Str → Option Value) (P : Params) : Prop where
  base : ∃ h, Base (C2 prog w mg mb P) h
  blt : ∀ x : Str, x ≠ "__name__" → mb x = bootBuiltins x

section
variable {prog : Program} {w : World} {mg mb : Str → Option Value} {P : Params}
theorem G2.at (G : G2 prog w mg mb P) {x : Str} {v : Value} (e : nsIn (hd2.heap_39 P) mainGlobals x = some (some v)) : mg x = some v :=
  let ⟨_, B⟩ := G.base; mg_of B.k B.g e
theorem G2.no (G : G2 prog w mg mb P) {x : Str} (e : nsIn (hd2.heap_39 P) mainGlobals x = some none) : mg x = none :=
  let ⟨_, B⟩ := G.base; ns_none_of B.k B.g e
theorem G2.b (G : G2 prog w mg mb P) {env : Env} {x : Str} {v : Value} (h1 : isGlob env x = true) (h2 : nsIn (hd2.heap_39 P) mainGlobals x = some none) (h3 : bootBuiltins x = some v) (h4 : x ≠ "__name__") : Blt (C2 prog w mg mb P) env x v :=
  ⟨h1, G.no h2, (G.blt x h4).trans h3⟩
end
end

section
set_option autoImplicit false
set_option linter.unusedVariables false
set_option maxRecDepth 100000
open PySem PyProof.Rows PySem.W

noncomputable abbrev Rule := Str × List Str
noncomputable def sD (l : List Str) : PyData := .list (l.map .str)
noncomputable def rD (r : Rule) : PyData := .tuple [.str r.1, sD r.2]
noncomputable def gD (g : List Rule) : PyData := .list (g.map rD)
theorem sliceD_to (ds : List PyData) (j : Int) (h : 0 ≤ j) : sliceD ds none (some j) = ds.take j.toNat := by
  unfold sliceD
  show (ds.drop 0).take (clipAt ds.length j - 0) = ds.take j.toNat
  rw [List.drop_zero, Nat.sub_zero]
  unfold clipAt
  split
  · omega
  · rcases Nat.le_total j.toNat ds.length with q | q
    · congr 1; omega
    · rw [List.take_of_length_le (by omega), List.take_of_length_le (by omega)]
noncomputable def idx (a : Int) (n : Nat) : Nat := (a.fmod n).toNat
theorem idx_lt (a : Int) {n : Nat} (h : 0 < n) : idx a n < n := by
  unfold idx
  have h1 := Int.fmod_nonneg_of_pos a (b := n) (by omega)
  have h2 := Int.fmod_lt_of_pos a (b := n) (by omega)
  omega
theorem fmod_idx (a : Int) {n : Nat} (h : 0 < n) : a.fmod n = (idx a n : Int) := by
  unfold idx
  have h1 := Int.fmod_nonneg_of_pos a (b := n) (by omega)
  omega
theorem dOk_str (s : Str) : DOk (.str s) 0 := DOk.flat rfl
theorem dOk_sD (l : List Str) : DOk (sD l) 1 := DOk.list fun x hx => by
  obtain ⟨s, _, rfl⟩ := List.mem_map.mp hx
  exact dOk_str s
theorem dOk_rD (r : Rule) : DOk (rD r) 2 := DOk.tuple fun x hx => by
  rcases List.mem_cons.mp hx with rfl | hx
  · exact (dOk_str _).mono (by omega)
  · cases List.mem_singleton.mp hx; exact dOk_sD _
theorem dOk_gD (g : List Rule) : DOk (gD g) 3 := DOk.list fun x hx => by
  obtain ⟨s, _, rfl⟩ := List.mem_map.mp hx
  exact dOk_rD s
noncomputable def addNew (acc : List Str) (s : Str) : List Str := if acc.contains s then acc else acc ++ [s]
noncomputable def dd (l : List Str) : List Str := l.foldl addNew []
noncomputable def headsOf (g : List Rule) : List Str := dd (g.map (·.1))
theorem addNew_len (acc : List Str) (s : Str) : (addNew acc s).length ≤ acc.length + 1 := by unfold addNew; split <;> simp
theorem foldNew_len (l acc : List Str) : (l.foldl addNew acc).length ≤ acc.length + l.length := by
  induction l generalizing acc with
  | nil => simp
  | cons a l ih => have := ih (addNew acc a); have := addNew_len acc a; rw [List.foldl_cons, List.length_cons]; omega
theorem dd_len (l : List Str) : (dd l).length ≤ l.length := by have := foldNew_len l []; simpa [dd] using this
theorem dd_snoc (l : List Str) (s : Str) : dd (l ++ [s]) = addNew (dd l) s := by unfold dd; rw [List.foldl_append]; rfl
theorem filter_le {α : Type} (p q : α → Bool) (l : List α) (h : ∀ x ∈ l, p x = true → q x = true) : (l.filter p).length ≤ (l.filter q).length := by
  induction l with
  | nil => simp
  | cons a l ih =>
    have ih' := ih fun x hx => h x (List.mem_cons_of_mem _ hx)
    rw [List.filter_cons, List.filter_cons]
    cases hp : p a with
    | true => rw [h a List.mem_cons_self hp]; simp; omega
    | false => cases q a <;> simp <;> omega
theorem filter_lt {α : Type} (p q : α → Bool) (l : List α) (h : ∀ x ∈ l, p x = true → q x = true) {a : α} (ha : a ∈ l) (hp : p a = false) (hq : q a = true) : (l.filter p).length < (l.filter q).length := by
  induction l with
  | nil => cases ha
  | cons b l ih =>
    have hl := filter_le p q l fun x hx => h x (List.mem_cons_of_mem _ hx)
    rw [List.filter_cons, List.filter_cons]
    rcases List.mem_cons.mp ha with rfl | ha
    · rw [hp, hq]; simp; omega
    · have := ih (fun x hx => h x (List.mem_cons_of_mem _ hx)) ha
      cases hpb : p b with
      | true => rw [h b List.mem_cons_self hpb]; simp; omega
      | false => cases q b <;> simp <;> omega
theorem str_ext {a b : Str} (h : a.cps.toList = b.cps.toList) : a = b := by
  obtain ⟨⟨l⟩⟩ := a
  obtain ⟨⟨l'⟩⟩ := b
  simp only at h
  rw [h]
theorem mem_addNew {f : List Str} {s x : Str} : x ∈ addNew f s ↔ x ∈ f ∨ x = s := by
  unfold addNew
  split
  · rename_i h
    constructor
    · exact .inl
    · rintro (h' | rfl)
      · exact h'
      · simpa using h
  · simp
theorem mem_foldNew : ∀ (l f : List Str) (x : Str), x ∈ l.foldl addNew f ↔ x ∈ f ∨ x ∈ l
  | [], f, x => by simp
  | s :: l, f, x => by
    rw [List.foldl_cons, mem_foldNew l, mem_addNew, List.mem_cons]
    constructor
    · rintro ((h | h) | h)
      · exact .inl h
      · exact .inr (.inl h)
      · exact .inr (.inr h)
    · rintro (h | h | h)
      · exact .inl (.inl h)
      · exact .inl (.inr h)
      · exact .inr h
theorem mem_dd (l : List Str) (x : Str) : x ∈ dd l ↔ x ∈ l := by unfold dd; rw [mem_foldNew]; simp
theorem con_iff {l : List Str} {x : Str} : l.contains x = true ↔ x ∈ l := by simp
theorem addNew_nodup {f : List Str} {s : Str} (h : f.Nodup) : (addNew f s).Nodup := by
  unfold addNew
  split
  · exact h
  · rename_i hc
    rw [List.nodup_append]
    refine ⟨h, by simp, fun a ha b hb e => ?_⟩
    cases List.mem_singleton.mp hb
    subst e
    exact hc (con_iff.mpr ha)
theorem foldNew_nodup : ∀ (l f : List Str), f.Nodup → (l.foldl addNew f).Nodup
  | [], _, h => h
  | s :: l, f, h => foldNew_nodup l _ (addNew_nodup h)
theorem dd_nodup (l : List Str) : (dd l).Nodup := foldNew_nodup l [] .nil
section
variable {C : Cx} {A : Around} {env : Env} {Γ Γe : Tab} {e e₁ e₂ : Expr} {μ : Bool} {d : PyData}
theorem In.has {Z₀ Z : Addr → Prop} {m : Str → Option Value} {h : Heap} (I : In C A env Z₀ Z Γ m h) (hs : Has Γ Γe) : In C A env Z₀ Z Γe m h := ⟨I.fn, I.vars, fun x e l => I.ents x e (hs x e l), I.base, I.z, I.fr, I.zc, I.cd⟩
theorem Cd.has {b : Bool} (h : Cd C A env Γe e b) (hs : Has Γ Γe) : Cd C A env Γ e b := fun E s m Z₀ Z I => h E s m Z₀ Z (I.has hs)
theorem Ev.has (h : Ev C A env Γe e μ d) (hs : Has Γ Γe) : Ev C A env Γ e μ d := fun E s m Z₀ Z I => h E s m Z₀ Z (I.has hs)
theorem c_neSame {n : Nat} {pos : Pos} {k : Nat} (hA : OkA A n) (h₁ : Ev C A env Γ e₁ false d) (h₂ : Ev C A env Γ e₂ false d) (hd : DOk d k) (hk : k ≤ 100) : Cd C A env Γ (.Compare e₁ [.NotEq] [e₂] pos) false :=
  (c_ne hA h₁ h₂ hd (hd.mono hk) hk).cast (by rw [eqv_self d hd.1]; rfl)
end
end

section
set_option autoImplicit false
set_option linter.unusedVariables false
set_option maxRecDepth 100000
open PySem

noncomputable abbrev cp (s : Str) : List Nat := s.cps.toList
theorem cp_app (a b : Str) : cp (a ++ b) = cp a ++ cp b := by show (a ++ b).cps.toList = _; rw [Str.cps_append, Array.toList_append]
inductive DerB (g : List Rule) : List Str → List Nat → Prop
  | nil : DerB g [] []
  | tok {s : Str} {b : List Str} {w : List Nat} : ¬ s ∈ headsOf g → DerB g b w → DerB g (s :: b) (cp s ++ w)
  | head {h : Str} {body b : List Str} {u w : List Nat} : (h, body) ∈ g → DerB g body u → DerB g b w → DerB g (h :: b) (u ++ w)
noncomputable def DerH (g : List Rule) (h : Str) (u : List Nat) : Prop := ∃ body, (h, body) ∈ g ∧ DerB g body u

theorem con2 {l : List Str} {x : Str} : l.contains x = true ↔ x ∈ l := by simp
theorem mem_heads2 {g : List Rule} {x : Str} : x ∈ headsOf g ↔ ∃ r ∈ g, r.1 = x := by unfold headsOf; rw [mem_dd]; simp

noncomputable def spStep (sub : Str → Bool) (longer : List Str) (piece : Str) : List Str := if sub piece && !longer.contains piece then longer ++ [piece] else longer
noncomputable def spIn (sub : Str → Bool) (os : List Str) (longer : List Str) (left : Str) : List Str := os.foldl (fun l r => spStep sub l (left ++ r)) longer
noncomputable def spSym (sub : Str → Bool) (os made : List Str) : List Str := made.foldl (spIn sub os) []
noncomputable def spellF (sub : Str → Bool) (opt : Str → List Str) (made body : List Str) : List Str := body.foldl (fun made s => spSym sub (opt s) made) made
theorem mem_spStep {sub : Str → Bool} {l : List Str} {p x : Str} : x ∈ spStep sub l p ↔ x ∈ l ∨ (x = p ∧ sub p = true) := by
  unfold spStep
  split
  · rename_i h
    rw [Bool.and_eq_true] at h
    rw [List.mem_append, List.mem_singleton]
    exact ⟨fun q => q.imp id fun q => ⟨q, h.1⟩, fun q => q.imp id fun q => q.1⟩
  · rename_i h
    refine ⟨.inl, ?_⟩
    rintro (q | ⟨rfl, q⟩)
    · exact q
    · rw [q, Bool.true_and, Bool.not_eq_true'] at h
      simpa using h
theorem mem_spIn {sub : Str → Bool} {left x : Str} : ∀ (os longer : List Str), x ∈ spIn sub os longer left ↔ x ∈ longer ∨ (sub x = true ∧ ∃ r ∈ os, x = left ++ r)
  | [], l => by simp [spIn]
  | r :: os, l => by
    show x ∈ spIn sub os (spStep sub l (left ++ r)) left ↔ _
    rw [mem_spIn os, mem_spStep]
    constructor
    · rintro ((q | ⟨rfl, q⟩) | ⟨q, r', hr', e⟩)
      · exact .inl q
      · exact .inr ⟨q, r, List.mem_cons_self, rfl⟩
      · exact .inr ⟨q, r', List.mem_cons_of_mem _ hr', e⟩
    · rintro (q | ⟨q, r', hr', e⟩)
      · exact .inl (.inl q)
      · rcases List.mem_cons.mp hr' with rfl | hr'
        · exact .inl (.inr ⟨e, e ▸ q⟩)
        · exact .inr ⟨q, r', hr', e⟩
theorem mem_spFold {sub : Str → Bool} {os : List Str} {x : Str} : ∀ (made longer : List Str), x ∈ made.foldl (spIn sub os) longer ↔ x ∈ longer ∨ (sub x = true ∧ ∃ l ∈ made, ∃ r ∈ os, x = l ++ r)
  | [], l => by simp
  | m :: made, l => by
    rw [List.foldl_cons, mem_spFold made, mem_spIn]
    constructor
    · rintro ((q | ⟨q, r, hr, e⟩) | ⟨q, l', hl', e⟩)
      · exact .inl q
      · exact .inr ⟨q, m, List.mem_cons_self, r, hr, e⟩
      · exact .inr ⟨q, l', List.mem_cons_of_mem _ hl', e⟩
    · rintro (q | ⟨q, l', hl', e⟩)
      · exact .inl (.inl q)
      · rcases List.mem_cons.mp hl' with rfl | hl'
        · exact .inl (.inr ⟨q, e⟩)
        · exact .inr ⟨q, l', hl', e⟩
theorem mem_spSym {sub : Str → Bool} {os made : List Str} {x : Str} : x ∈ spSym sub os made ↔ sub x = true ∧ ∃ l ∈ made, ∃ r ∈ os, x = l ++ r := by
  unfold spSym; rw [mem_spFold]; simp
theorem spStep_nodup {sub : Str → Bool} {l : List Str} {p : Str} (h : l.Nodup) : (spStep sub l p).Nodup := by
  unfold spStep
  split
  · rename_i q
    rw [Bool.and_eq_true] at q
    rw [List.nodup_append]
    refine ⟨h, by simp, fun a ha b hb e => ?_⟩
    cases List.mem_singleton.mp hb
    subst e
    have := q.2
    simp [ha] at this
  · exact h
theorem spIn_nodup {sub : Str → Bool} {left : Str} : ∀ (os l : List Str), l.Nodup → (spIn sub os l left).Nodup
  | [], _, h => h
  | r :: os, l, h => spIn_nodup os _ (spStep_nodup h)
theorem spFold_nodup {sub : Str → Bool} {os : List Str} : ∀ (made l : List Str), l.Nodup → (made.foldl (spIn sub os) l).Nodup
  | [], _, h => h
  | m :: made, l, h => spFold_nodup made _ (spIn_nodup os l h)
theorem spSym_nodup {sub : Str → Bool} {os made : List Str} : (spSym sub os made).Nodup := spFold_nodup made [] .nil
theorem spellF_nodup {sub : Str → Bool} {opt : Str → List Str} : ∀ (body made : List Str), made.Nodup → (spellF sub opt made body).Nodup
  | [], _, h => h
  | s :: body, made, _ => spellF_nodup body _ spSym_nodup
theorem spellF_sub {sub : Str → Bool} {opt : Str → List Str} : ∀ (body made : List Str), (∀ x ∈ made, sub x = true) → ∀ x ∈ spellF sub opt made body, sub x = true
  | [], _, h => h
  | s :: body, made, _ => spellF_sub body _ fun x hx => (mem_spSym.mp hx).1
noncomputable def optK (g : List Rule) (K : Str → List Str) (s : Str) : List Str := if (headsOf g).contains s then K s else [s]

section
variable {g : List Rule} {K : Str → List Str} {sub : Str → Bool} {W : List Nat}
theorem spell_sound (hK : ∀ h ∈ headsOf g, ∀ s ∈ K h, DerH g h (cp s)) : ∀ (body made : List Str), ∀ x ∈ spellF sub (optK g K) made body, ∃ l ∈ made, ∃ u, DerB g body u ∧ cp x = cp l ++ u
  | [], made, x, hx => ⟨x, hx, [], .nil, by simp⟩
  | s :: body, made, x, hx => by
    obtain ⟨l, hl, u, hu, e⟩ := spell_sound hK body _ x hx
    obtain ⟨_, l', hl', r, hr, rfl⟩ := mem_spSym.mp hl
    unfold optK at hr
    refine ⟨l', hl', cp r ++ u, ?_, by rw [e, cp_app, List.append_assoc]⟩
    split at hr
    · rename_i hs
      obtain ⟨b, hb, hd⟩ := hK s (con2.mp hs) r hr
      exact .head hb hd hu
    · rename_i hs
      rw [List.mem_singleton.mp hr]
      exact .tok (fun q => hs (con2.mpr q)) hu
theorem infix_l {a b c W : List Nat} (h : a ++ (b ++ c) <:+: W) : a ++ b <:+: W := by
  obtain ⟨x, y, e⟩ := h
  exact ⟨x, c ++ y, by rw [← e]; simp⟩
theorem infix_m {a b c W : List Nat} (h : a ++ (b ++ c) <:+: W) : b <:+: W := by
  obtain ⟨x, y, e⟩ := h
  exact ⟨x ++ a, c ++ y, by rw [← e]; simp⟩
theorem spell_complete (hsub : ∀ p, sub p = true ↔ cp p <:+: W) (hex : ∀ u : List Nat, u <:+: W → ∃ s : Str, cp s = u) (hcl : ∀ r ∈ g, ∀ s ∈ spellF sub (optK g K) [""] r.2, s ∈ K r.1) {body : List Str} {u : List Nat} (hd : DerB g body u) :
    ∀ (made : List Str) (l x : Str), l ∈ made → cp x = cp l ++ u → cp x <:+: W → x ∈ spellF sub (optK g K) made body := by
  have e0 : cp "" = [] := by decide
  induction hd with
  | nil =>
    intro made l x hl e _
    rw [List.append_nil] at e
    rw [str_ext e]; exact hl
  | @tok s b w hs hd ih =>
    intro made l x hl e hi
    refine ih _ (l ++ s) x (mem_spSym.mpr ⟨(hsub _).mpr ?_, l, hl, s, ?_, rfl⟩) (by rw [e, cp_app, List.append_assoc]) hi
    · rw [cp_app]; rw [e] at hi; exact infix_l hi
    · unfold optK; rw [if_neg fun q => hs (con2.mp q)]; exact List.mem_singleton.mpr rfl
  | @head h body b u w hb hd1 hd2 ih1 ih2 =>
    intro made l x hl e hi
    rw [e] at hi
    obtain ⟨s, es⟩ := hex u (infix_m hi)
    have hs : s ∈ spellF sub (optK g K) [""] body := ih1 [""] "" s (List.mem_singleton.mpr rfl) (by rw [es, e0]; rfl) (by rw [es]; exact infix_m hi)
    have hsK := hcl (h, body) hb s hs
    refine ih2 _ (l ++ s) x (mem_spSym.mpr ⟨(hsub _).mpr ?_, l, hl, s, ?_, rfl⟩) (by rw [e, cp_app, es, List.append_assoc]) (by rw [e]; exact hi)
    · rw [cp_app, es]; exact infix_l hi
    · unfold optK
      rw [if_pos (con2.mpr (mem_heads2.mpr ⟨(h, body), hb, rfl⟩))]; exact hsK
theorem spell_iff (hsub : ∀ p, sub p = true ↔ cp p <:+: W) (hex : ∀ u : List Nat, u <:+: W → ∃ s : Str, cp s = u) (hcl : ∀ r ∈ g, ∀ s ∈ spellF sub (optK g K) [""] r.2, s ∈ K r.1) (hK : ∀ h ∈ headsOf g, ∀ s ∈ K h, DerH g h (cp s)) (body : List Str) (x : Str) (hx : cp x <:+: W) :
    x ∈ spellF sub (optK g K) [""] body ↔ DerB g body (cp x) := by
  have e0 : cp "" = [] := by decide
  constructor
  · intro h
    obtain ⟨l, hl, u, hu, e⟩ := spell_sound hK body _ x h
    rw [List.mem_singleton.mp hl, e0, List.nil_append] at e
    rw [e]; exact hu
  · intro h
    exact spell_complete hsub hex hcl h [""] "" x (List.mem_singleton.mpr rfl) (by rw [e0]; rfl) hx
theorem known_iff (hsub : ∀ p, sub p = true ↔ cp p <:+: W) (hex : ∀ u : List Nat, u <:+: W → ∃ s : Str, cp s = u) (hcl : ∀ r ∈ g, ∀ s ∈ spellF sub (optK g K) [""] r.2, s ∈ K r.1) (hK : ∀ h ∈ headsOf g, ∀ s ∈ K h, DerH g h (cp s)) {h : Str} (hh : h ∈ headsOf g) (x : Str) (hx : cp x <:+: W) :
    x ∈ K h ↔ DerH g h (cp x) := by
  constructor
  · exact hK h hh x
  · rintro ⟨body, hb, hd⟩
    exact hcl (h, body) hb x ((spell_iff hsub hex hcl hK body x hx).mpr hd)
end

noncomputable def sl (W : List Nat) (i j : Nat) : List Nat := (W.drop i).take (j - i)
theorem sl_self (W : List Nat) (i : Nat) : sl W i i = [] := by unfold sl; simp
theorem sl_app {W : List Nat} {i k j : Nat} (h1 : i ≤ k) (h2 : k ≤ j) : sl W i k ++ sl W k j = sl W i j := by
  unfold sl
  have e : W.drop k = (W.drop i).drop (k - i) := by rw [List.drop_drop]; congr 1; omega
  rw [e]
  generalize W.drop i = V
  have e2 : j - i = (k - i) + (j - k) := by omega
  rw [e2, List.take_add]
theorem sl_len {W : List Nat} {i j : Nat} (h1 : i ≤ j) (h2 : j ≤ W.length) : (sl W i j).length = j - i := by
  unfold sl; rw [List.length_take, List.length_drop]; omega
theorem sl_infix (W : List Nat) (i j : Nat) : sl W i j <:+: W := (List.take_prefix _ _).isInfix.trans (List.drop_suffix _ _).isInfix
noncomputable def metP (g : List Rule) (T : Str → Nat → Nat → Bool) (toks : List Str) (s : Str) (places : List Nat) (j : Nat) : Bool :=
  if (headsOf g).contains s then places.any fun i => T s i j else decide (0 < j) && (places.contains (j - 1) && toks[j - 1]?.getD "" == s)
noncomputable def movP (g : List Rule) (T : Str → Nat → Nat → Bool) (toks : List Str) (places : List Nat) (s : Str) : List Nat := (List.range (toks.length + 1)).filter (metP g T toks s places)
noncomputable def placesF (g : List Rule) (T : Str → Nat → Nat → Bool) (toks : List Str) (places : List Nat) (body : List Str) : List Nat := body.foldl (movP g T toks) places

section
variable {g : List Rule} {T : Str → Nat → Nat → Bool} {toks : List Str} {W : List Nat}
theorem mem_movP {places : List Nat} {s : Str} {j : Nat} : j ∈ movP g T toks places s ↔ j ≤ toks.length ∧ (if s ∈ headsOf g then ∃ i ∈ places, T s i j = true else 0 < j ∧ j - 1 ∈ places ∧ toks[j - 1]?.getD "" = s) := by
  unfold movP metP
  rw [List.mem_filter, List.mem_range]
  by_cases h : s ∈ headsOf g
  · rw [if_pos (con2.mpr h), if_pos h, List.any_eq_true]
    constructor
    · exact fun q => ⟨by omega, q.2⟩
    · exact fun q => ⟨by omega, q.2⟩
  · rw [if_neg (fun q => h (con2.mp q)), if_neg h]
    simp only [Bool.and_eq_true, decide_eq_true_eq, beq_iff_eq, List.contains_iff_mem]
    constructor
    · exact fun q => ⟨by omega, q.2⟩
    · exact fun q => ⟨by omega, q.2⟩
structure Word (toks : List Str) (W : List Nat) : Prop where
  len : W.length = toks.length
  at1 : ∀ i (h : i < toks.length), cp toks[i] = sl W i (i + 1)
theorem places_sound (hw : Word toks W) (hT : ∀ h ∈ headsOf g, ∀ i j, T h i j = true → i ≤ j ∧ j ≤ toks.length ∧ DerH g h (sl W i j)) : ∀ (body : List Str) (places : List Nat), (∀ i ∈ places, i ≤ toks.length) → ∀ j ∈ placesF g T toks places body, ∃ i ∈ places, i ≤ j ∧ j ≤ toks.length ∧ DerB g body (sl W i j)
  | [], places, hp, j, hj => ⟨j, hj, Nat.le_refl _, hp j hj, by rw [sl_self]; exact .nil⟩
  | s :: body, places, hp, j, hj => by
    obtain ⟨k, hk, h1, h2, hd⟩ := places_sound hw hT body _ (fun i hi => (mem_movP.mp hi).1) j hj
    obtain ⟨hk1, hk2⟩ := mem_movP.mp hk
    split at hk2
    · rename_i hs
      obtain ⟨i, hi, ht⟩ := hk2
      obtain ⟨t1, t2, b, hb, hd'⟩ := hT s hs i k ht
      exact ⟨i, hi, by omega, h2, by rw [← sl_app t1 h1]; exact .head hb hd' hd⟩
    · rename_i hs
      obtain ⟨q1, q2, q3⟩ := hk2
      have hlt : k - 1 < toks.length := by omega
      refine ⟨k - 1, q2, by omega, h2, ?_⟩
      rw [← sl_app (by omega : k - 1 ≤ k) h1]
      have e : sl W (k - 1) k = cp s := by
        have := hw.at1 (k - 1) hlt
        rw [show k - 1 + 1 = k by omega] at this
        rw [← this, ← q3, List.getElem?_eq_getElem hlt]; rfl
      rw [e]
      exact .tok hs hd
theorem places_complete (hw : Word toks W) (one : ∀ r ∈ g, ∀ s ∈ r.2, (cp s).length = 1) (hcl : ∀ r ∈ g, ∀ i, i ≤ toks.length → ∀ j ∈ placesF g T toks [i] r.2, T r.1 i j = true) {body : List Str} {u : List Nat} (hd : DerB g body u) : (∀ s ∈ body, (cp s).length = 1) →
    ∀ (places : List Nat) (i j : Nat), i ∈ places → i ≤ j → j ≤ toks.length → u = sl W i j → j ∈ placesF g T toks places body := by
  induction hd with
  | nil =>
    intro _ places i j hi h1 h2 e
    have : (sl W i j).length = 0 := by rw [← e]; rfl
    rw [sl_len h1 (by rw [hw.len]; exact h2)] at this
    have : i = j := by omega
    rw [← this]; exact hi
  | @tok s b w hs hd ih =>
    intro hb places i j hi h1 h2 e
    have l1 := hb s List.mem_cons_self
    have hl : (cp s ++ w).length = j - i := by rw [e, sl_len h1 (by rw [hw.len]; exact h2)]
    rw [List.length_append, l1] at hl
    have hij : i < j := by omega
    rw [← sl_app (by omega : i ≤ i + 1) (by omega : i + 1 ≤ j)] at e
    obtain ⟨e1, e2⟩ := List.append_inj e (by rw [l1, sl_len (by omega) (by rw [hw.len]; omega)]; omega)
    refine ih (fun s hs => hb s (List.mem_cons_of_mem _ hs)) _ (i + 1) j (mem_movP.mpr ⟨by omega, ?_⟩) (by omega) h2 e2
    rw [if_neg hs]
    refine ⟨by omega, hi, ?_⟩
    have hlt : i < toks.length := by omega
    rw [Nat.add_sub_cancel, List.getElem?_eq_getElem hlt]
    exact str_ext (by have := hw.at1 i hlt; show cp toks[i] = cp s; rw [this, e1])
  | @head h body b u w hb hd1 hd2 ih1 ih2 =>
    intro hbs places i j hi h1 h2 e
    have hl : u.length + w.length = j - i := by rw [← List.length_append, e, sl_len h1 (by rw [hw.len]; exact h2)]
    have k1 : i ≤ i + u.length := by omega
    rw [← sl_app k1 (by omega : i + u.length ≤ j)] at e
    obtain ⟨e1, e2⟩ := List.append_inj e (by rw [sl_len k1 (by rw [hw.len]; omega)]; omega)
    have hin := ih1 (one (h, body) hb) [i] i (i + u.length) (List.mem_singleton.mpr rfl) k1 (by omega) e1
    have ht := hcl (h, body) hb i (by omega) _ hin
    refine ih2 (fun s hs => hbs s (List.mem_cons_of_mem _ hs)) _ (i + u.length) j (mem_movP.mpr ⟨by omega, ?_⟩) (by omega) h2 e2
    rw [if_pos (mem_heads2.mpr ⟨(h, body), hb, rfl⟩)]
    exact ⟨i, hi, ht⟩
structure TabOk (g : List Rule) (toks : List Str) (W : List Nat) (T : Str → Nat → Nat → Bool) : Prop where
  sound : ∀ h ∈ headsOf g, ∀ i j, T h i j = true → i ≤ j ∧ j ≤ toks.length ∧ DerH g h (sl W i j)
  closed : ∀ r ∈ g, ∀ i, i ≤ toks.length → ∀ j ∈ placesF g T toks [i] r.2, T r.1 i j = true
theorem TabOk.iff (ok : TabOk g toks W T) (hw : Word toks W) (one : ∀ r ∈ g, ∀ s ∈ r.2, (cp s).length = 1) {h : Str} (hh : h ∈ headsOf g) {i j : Nat} (hi : i ≤ toks.length) (hj : j ≤ toks.length) : T h i j = true ↔ i ≤ j ∧ DerH g h (sl W i j) := by
  constructor
  · intro q
    obtain ⟨h1, h2, h3⟩ := ok.sound h hh i j q
    exact ⟨h1, h3⟩
  · rintro ⟨h1, body, hb, hd⟩
    exact ok.closed (h, body) hb i hi j (places_complete hw one ok.closed hd (one (h, body) hb) [i] i j (List.mem_singleton.mpr rfl) h1 hj rfl)
theorem TabOk.places (ok : TabOk g toks W T) (hw : Word toks W) (one : ∀ r ∈ g, ∀ s ∈ r.2, (cp s).length = 1) {body : List Str} (hb : ∀ s ∈ body, (cp s).length = 1) {i j : Nat} (hi : i ≤ toks.length) : j ∈ placesF g T toks [i] body ↔ i ≤ j ∧ j ≤ toks.length ∧ DerB g body (sl W i j) := by
  constructor
  · intro q
    obtain ⟨k, hk, h⟩ := places_sound hw ok.sound body [i] (fun k hk => by rw [List.mem_singleton.mp hk]; exact hi) j q
    rw [List.mem_singleton.mp hk] at h; exact h
  · rintro ⟨h1, h2, h3⟩
    exact places_complete hw one ok.closed h3 hb [i] i j (List.mem_singleton.mpr rfl) h1 h2 rfl
end
end

section
set_option autoImplicit false
set_option linter.unusedVariables false
set_option maxRecDepth 100000
open PySem

theorem nodup_len {α : Type} [BEq α] [LawfulBEq α] : ∀ (l U : List α), l.Nodup → (∀ x ∈ l, x ∈ U) → l.length ≤ U.length
  | [], U, _, _ => by simp
  | a :: l, U, hn, h => by
    obtain ⟨h1, h2⟩ := List.nodup_cons.mp hn
    have ha := h a List.mem_cons_self
    have := nodup_len l (U.erase a) h2 fun x hx => (List.mem_erase_of_ne (fun e : x = a => h1 (e ▸ hx))).mpr (h x (List.mem_cons_of_mem _ hx))
    rw [List.length_erase_of_mem ha] at this
    have : 0 < U.length := List.length_pos_of_mem ha
    rw [List.length_cons]; omega
theorem sum_le2 {f g : Str → Nat} : ∀ (l : List Str), (∀ x ∈ l, f x ≤ g x) → (l.map f).sum ≤ (l.map g).sum
  | [], _ => by simp
  | a :: l, h => by
    have h1 := h a List.mem_cons_self
    have h2 := sum_le2 l fun x hx => h x (List.mem_cons_of_mem _ hx)
    simp only [List.map_cons, List.sum_cons]; omega
theorem sum_lt2 {f g : Str → Nat} : ∀ (l : List Str), (∀ x ∈ l, f x ≤ g x) → ∀ a ∈ l, f a < g a → (l.map f).sum < (l.map g).sum
  | [], _, a, ha, _ => by cases ha
  | b :: l, h, a, ha, hl => by
    have h1 := h b List.mem_cons_self
    have h2 := sum_le2 l fun x hx => h x (List.mem_cons_of_mem _ hx)
    simp only [List.map_cons, List.sum_cons]
    rcases List.mem_cons.mp ha with rfl | ha
    · omega
    · have := sum_lt2 l (fun x hx => h x (List.mem_cons_of_mem _ hx)) a ha hl; omega

noncomputable def freshK (sub : Str → Bool) (g : List Rule) (K : Str → List Str) (r : Rule) : List Str := (spellF sub (optK g K) [""] r.2).filter fun p => !(K r.1).contains p
noncomputable def turnR (sub : Str → Bool) (g : List Rule) (K : Str → List Str) (r : Rule) : Str → List Str := fun h => if h = r.1 then K r.1 ++ freshK sub g K r else K h
noncomputable def turnK (sub : Str → Bool) (g : List Rule) (K : Str → List Str) : Str → List Str := g.foldl (turnR sub g) K
noncomputable def knownN (sub : Str → Bool) (g : List Rule) : Nat → Str → List Str
  | 0 => fun _ => []
  | n + 1 => turnK sub g (knownN sub g n)
noncomputable def countK (g : List Rule) (K : Str → List Str) : Nat := ((headsOf g).map fun h => (K h).length).sum
structure KInv (sub : Str → Bool) (g : List Rule) (K : Str → List Str) : Prop where
  nd : ∀ h, (K h).Nodup
  sb : ∀ h, ∀ s ∈ K h, sub s = true
  dr : ∀ h ∈ headsOf g, ∀ s ∈ K h, DerH g h (cp s)
noncomputable def KClosed (sub : Str → Bool) (g : List Rule) (K : Str → List Str) : Prop := ∀ r ∈ g, ∀ s ∈ spellF sub (optK g K) [""] r.2, s ∈ K r.1

section
variable {sub : Str → Bool} {g : List Rule} {K : Str → List Str}
theorem fresh_nil {r : Rule} : freshK sub g K r = [] ↔ ∀ s ∈ spellF sub (optK g K) [""] r.2, s ∈ K r.1 := by
  unfold freshK
  rw [List.filter_eq_nil_iff]
  constructor
  · intro h s hs
    have := h s hs
    simpa using this
  · intro h s hs
    have := h s hs
    simpa using this
theorem turnR_same {r : Rule} (h : freshK sub g K r = []) : turnR sub g K r = K := by
  funext x
  unfold turnR
  split
  · rename_i e; rw [h, e, List.append_nil]
  · rfl
theorem turnR_inv (I : KInv sub g K) (h0 : sub "" = true) {r : Rule} (hr : r ∈ g) : KInv sub g (turnR sub g K r) := by
  have hfs : ∀ s ∈ freshK sub g K r, s ∈ spellF sub (optK g K) [""] r.2 ∧ ¬ s ∈ K r.1 := fun s hs => by
    unfold freshK at hs
    rw [List.mem_filter] at hs
    exact ⟨hs.1, by simpa using hs.2⟩
  refine ⟨fun h => ?_, fun h s hs => ?_, fun h hh s hs => ?_⟩
  · unfold turnR
    split
    · rw [List.nodup_append]
      exact ⟨I.nd _, (spellF_nodup _ _ (by simp)).filter _, fun a ha b hb e => (hfs b hb).2 (e ▸ ha)⟩
    · exact I.nd h
  · unfold turnR at hs
    split at hs
    · rcases List.mem_append.mp hs with q | q
      · exact I.sb _ s q
      · exact spellF_sub r.2 [""] (fun x hx => by rw [List.mem_singleton.mp hx]; exact h0) s (hfs s q).1
    · exact I.sb h s hs
  · unfold turnR at hs
    split at hs
    · rename_i e
      subst e
      rcases List.mem_append.mp hs with q | q
      · exact I.dr _ hh s q
      · obtain ⟨l, hl, u, hu, e⟩ := spell_sound I.dr r.2 [""] s (hfs s q).1
        have e0 : cp "" = [] := by decide
        rw [List.mem_singleton.mp hl, e0, List.nil_append] at e
        exact ⟨r.2, hr, by rw [e]; exact hu⟩
    · exact I.dr h hh s hs
theorem turn_fold_inv (h0 : sub "" = true) : ∀ (l : List Rule) (K : Str → List Str), (∀ r ∈ l, r ∈ g) → KInv sub g K → KInv sub g (l.foldl (turnR sub g) K)
  | [], _, _, I => I
  | r :: l, K, hl, I => turn_fold_inv h0 l _ (fun r hr => hl r (List.mem_cons_of_mem _ hr)) (turnR_inv I h0 (hl r List.mem_cons_self))
theorem known_inv (h0 : sub "" = true) : ∀ n, KInv sub g (knownN sub g n)
  | 0 => ⟨fun _ => .nil, (fun _ s hs => by cases hs), (fun _ _ s hs => by cases hs)⟩
  | n + 1 => turn_fold_inv h0 g _ (fun _ h => h) (known_inv h0 n)
theorem turnR_le (r : Rule) : ∀ x, (K x).length ≤ (turnR sub g K r x).length := fun x => by
  unfold turnR
  split
  · rename_i e; rw [e, List.length_append]; omega
  · exact Nat.le_refl _
theorem count_le (r : Rule) : countK g K ≤ countK g (turnR sub g K r) := sum_le2 _ fun x _ => turnR_le r x
theorem count_eq {r : Rule} (hr : r ∈ g) (h : countK g (turnR sub g K r) = countK g K) : freshK sub g K r = [] := by
  refine Classical.byContradiction fun hn => ?_
  have : countK g K < countK g (turnR sub g K r) := sum_lt2 _ (fun x _ => turnR_le r x) r.1 (mem_heads2.mpr ⟨r, hr, rfl⟩) (by
    unfold turnR
    rw [if_pos rfl, List.length_append]
    have : 0 < (freshK sub g K r).length := List.length_pos_iff.mpr hn
    omega)
  omega
theorem fold_count : ∀ (l : List Rule) (K : Str → List Str), countK g K ≤ countK g (l.foldl (turnR sub g) K)
  | [], _ => Nat.le_refl _
  | r :: l, K => Nat.le_trans (count_le r) (fold_count l _)
theorem fold_same : ∀ (l : List Rule) (K : Str → List Str), (∀ r ∈ l, r ∈ g) → countK g (l.foldl (turnR sub g) K) = countK g K → ∀ r ∈ l, freshK sub g K r = []
  | [], _, _, _, r, hr => by cases hr
  | a :: l, K, hl, h, r, hr => by
    have h1 := count_le (sub := sub) (g := g) (K := K) a
    have h2 := fold_count (sub := sub) (g := g) l (turnR sub g K a)
    rw [List.foldl_cons] at h
    have h3 := count_eq (hl a List.mem_cons_self) (show countK g (turnR sub g K a) = countK g K by omega)
    rcases List.mem_cons.mp hr with rfl | hr
    · exact h3
    · rw [turnR_same h3] at h
      exact fold_same l K (fun r hr => hl r (List.mem_cons_of_mem _ hr)) h r hr
theorem fold_stays : ∀ (l : List Rule), (∀ r ∈ l, freshK sub g K r = []) → l.foldl (turnR sub g) K = K
  | [], _ => rfl
  | r :: l, h => by rw [List.foldl_cons, turnR_same (h r List.mem_cons_self)]; exact fold_stays l fun r hr => h r (List.mem_cons_of_mem _ hr)
theorem closed_iff : KClosed sub g K ↔ ∀ r ∈ g, freshK sub g K r = [] := ⟨fun h r hr => fresh_nil.mpr (h r hr), fun h r hr => fresh_nil.mp (h r hr)⟩
theorem known_step (t : Nat) : KClosed sub g (knownN sub g t) ∨ t ≤ countK g (knownN sub g t) := by
  induction t with
  | zero => exact .inr (Nat.zero_le _)
  | succ t ih =>
    by_cases hc : KClosed sub g (knownN sub g t)
    · left
      have e : knownN sub g (t + 1) = knownN sub g t := fold_stays g (closed_iff.mp hc)
      rw [e]; exact hc
    · rcases ih with q | q
      · exact absurd q hc
      · right
        have h1 : countK g (knownN sub g t) ≤ countK g (knownN sub g (t + 1)) := fold_count g _
        rcases Nat.lt_or_ge (countK g (knownN sub g t)) (countK g (knownN sub g (t + 1))) with q' | q'
        · omega
        · exact absurd (closed_iff.mpr (fold_same g _ (fun _ h => h) (show countK g (g.foldl (turnR sub g) (knownN sub g t)) = _ from by
            have : countK g (knownN sub g (t + 1)) = countK g (knownN sub g t) := by omega
            exact this))) hc
theorem sum_bound {f : Str → Nat} {b : Nat} : ∀ l : List Str, (∀ x ∈ l, f x ≤ b) → (l.map f).sum ≤ l.length * b
  | [], _ => by simp
  | a :: l, h => by
    have h1 := h a List.mem_cons_self
    have h2 := sum_bound l fun x hx => h x (List.mem_cons_of_mem _ hx)
    simp only [List.map_cons, List.sum_cons, List.length_cons, Nat.succ_mul]; omega
theorem known_closed (h0 : sub "" = true) {b : Nat} (hh : (headsOf g).length ≤ 2) (hb : ∀ n h, (knownN sub g n h).length ≤ 7) : KClosed sub g (knownN sub g 14) := by
  have bound : ∀ n, countK g (knownN sub g n) ≤ 14 := fun n => by
    have := sum_bound (f := fun h => (knownN sub g n h).length) (headsOf g) fun x _ => hb n x
    have e : (headsOf g).length * 7 ≤ 14 := by omega
    exact Nat.le_trans this e
  rcases known_step (sub := sub) (g := g) 14 with q | q
  · exact q
  · refine closed_iff.mpr (fold_same g _ (fun _ h => h) ?_)
    have h1 : countK g (knownN sub g 14) ≤ countK g (knownN sub g 15) := fold_count g _
    have h2 := bound 15
    show countK g (knownN sub g 15) = _
    omega
end

theorem infix_sl {u W : List Nat} (h : u <:+: W) : ∃ i j, i ≤ j ∧ j ≤ W.length ∧ u = sl W i j := by
  obtain ⟨x, y, e⟩ := h
  refine ⟨x.length, x.length + u.length, by omega, ?_, ?_⟩
  · rw [← e]; simp only [List.length_append]; omega
  · unfold sl; rw [← e]; simp
noncomputable def cuts (W : List Nat) : List (List Nat) := [[], sl W 0 1, sl W 1 2, sl W 2 3, sl W 0 2, sl W 1 3, sl W 0 3]
theorem mem_cuts {u W : List Nat} (hW : W.length ≤ 3) (h : u <:+: W) : u ∈ cuts W := by
  obtain ⟨i, j, h1, h2, rfl⟩ := infix_sl h
  unfold cuts
  have hj : j ≤ 3 := by omega
  rcases Nat.eq_or_lt_of_le h1 with rfl | hlt
  · rw [sl_self]; simp
  · have : (i = 0 ∧ j = 1) ∨ (i = 1 ∧ j = 2) ∨ (i = 2 ∧ j = 3) ∨ (i = 0 ∧ j = 2) ∨ (i = 1 ∧ j = 3) ∨ (i = 0 ∧ j = 3) := by omega
    rcases this with ⟨rfl, rfl⟩ | ⟨rfl, rfl⟩ | ⟨rfl, rfl⟩ | ⟨rfl, rfl⟩ | ⟨rfl, rfl⟩ | ⟨rfl, rfl⟩ <;> simp
theorem pieces_len {W : List Nat} (hW : W.length ≤ 3) {l : List Str} (hn : l.Nodup) (h : ∀ s ∈ l, cp s <:+: W) : l.length ≤ 7 := by
  have hn' : (l.map cp).Nodup := by
    rw [List.nodup_iff_pairwise_ne, List.pairwise_map]
    exact (List.nodup_iff_pairwise_ne.mp hn).imp fun h e => h (str_ext e)
  have := nodup_len (l.map cp) (cuts W) hn' fun u hu => by
    obtain ⟨s, hs, rfl⟩ := List.mem_map.mp hu
    exact mem_cuts hW (h s hs)
  rw [List.length_map] at this
  exact this

noncomputable def stJ (r : Rule) (i : Nat) (p : TF × Bool) (j : Nat) : TF × Bool := if p.1 r.1 i j then p else (setT p.1 r.1 i j, true)
noncomputable def stI (g : List Rule) (toks : List Str) (r : Rule) (p : TF × Bool) (i : Nat) : TF × Bool := (placesF g p.1 toks [i] r.2).foldl (stJ r i) p
noncomputable def stR (g : List Rule) (toks : List Str) (p : TF × Bool) (r : Rule) : TF × Bool := (List.range (toks.length + 1)).foldl (stI g toks r) p
noncomputable def spots3 (g : List Rule) (n : Nat) : List (Str × Nat × Nat) := (headsOf g).flatMap fun h => (List.range (n + 1)).flatMap fun i => (List.range (n + 1)).map fun j => (h, i, j)
noncomputable def leftT (g : List Rule) (n : Nat) (T : TF) : Nat := ((spots3 g n).filter fun q => !T q.1 q.2.1 q.2.2).length
noncomputable def meas (g : List Rule) (n : Nat) (p : TF × Bool) : Nat := leftT g n p.1 + if p.2 then 1 else 0
theorem mem_spots3 {g : List Rule} {n : Nat} {h : Str} {i j : Nat} (hh : h ∈ headsOf g) (hi : i ≤ n) (hj : j ≤ n) : (h, i, j) ∈ spots3 g n := by
  unfold spots3
  rw [List.mem_flatMap]
  refine ⟨h, hh, List.mem_flatMap.mpr ⟨i, List.mem_range.mpr (by omega), List.mem_map.mpr ⟨j, List.mem_range.mpr (by omega), rfl⟩⟩⟩
theorem places_le {g : List Rule} {T : TF} {toks : List Str} : ∀ (body : List Str) (places : List Nat), (∀ i ∈ places, i ≤ toks.length) → ∀ j ∈ placesF g T toks places body, j ≤ toks.length
  | [], places, h => h
  | s :: body, places, h => places_le body _ fun i hi => (mem_movP.mp hi).1

section
variable {g : List Rule} {toks : List Str} {W : List Nat}
noncomputable def Sound (g : List Rule) (toks : List Str) (W : List Nat) (T : TF) : Prop := ∀ h ∈ headsOf g, ∀ i j, T h i j = true → i ≤ j ∧ j ≤ toks.length ∧ DerH g h (sl W i j)
theorem stJ_ok {r : Rule} {i j : Nat} {p : TF × Bool} (hr : r ∈ g) (hi : i ≤ toks.length) (hj : i ≤ j ∧ j ≤ toks.length ∧ DerB g r.2 (sl W i j)) (S : Sound g toks W p.1) :
    Sound g toks W (stJ r i p j).1 ∧ meas g toks.length (stJ r i p j) ≤ meas g toks.length p := by
  unfold stJ
  cases hp : p.1 r.1 i j with
  | true => rw [if_pos rfl]; exact ⟨S, Nat.le_refl _⟩
  | false =>
    rw [if_neg (by decide)]
    refine ⟨fun h hh i' j' ht => ?_, ?_⟩
    · simp only [setT] at ht
      split at ht
      · rename_i e
        obtain ⟨rfl, rfl, rfl⟩ := e
        exact ⟨hj.1, hj.2.1, r.2, hr, hj.2.2⟩
      · exact S h hh i' j' ht
    · unfold meas leftT
      have hm := mem_spots3 (mem_heads2.mpr ⟨r, hr, rfl⟩) hi hj.2.1
      have := filter_lt (fun q : Str × Nat × Nat => !setT p.1 r.1 i j q.1 q.2.1 q.2.2) (fun q => !p.1 q.1 q.2.1 q.2.2) (spots3 g toks.length) (fun q _ hq => by
        simp only [setT, Bool.not_eq_true'] at hq ⊢
        split at hq
        · cases hq
        · exact hq) hm (by simp [setT]) (by simp [hp])
      simp only [if_true]
      omega
theorem foldJ_ok {r : Rule} {i : Nat} (hr : r ∈ g) (hi : i ≤ toks.length) : ∀ (js : List Nat) (p : TF × Bool), (∀ j ∈ js, i ≤ j ∧ j ≤ toks.length ∧ DerB g r.2 (sl W i j)) → Sound g toks W p.1 → Sound g toks W (js.foldl (stJ r i) p).1 ∧ meas g toks.length (js.foldl (stJ r i) p) ≤ meas g toks.length p
  | [], p, _, S => ⟨S, Nat.le_refl _⟩
  | j :: js, p, hj, S => by
    obtain ⟨h1, h2⟩ := stJ_ok hr hi (hj j List.mem_cons_self) S
    obtain ⟨h3, h4⟩ := foldJ_ok hr hi js _ (fun j h => hj j (List.mem_cons_of_mem _ h)) h1
    exact ⟨h3, Nat.le_trans h4 h2⟩
theorem stI_ok (hw : Word toks W) {r : Rule} {i : Nat} {p : TF × Bool} (hr : r ∈ g) (hi : i ≤ toks.length) (S : Sound g toks W p.1) : Sound g toks W (stI g toks r p i).1 ∧ meas g toks.length (stI g toks r p i) ≤ meas g toks.length p :=
  foldJ_ok hr hi _ p (fun j hj => by
    obtain ⟨k, hk, h⟩ := places_sound hw S r.2 [i] (fun k hk => by rw [List.mem_singleton.mp hk]; exact hi) j hj
    rw [List.mem_singleton.mp hk] at h; exact h) S
theorem foldI_ok (hw : Word toks W) {r : Rule} (hr : r ∈ g) : ∀ (is : List Nat) (p : TF × Bool), (∀ i ∈ is, i ≤ toks.length) → Sound g toks W p.1 → Sound g toks W (is.foldl (stI g toks r) p).1 ∧ meas g toks.length (is.foldl (stI g toks r) p) ≤ meas g toks.length p
  | [], p, _, S => ⟨S, Nat.le_refl _⟩
  | i :: is, p, hi, S => by
    obtain ⟨h1, h2⟩ := stI_ok hw hr (hi i List.mem_cons_self) S
    obtain ⟨h3, h4⟩ := foldI_ok hw hr is _ (fun j h => hi j (List.mem_cons_of_mem _ h)) h1
    exact ⟨h3, Nat.le_trans h4 h2⟩
theorem stR_ok (hw : Word toks W) {r : Rule} {p : TF × Bool} (hr : r ∈ g) (S : Sound g toks W p.1) : Sound g toks W (stR g toks p r).1 ∧ meas g toks.length (stR g toks p r) ≤ meas g toks.length p :=
  foldI_ok hw hr _ p (fun i hi => by have := List.mem_range.mp hi; omega) S
theorem foldR_ok (hw : Word toks W) : ∀ (l : List Rule) (p : TF × Bool), (∀ r ∈ l, r ∈ g) → Sound g toks W p.1 → Sound g toks W (l.foldl (stR g toks) p).1 ∧ meas g toks.length (l.foldl (stR g toks) p) ≤ meas g toks.length p
  | [], p, _, S => ⟨S, Nat.le_refl _⟩
  | r :: l, p, hl, S => by
    obtain ⟨h1, h2⟩ := stR_ok hw (hl r List.mem_cons_self) S
    obtain ⟨h3, h4⟩ := foldR_ok hw l _ (fun j h => hl j (List.mem_cons_of_mem _ h)) h1
    exact ⟨h3, Nat.le_trans h4 h2⟩
theorem fold_flag {α : Type} (f : TF × Bool → α → TF × Bool) (up : ∀ p a, p.2 = true → (f p a).2 = true) (Q : α → TF → Prop) (same : ∀ p a, (f p a).2 = false → f p a = p ∧ Q a p.1) : ∀ (l : List α) (p : TF × Bool), (p.2 = true → (l.foldl f p).2 = true) ∧ ((l.foldl f p).2 = false → l.foldl f p = p ∧ ∀ a ∈ l, Q a p.1)
  | [], p => ⟨id, fun _ => ⟨rfl, fun a ha => by cases ha⟩⟩
  | a :: l, p => by
    obtain ⟨h1, h2⟩ := fold_flag f up Q same l (f p a)
    refine ⟨fun h => h1 (up p a h), fun h => ?_⟩
    rw [List.foldl_cons] at h ⊢
    obtain ⟨e1, e2⟩ := h2 h
    have hf : (f p a).2 = false := by rw [e1] at h; exact h
    obtain ⟨s1, s2⟩ := same p a hf
    rw [e1]
    refine ⟨s1, fun b hb => ?_⟩
    rcases List.mem_cons.mp hb with rfl | hb
    · exact s2
    · have := e2 b hb; rw [s1] at this; exact this
theorem stJ_flag (r : Rule) (i : Nat) : (∀ p j, p.2 = true → (stJ r i p j).2 = true) ∧ (∀ p j, (stJ r i p j).2 = false → stJ r i p j = p ∧ p.1 r.1 i j = true) := by
  refine ⟨fun p j h => ?_, fun p j h => ?_⟩
  · unfold stJ; split
    · exact h
    · rfl
  · unfold stJ at h ⊢
    split
    · rename_i q; exact ⟨rfl, q⟩
    · rename_i q; rw [if_neg q] at h; cases h
theorem stI_flag (r : Rule) : (∀ p i, p.2 = true → (stI g toks r p i).2 = true) ∧ (∀ p i, (stI g toks r p i).2 = false → stI g toks r p i = p ∧ ∀ j ∈ placesF g p.1 toks [i] r.2, p.1 r.1 i j = true) :=
  ⟨fun p i h => (fold_flag _ (stJ_flag r i).1 (fun j T => T r.1 i j = true) (stJ_flag r i).2 _ p).1 h, fun p i h => (fold_flag _ (stJ_flag r i).1 (fun j T => T r.1 i j = true) (stJ_flag r i).2 _ p).2 h⟩
theorem stR_flag : (∀ p r, p.2 = true → (stR g toks p r).2 = true) ∧ (∀ p r, (stR g toks p r).2 = false → stR g toks p r = p ∧ ∀ i ∈ List.range (toks.length + 1), ∀ j ∈ placesF g p.1 toks [i] r.2, p.1 r.1 i j = true) :=
  ⟨fun p r h => (fold_flag _ (stI_flag r).1 (fun i T => ∀ j ∈ placesF g T toks [i] r.2, T r.1 i j = true) (stI_flag r).2 _ p).1 h, fun p r h => (fold_flag _ (stI_flag r).1 (fun i T => ∀ j ∈ placesF g T toks [i] r.2, T r.1 i j = true) (stI_flag r).2 _ p).2 h⟩
theorem pass_closed {T : TF} (h : (g.foldl (stR g toks) (T, false)).2 = false) : (g.foldl (stR g toks) (T, false)).1 = T ∧ ∀ r ∈ g, ∀ i, i ≤ toks.length → ∀ j ∈ placesF g T toks [i] r.2, T r.1 i j = true := by
  obtain ⟨e1, e2⟩ := (fold_flag _ stR_flag.1 (fun r T => ∀ i ∈ List.range (toks.length + 1), ∀ j ∈ placesF g T toks [i] r.2, T r.1 i j = true) stR_flag.2 g (T, false)).2 h
  exact ⟨by rw [e1], fun r hr i hi => e2 r hr i (List.mem_range.mpr (by omega))⟩
theorem pass_meas (hw : Word toks W) {T : TF} (S : Sound g toks W T) : meas g toks.length (g.foldl (stR g toks) (T, false)) ≤ leftT g toks.length T := by
  have := (foldR_ok hw g (T, false) (fun _ h => h) S).2
  unfold meas at this ⊢
  simp only [Bool.false_eq_true, if_false, Nat.add_zero] at this
  exact this
end
end

section
set_option autoImplicit false
set_option linter.unusedVariables false
set_option maxRecDepth 100000
open PySem PyProof.Rows PySem.W

theorem lookup_tab (hs : List Str) (f : Str → PyData) (s : Str) : (hs.map fun h => (h, f h)).lookup s = if hs.contains s then some (f s) else none := by
  induction hs with
  | nil => rfl
  | cons x hs ih =>
    rw [List.map_cons, List.lookup_cons, List.contains_cons]
    by_cases h : s = x
    · subst h; simp
    · have hb : (s == x) = false := by simpa using h
      rw [hb, ih]; simp
noncomputable def rowsD (n : Nat) (f : Nat → Nat → Bool) : List PyData := (List.range n).map fun i => .list ((List.range n).map fun j => .bool (f i j))
theorem tab_at {hs : List Str} {n : Nat} {T : TF} {s : Str} (h : s ∈ hs) : (hs.map fun h => (h, PyData.list (rowsD n (T h)))).lookup s = some (.list (rowsD n (T s))) := by
  rw [lookup_tab hs (fun h => PyData.list (rowsD n (T h))), if_pos (con_iff.mpr h)]
theorem rows_at {n i : Nat} {f : Nat → Nat → Bool} (h : i < n) : (rowsD n f)[((i : Nat) : Int).toNat]? = some (.list ((List.range n).map fun j => .bool (f i j))) := by
  unfold rowsD
  rw [Int.toNat_natCast, List.getElem?_map, List.getElem?_range h]; rfl
theorem row_at {n j : Nat} {f : Nat → Bool} (h : j < n) : ((List.range n).map fun j => PyData.bool (f j))[((j : Nat) : Int).toNat]? = some (.bool (f j)) := by
  rw [Int.toNat_natCast, List.getElem?_map, List.getElem?_range h]; rfl

section
variable {prog : Program} {w : World} {mg mb : Str → Option Value} {P : Params}
theorem fn_heads_of (G : G2 prog w mg mb P) {k : Nat} (g : List Rule) (hg : g.length ≤ 1000) : FnOk (C2 prog w mg mb P) (k + 1) 21 [gD g] (sD (headsOf g)) := by
  refine fn_intro (ps := ["g"]) (fnDef_of rfl rfl rfl rfl rfl rfl rfl (by ((intro vs h; rcases vs with _ | ⟨_, _ | ⟨_, _ | ⟨_, _ | ⟨_, _ | ⟨_, _ | ⟨_, _⟩⟩⟩⟩⟩⟩ <;> first | rfl | (simp at h; done)))) (by decide) rfl rfl rfl rfl rfl rfl) rfl fun A L s₀ Z₀ E hA hO hF => ?_
  have hsl : sizeLine = 16777216 := rfl
  refine ex_cons (xs_new rfl (hO _) ?_)
  refine ex_cons (xs_for (k := 0) (fun i Γ' => Has Γ' [("heads", .own ((headsOf (g.take i)).map .str))]) (src_list (ds := g.map rD) hA.hd (ev_var rfl rfl)) (fun _ => rfl) (Has.add rfl (Has.nil _)) (fun i Γ' hi hJ => ?_) (fun Γ' hJ => ?_))
  · have hi' : i < g.length := by simpa using hi
    rw [getD_map rD hi']
    have hlen := dd_len ((g.take i).map (·.1))
    simp only [List.length_map, List.length_take] at hlen
    have hstep : headsOf (g.take (i + 1)) = addNew (headsOf (g.take i)) g[i].1 := by
      unfold headsOf
      rw [List.take_add_one, List.getElem?_eq_getElem hi', List.map_append]
      exact dd_snoc _ _
    refine ⟨_, as_name rfl (hO _), ex_has hJ.cons ?_⟩
    refine ex_cons (xs_if (c_notInL hA (e_item (ev_var rfl rfl) (ev_int 0) rfl (by decide) (by decide) rfl) (ev_own rfl rfl) rfl) (fun hb => ?_) (fun hb => ?_))
    · refine ex_cons (xs_append rfl rfl (by rw [List.length_map]; unfold headsOf; omega) (e_item (ev_var rfl rfl) (ev_int 0) rfl (by decide) (by decide) rfl) rfl rfl rfl (ex_nil (ex_nil (Has.add ?_ (Has.nil _)))))
      show some (Ent.own _) = some (Ent.own _)
      have hb' : (headsOf (g.take i)).contains g[i].1 = false := by simpa using hb
      rw [hstep, addNew, if_neg (by rw [hb']; decide), List.map_append]; rfl
    · refine ex_nil (ex_nil (Has.add ?_ (Has.nil _)))
      have hb' : (headsOf (g.take i)).contains g[i].1 = true := by simpa using hb
      rw [hstep, addNew, if_pos hb']; rfl
  · rw [show (g.map rD).length = g.length by simp, List.take_length] at hJ
    exact ex_has hJ (ex_freeze (x := "heads") rfl (ex_cons (xs_return (ev_var rfl rfl) rfl)))

noncomputable def placeD (l : List Nat) : PyData := .list ((l.map fun (j : Nat) => (j : Int)).map .int)
theorem placeD_app (l : List Nat) (j : Nat) : (((l ++ [j]).map fun (j : Nat) => (j : Int)).map PyData.int) = ((l.map fun (j : Nat) => (j : Int)).map .int) ++ [.int (j : Int)] := by simp
theorem contains_cast (l : List Nat) (j : Nat) : (l.map fun (j : Nat) => (j : Int)).contains (j : Int) = l.contains j := by
  rw [Bool.eq_iff_iff]
  simp only [List.contains_iff_mem, List.mem_map]
  constructor
  · rintro ⟨i, hi, e⟩
    have : i = j := by omega
    exact this ▸ hi
  · exact fun h => ⟨j, h, rfl⟩
theorem movP_le {g : List Rule} {T : TF} {toks : List Str} {places : List Nat} {s : Str} : ∀ j ∈ movP g T toks places s, j < toks.length + 1 := fun j hj => by
  have := (mem_movP.mp hj).1; omega

theorem fn_places (G : G2 prog w mg mb P) {k : Nat} (g : List Rule) (T : TF) (body toks : List Str) (start : Nat) (ht : toks.length ≤ 100) (hs : start ≤ toks.length) :
    FnOk (C2 prog w mg mb P) (k + 1) 26 [sD body, .int (start : Int), sD toks, tabD (headsOf g) (toks.length + 1) T] (placeD (placesF g T toks [start] body)) := by
  refine fn_intro (ps := ["body", "start", "tokens", "tables"]) (fnDef_of rfl rfl rfl rfl rfl rfl rfl (by ((intro vs h; rcases vs with _ | ⟨_, _ | ⟨_, _ | ⟨_, _ | ⟨_, _ | ⟨_, _ | ⟨_, _⟩⟩⟩⟩⟩⟩ <;> first | rfl | (simp at h; done)))) (by decide) rfl rfl rfl rfl rfl rfl) rfl fun A L s₀ Z₀ E hA hO hF => ?_
  have hsl : sizeLine = 16777216 := rfl
  have hlt : lenD (sD toks) = some toks.length := by simp [lenD, sD]
  refine ex_cons (xs_assign ((ev_list (evs_cons (ev_var rfl rfl) evs_nil rfl) (by show 1 ≤ sizeLine; decide)).cast (d' := placeD [start]) rfl) rfl (hO _) rfl ?_)
  refine ex_cons (xs_for (k := 0) (fun i Γ' => ∃ places : List Nat, places.length ≤ 200 ∧ (∀ j ∈ places, j < toks.length + 1) ∧ placesF g T toks places (body.drop i) = placesF g T toks [start] body ∧ Has Γ' [("places", .fz (placeD places)), ("tokens", .fz (sD toks)), ("tables", .fz (tabD (headsOf g) (toks.length + 1) T))])
    (src_list (ds := body.map .str) hA.hd (ev_var rfl rfl)) (fun _ => rfl) ⟨[start], by simp, fun j hj => by rw [List.mem_singleton.mp hj]; omega, rfl, by (repeat (first | exact Has.nil _ | refine Has.add rfl ?_))⟩ (fun i Γ' hi hJ => ?_) (fun Γ' hJ => ?_))
  · have hi' : i < body.length := by simpa using hi
    rw [getD_map PyData.str hi']
    obtain ⟨places, hpl, hple, hpe, hH⟩ := hJ
    rw [List.drop_eq_getElem_cons hi'] at hpe
    generalize hsy : body[i] = sy at *
    refine ⟨_, as_name rfl (hO _), ex_has hH.cons ?_⟩
    refine ex_cons (xs_new rfl (hO _) ?_)
    refine ex_cons (xs_for (k := 0) (fun j Γ' => Has Γ' [("moved", .own ((((List.range j).filter (metP g T toks sy places)).map fun (j : Nat) => (j : Int)).map .int)), ("symbol", .fz (.str sy)), ("places", .fz (placeD places)), ("tokens", .fz (sD toks)), ("tables", .fz (tabD (headsOf g) (toks.length + 1) T))])
      (s_range (n := toks.length + 1) hA.hd (G.b rfl rfl PyProof.Rows.Boot.«range» (by decide)) ((e_addI (e_len (n := toks.length) (G.b rfl rfl PyProof.Rows.Boot.«len» (by decide)) (ev_var rfl rfl) rfl hlt (by omega)) (ev_int 1)).cast (d' := .int ((toks.length + 1 : Nat) : Int)) rfl) rfl (by omega)) (fun _ => rfl) (by (repeat (first | exact Has.nil _ | refine Has.add rfl ?_))) (fun j Γ'' hj hJ' => ?_) (fun Γ'' hJ' => ?_))
    · refine ⟨_, as_name rfl (hO _), ex_has hJ'.cons ?_⟩
      have hstep : (List.range (j + 1)).filter (metP g T toks sy places) = (List.range j).filter (metP g T toks sy places) ++ if metP g T toks sy places j then [j] else [] := by
        rw [List.range_succ, List.filter_append, List.filter_cons, List.filter_nil]
      have hml : ((List.range j).filter (metP g T toks sy places)).length ≤ j := Nat.le_trans (List.length_filter_le _ _) (by simp)
      refine ex_join (fun Γ' => Has Γ' [("met", .fz (.bool (metP g T toks sy places j))), ("j", .fz (.int (j : Int))), ("moved", .own ((((List.range j).filter (metP g T toks sy places)).map fun (j : Nat) => (j : Int)).map .int)), ("symbol", .fz (.str sy)), ("places", .fz (placeD places)), ("tokens", .fz (sD toks)), ("tables", .fz (tabD (headsOf g) (toks.length + 1) T))])
        (xs_if (c_inD (ev_var rfl rfl) (ev_var rfl rfl) rfl) (fun hb => ?_) (fun hb => ?_)) (fun Γ' hG => ex_has hG ?_)
      · have hin : sy ∈ headsOf g := by
          rw [lookup_tab] at hb
          by_cases q : (headsOf g).contains sy = true
          · exact con_iff.mp q
          · rw [if_neg q] at hb; cases hb
        have hmet : metP g T toks sy places j = places.any fun i => T sy i j := by unfold metP; rw [if_pos (con_iff.mpr hin)]
        rw [hmet]
        refine ex_cons (xs_assign ((e_any (bs := places.map fun i => T sy i j) hA.hd (G.b rfl rfl PyProof.Rows.Boot.«any» (by decide)) ?_ rfl).cast (by rw [List.any_map]; first | rfl | skip)) rfl (hO _) rfl (ex_nil (by (repeat (first | exact Has.nil _ | refine Has.add rfl ?_)))))
        refine (e_map places (fun i => .int (i : Int)) (fun i => .bool (T sy i j)) ⟨rfl, rfl, rfl, rfl⟩ ((src_list (ds := (places.map fun (j : Nat) => (j : Int)).map .int) hA.hd (ev_var rfl rfl)).cast (by simp) (by rw [List.map_map]; rfl)) (fun _ => rfl) (by omega) fun L s₀ Z₀ i own hi => ?_).cast (by rw [List.map_map]; rfl)
        have hi2 := hple i hi
        exact turn_all rfl rfl (own _ rfl) rfl rfl fun ds => e_item (e_item (e_getD (ev_var rfl rfl) (ev_var rfl rfl) (tab_at hin)) (ev_var rfl rfl) rfl (by omega) (by omega) (rows_at hi2)) (ev_var rfl rfl) rfl (by omega) (by omega) (row_at hj)
      · have hin : ¬ sy ∈ headsOf g := by
          rw [lookup_tab] at hb
          intro q
          rw [if_pos (con_iff.mpr q)] at hb; cases hb
        have hmet : metP g T toks sy places j = (decide (0 < j) && (places.contains (j - 1) && toks[j - 1]?.getD "" == sy)) := by unfold metP; rw [if_neg fun q => hin (con_iff.mp q)]
        rw [hmet]
        refine ex_cons (xs_assign ((ev_and (b := places.contains (j - 1) && toks[j - 1]?.getD "" == sy) (e_gtI hA (ev_var rfl rfl) (ev_int 0)) fun h0 => ev_and ((e_inI (l := places.map fun (j : Nat) => (j : Int)) hA (e_sub (ev_var rfl rfl) (ev_int 1)) (ev_var rfl rfl) rfl).cast (d' := .bool (places.contains (j - 1))) ?_) fun h1 => ev_op1 (e_eqS hA (e_item (d := .str (toks[j - 1]?.getD "")) (ev_var rfl rfl) (e_sub (ev_var rfl rfl) (ev_int 1)) rfl ?_ ?_ ?_) (ev_var rfl rfl))).cast ?_) rfl (hO _) rfl (ex_nil (by (repeat (first | exact Has.nil _ | refine Has.add rfl ?_)))))
        · have h0' : 0 < j := by have := of_decide_eq_true h0; omega
          have e : ((j : Int) - 1) = ((j - 1 : Nat) : Int) := by omega
          rw [e, contains_cast]
        · have h0' : 0 < j := by have := of_decide_eq_true h0; omega
          omega
        · omega
        · have h0' : 0 < j := by have := of_decide_eq_true h0; omega
          have e : ((j : Int) - 1).toNat = j - 1 := by omega
          rw [e, List.getElem?_map, List.getElem?_eq_getElem (by omega)]; rfl
        · congr 2
          simp only [decide_eq_decide]; omega
      · refine ex_cons (xs_if (c_bool (ev_var rfl rfl) (fun _ => rfl)) (fun hb => ?_) (fun hb => ?_))
        · refine ex_cons (xs_append rfl rfl (by rw [List.length_map, List.length_map]; omega) (ev_var rfl rfl) rfl rfl rfl (ex_nil (ex_nil (Has.add ?_ (by (repeat (first | exact Has.nil _ | refine Has.add rfl ?_)))))))
          rw [hstep, if_pos hb, placeD_app]; rfl
        · refine ex_nil (ex_nil (Has.add ?_ (by (repeat (first | exact Has.nil _ | refine Has.add rfl ?_)))))
          rw [hstep, if_neg (by rw [hb]; decide), List.append_nil]; rfl
    · refine ex_has hJ' (ex_freeze (x := "moved") rfl (ex_cons (xs_assign (ev_var rfl rfl) rfl (hO _) rfl (ex_nil ⟨movP g T toks places sy, ?_, movP_le, hpe, by (repeat (first | exact Has.nil _ | refine Has.add rfl ?_))⟩))))
      exact Nat.le_trans (List.length_filter_le _ _) (by simp; omega)
  · obtain ⟨places, hpl, hple, hpe, hH⟩ := hJ
    rw [show (body.map PyData.str).length = body.length by simp, List.drop_length] at hpe
    refine ex_has hH (ex_cons (xs_return (ev_var rfl rfl) ?_))
    show Out.ret _ = Out.ret _
    rw [← hpe]; rfl
end
end

section
set_option autoImplicit false
set_option linter.unusedVariables false
set_option maxRecDepth 100000
open PySem PyProof.Rows PySem.W

noncomputable def Ent.isReg : Ent → Bool
  | .reg _ _ => true
  | _ => false
theorem no_reg : ∀ {Γ : Tab}, (Γ.all fun p => !p.2.isReg) = true → ∀ (y : Str) (b : Addr) (R : List (Addr × Obj)), Γ.lookup y ≠ some (.reg b R)
  | [], _, y, b, R => by simp
  | (x, e) :: Γ, h, y, b, R => by
    simp only [List.all_cons, Bool.and_eq_true] at h
    rw [List.lookup_cons]
    split
    · intro q
      cases q
      exact absurd h.1 (by simp [Ent.isReg])
    · exact no_reg h.2 y b R
open Classical in
noncomputable def spanT (g : List Rule) (W : List Nat) : TF := fun h i j => decide (i ≤ j ∧ j ≤ W.length ∧ DerH g h (sl W i j))
theorem tabD_congr {hs : List Str} {n : Nat} {T T' : TF} (h : ∀ x ∈ hs, ∀ i < n, ∀ j < n, T x i j = T' x i j) : tabD hs n T = tabD hs n T' := by
  unfold tabD
  congr 1
  refine List.map_congr_left fun x hx => ?_
  congr 2
  refine List.map_congr_left fun i hi => ?_
  congr 1
  exact List.map_congr_left fun j hj => by rw [h x hx i (List.mem_range.mp hi) j (List.mem_range.mp hj)]

section
variable {prog : Program} {w : World} {mg mb : Str → Option Value} {P : Params}
theorem fn_span (G : G2 prog w mg mb P) {k : Nat} (g : List Rule) (toks : List Str) {W : List Nat} (hw : Word toks W) (one : ∀ r ∈ g, ∀ s ∈ r.2, (cp s).length = 1) (hg : g.length ≤ 100) (ht : toks.length ≤ 50) :
    FnOk (C2 prog w mg mb P) (k + 1 + 1) 31 [gD g, sD toks] (tabD (headsOf g) (toks.length + 1) (spanT g W)) := by
  refine fn_intro (ps := ["g", "tokens"]) (fnDef_of rfl rfl rfl rfl rfl rfl rfl (by ((intro vs h; rcases vs with _ | ⟨_, _ | ⟨_, _ | ⟨_, _ | ⟨_, _ | ⟨_, _ | ⟨_, _⟩⟩⟩⟩⟩⟩ <;> first | rfl | (simp at h; done)))) (by decide) rfl rfl rfl rfl rfl rfl) rfl fun A L s₀ Z₀ E hA hO hF => ?_
  have hsl : sizeLine = 16777216 := rfl
  have hlt : lenD (sD toks) = some toks.length := by simp [lenD, sD]
  have hnd : (headsOf g).Nodup := dd_nodup _
  have hhl : (headsOf g).length ≤ 100 := by
    have := dd_len (g.map (·.1)); unfold headsOf; simp only [List.length_map] at this; omega
  refine ex_cons (xs_assign (e_len (n := toks.length) (G.b rfl rfl PyProof.Rows.Boot.«len» (by decide)) (ev_var rfl rfl) rfl hlt (by omega)) rfl (hO _) rfl ?_)
  refine ex_cons (xs_regDict rfl (hO _) (fun y b R _ => no_reg rfl y b R) (fun _ _ _ => false) (toks.length + 1) fun a R r => ?_)
  refine ex_cons (xs_for (k := 0) (fun i Γ' => ∃ R sh, Has Γ' [("tables", .reg a R), ("n", .fz (.int (toks.length : Int))), ("g", .fz (gD g)), ("tokens", .fz (sD toks))] ∧ RegT (C2 prog w mg mb P) a R ((headsOf g).take i) (toks.length + 1) (fun _ _ _ => false) sh)
    (src_list (ds := (headsOf g).map .str) hA.hd (ev_call hA rfl (G.at rfl) rfl rfl (evs_cons (ev_var rfl rfl) evs_nil rfl) rfl (fn_heads_of G g (by omega)))) (fun _ => rfl) ⟨R, [], by (repeat (first | exact Has.nil _ | refine Has.add rfl ?_)), r⟩ (fun i Γ' hi hJ => ?_) (fun Γ' hJ => ?_))
  · have hi' : i < (headsOf g).length := by simpa using hi
    rw [getD_map PyData.str hi']
    obtain ⟨R, sh, hH, r⟩ := hJ
    refine ⟨_, as_name rfl (hO _), ex_has hH.cons ?_⟩
    have hni : ¬ (headsOf g)[i] ∈ (headsOf g).take i := fun q => by
      obtain ⟨j, hj, e⟩ := List.getElem_of_mem q
      rw [List.getElem_take] at e
      have := (List.getElem_inj hnd).mp e
      rw [List.length_take] at hj
      omega
    refine ex_cons (xs_regPut rfl rfl r hni (fun _ _ => rfl) (by omega) (by rw [List.length_take]; omega) (ev_var rfl rfl) (evRows_comp (n := toks.length + 1) ⟨rfl, rfl, rfl, rfl⟩ (s_range (n := toks.length + 1) hA.hd (G.b rfl rfl PyProof.Rows.Boot.«range» (by decide)) ((e_addI (ev_var rfl rfl) (ev_int 1)).cast (d' := .int ((toks.length + 1 : Nat) : Int)) rfl) rfl (by omega)) (fun _ => rfl) (by omega) (fun _ => rfl) (by decide) rfl rfl
      fun L acc R i hi => evRow_repeat ((e_addI (ev_var rfl rfl) (ev_int 1)).cast (d' := .int ((toks.length + 1 : Nat) : Int)) rfl) (by omega)) rfl fun R' sh' r' => ex_nil ⟨R', sh', by (repeat (first | exact Has.nil _ | refine Has.add rfl ?_)), ?_⟩)
    have e : (headsOf g).take (i + 1) = (headsOf g).take i ++ [(headsOf g)[i]] := by rw [List.take_add_one, List.getElem?_eq_getElem hi']; rfl
    rw [e]; exact r'
  obtain ⟨R, sh, hH, r⟩ := hJ
  rw [show ((headsOf g).map PyData.str).length = (headsOf g).length by simp, List.take_length] at r
  refine ex_has hH ?_
  refine ex_cons (xs_assign (ev_bool true) rfl (hO _) rfl ?_)
  refine ex_cons (xs_while (fun m Γ' => ∃ T c R sh, Has Γ' [("tables", .reg a R), ("changed", .fz (.bool c)), ("n", .fz (.int (toks.length : Int))), ("g", .fz (gD g)), ("tokens", .fz (sD toks))] ∧ RegT (C2 prog w mg mb P) a R (headsOf g) (toks.length + 1) T sh ∧ Sound g toks W T ∧ meas g toks.length (T, c) ≤ m ∧
      (c = false → ∀ r ∈ g, ∀ i, i ≤ toks.length → ∀ j ∈ placesF g T toks [i] r.2, T r.1 i j = true)) (meas g toks.length (fun _ _ _ => false, true)) ⟨fun _ _ _ => false, true, R, sh, by (repeat (first | exact Has.nil _ | refine Has.add rfl ?_)), r, (fun h hh i j q => absurd q (by simp)), Nat.le_refl _, (fun q => by cases q)⟩ fun m Γ' hJ => ?_)
  obtain ⟨T, c, R, sh, hH, r, hS, hm, hcl⟩ := hJ
  refine ⟨c, (c_bool (ev_var rfl rfl) (fun _ => rfl)).has hH, fun hc => ?_, fun hc => ?_⟩
  · subst hc
    refine ex_has hH ?_
    refine ex_cons (xs_assign (ev_bool false) rfl (hO _) rfl ?_)
    refine ex_cons (xs_for (k := 0) (fun i Γ' => ∃ R sh, Has Γ' [("tables", .reg a R), ("changed", .fz (.bool ((g.take i).foldl (stR g toks) (T, false)).2)), ("n", .fz (.int (toks.length : Int))), ("g", .fz (gD g)), ("tokens", .fz (sD toks))] ∧ RegT (C2 prog w mg mb P) a R (headsOf g) (toks.length + 1) ((g.take i).foldl (stR g toks) (T, false)).1 sh)
      (src_list (ds := g.map rD) hA.hd (ev_var rfl rfl)) (fun _ => rfl) ⟨R, sh, by (repeat (first | exact Has.nil _ | refine Has.add rfl ?_)), r⟩ (fun i Γ' hi hJ => ?_) (fun Γ' hJ => ?_))
    · have hi' : i < g.length := by simpa using hi
      rw [getD_map rD hi']
      obtain ⟨R, sh, hH, r⟩ := hJ
      have hst : (g.take (i + 1)).foldl (stR g toks) (T, false) = stR g toks ((g.take i).foldl (stR g toks) (T, false)) g[i] := by
        rw [List.take_add_one, List.getElem?_eq_getElem hi', List.foldl_append]; rfl
      rw [hst]
      have hri : g[i] ∈ g := List.getElem_mem hi'
      have hin : g[i].1 ∈ headsOf g := mem_heads2.mpr ⟨_, hri, rfl⟩
      generalize (g.take i).foldl (stR g toks) (T, false) = p at *
      generalize g[i] = rl at *
      refine ⟨_, as_name rfl (hO _), ex_has hH.cons ?_⟩
      unfold stR
      refine ex_cons (xs_for (k := 0) (fun i Γ' => ∃ R sh, Has Γ' [("tables", .reg a R), ("changed", .fz (.bool ((List.range i).foldl (stI g toks rl) p).2)), ("rule", .fz (rD rl)), ("n", .fz (.int (toks.length : Int))), ("g", .fz (gD g)), ("tokens", .fz (sD toks))] ∧ RegT (C2 prog w mg mb P) a R (headsOf g) (toks.length + 1) ((List.range i).foldl (stI g toks rl) p).1 sh)
        (s_range (n := toks.length + 1) hA.hd (G.b rfl rfl PyProof.Rows.Boot.«range» (by decide)) ((e_addI (ev_var rfl rfl) (ev_int 1)).cast (d' := .int ((toks.length + 1 : Nat) : Int)) rfl) rfl (by omega)) (fun _ => rfl) ⟨R, sh, by (repeat (first | exact Has.nil _ | refine Has.add rfl ?_)), r⟩ (fun i Γ' hi hJ => ?_) (fun Γ' hJ => ?_))
      · obtain ⟨R, sh, hH, r⟩ := hJ
        have hst : (List.range (i + 1)).foldl (stI g toks rl) p = stI g toks rl ((List.range i).foldl (stI g toks rl) p) i := by
          rw [List.range_succ, List.foldl_append]; rfl
        rw [hst]
        generalize (List.range i).foldl (stI g toks rl) p = p at *
        refine ⟨_, as_name rfl (hO _), ex_has hH.cons ?_⟩
        unfold stI
        have hjs : ∀ j ∈ placesF g p.1 toks [i] rl.2, j < toks.length + 1 := fun j hj => by
          have := places_le rl.2 [i] (fun q hq => by rw [List.mem_singleton.mp hq]; omega) j hj
          omega
        have hpl := fn_places G (k := k) g p.1 rl.2 toks i (by omega) (by omega)
        generalize placesF g p.1 toks [i] rl.2 = js at *
        refine ex_cons (xs_for (k := 0) (fun x Γ' => ∃ R sh, Has Γ' [("tables", .reg a R), ("changed", .fz (.bool ((js.take x).foldl (stJ rl i) p).2)), ("i", .fz (.int (i : Int))), ("rule", .fz (rD rl)), ("n", .fz (.int (toks.length : Int))), ("g", .fz (gD g)), ("tokens", .fz (sD toks))] ∧ RegT (C2 prog w mg mb P) a R (headsOf g) (toks.length + 1) ((js.take x).foldl (stJ rl i) p).1 sh)
          (src_list (ds := (js.map fun (j : Nat) => (j : Int)).map .int) hA.hd (ev_callR (y := "tables") hA rfl (G.at rfl) rfl rfl rfl r (evsR_cons (e_item (ev_var rfl rfl) (ev_int 1) rfl (by decide) (by decide) rfl).toR (evsR_cons (ev_var rfl rfl).toR (evsR_cons (ev_var rfl rfl).toR (evsR_cons (evR_reg rfl rfl r) evsR_nil rfl) rfl) rfl) rfl) rfl hpl)) (fun _ => rfl) ⟨R, sh, by (repeat (first | exact Has.nil _ | refine Has.add rfl ?_)), r⟩ (fun x Γ' hx hJ => ?_) (fun Γ' hJ => ?_))
        · have hx' : x < js.length := by simpa using hx
          rw [List.map_map, getD_map (PyData.int ∘ fun (j : Nat) => (j : Int)) hx']
          show ∃ Γ'', As _ _ _ _ _ _ _ _ (.int ((js[x] : Nat) : Int)) Γ'' ∧ _
          obtain ⟨R, sh, hH, r⟩ := hJ
          have hst : (js.take (x + 1)).foldl (stJ rl i) p = stJ rl i ((js.take x).foldl (stJ rl i) p) js[x] := by
            rw [List.take_add_one, List.getElem?_eq_getElem hx', List.foldl_append]; rfl
          rw [hst]
          have hj := hjs _ (List.getElem_mem hx')
          generalize (js.take x).foldl (stJ rl i) p = p at *
          generalize js[x] = j at *
          refine ⟨_, as_name rfl (hO _), ex_has hH.cons ?_⟩
          refine ex_cons (xs_if (cd_not (c_bool (b := p.1 rl.1 i j) (e_item (e_item (e_getD (ev_reg rfl rfl r) (e_item (ev_var rfl rfl) (ev_int 0) rfl (by decide) (by decide) rfl) (tab_at hin)) (ev_var rfl rfl) rfl (by omega) (by omega) (rows_at hi)) (ev_var rfl rfl) rfl (by omega) (by omega) (row_at hj)) (fun _ => rfl))) (fun hb => ?_) (fun hb => ?_))
          · have hb' : p.1 rl.1 i j = false := by simpa using hb
            have e : stJ rl i p j = (setT p.1 rl.1 i j, true) := by unfold stJ; rw [hb', if_neg (by decide)]
            rw [e]
            refine ex_cons (xs_regSet rfl rfl r hnd hin hi hj (by omega) (e_item (ev_var rfl rfl) (ev_int 0) rfl (by decide) (by decide) rfl) (ev_var rfl rfl) (ev_var rfl rfl) rfl fun R' r' => ?_)
            exact ex_cons (xs_assign (ev_bool true) rfl (hO _) rfl (ex_nil (ex_nil ⟨R', sh, by (repeat (first | exact Has.nil _ | refine Has.add rfl ?_)), r'⟩)))
          · have hb' : p.1 rl.1 i j = true := by simpa using hb
            have e : stJ rl i p j = p := by unfold stJ; rw [hb', if_pos rfl]
            rw [e]
            exact ex_nil (ex_nil ⟨R, sh, by (repeat (first | exact Has.nil _ | refine Has.add rfl ?_)), r⟩)
        · obtain ⟨R, sh, hH, r⟩ := hJ
          rw [show ((js.map fun (j : Nat) => (j : Int)).map PyData.int).length = js.length by simp, List.take_length] at hH r
          exact ex_has hH (ex_nil ⟨R, sh, by (repeat (first | exact Has.nil _ | refine Has.add rfl ?_)), r⟩)
      · obtain ⟨R, sh, hH, r⟩ := hJ
        exact ex_has hH (ex_nil ⟨R, sh, by (repeat (first | exact Has.nil _ | refine Has.add rfl ?_)), r⟩)
    · obtain ⟨R, sh, hH, r⟩ := hJ
      rw [show (g.map rD).length = g.length by simp, List.take_length] at hH r
      have hms := pass_meas hw hS
      have hfo := foldR_ok hw g (T, false) (fun _ h => h) hS
      have hm1 : leftT g toks.length T + 1 ≤ m := by unfold meas at hm; simpa using hm
      refine ex_has hH (ex_nil ⟨leftT g toks.length T, by omega, (g.foldl (stR g toks) (T, false)).1, (g.foldl (stR g toks) (T, false)).2, R, sh, by (repeat (first | exact Has.nil _ | refine Has.add rfl ?_)), r, hfo.1, hms, fun q => ?_⟩)
      obtain ⟨e1, e2⟩ := pass_closed q
      rw [e1]; exact e2
  · subst hc
    refine ex_has hH (ex_freezeR (x := "tables") rfl r (ex_cons (xs_return (ev_var rfl rfl) ?_)))
    show Out.ret _ = Out.ret _
    congr 1
    refine tabD_congr fun x hx i hi j hj => ?_
    have ok : TabOk g toks W T := ⟨hS, hcl rfl⟩
    have h := ok.iff hw one hx (i := i) (j := j) (by omega) (by omega)
    unfold spanT
    classical
    rw [Bool.eq_iff_iff, h, decide_eq_true_eq]
    exact ⟨fun q => ⟨q.1, by rw [hw.len]; omega, q.2⟩, fun q => ⟨q.1, q.2.2⟩⟩
theorem fn_derives (G : G2 prog w mg mb P) {k : Nat} (g : List Rule) (toks : List Str) {W : List Nat} {h : Str} (hh : h ∈ headsOf g) (hw : Word toks W) (one : ∀ r ∈ g, ∀ s ∈ r.2, (cp s).length = 1) (hg : g.length ≤ 100) (ht : toks.length ≤ 50) :
    FnOk (C2 prog w mg mb P) (k + 1 + 1 + 1) 38 [gD g, .str h, sD toks] (.bool (spanT g W h 0 toks.length)) := by
  refine fn_intro (ps := ["g", "head", "tokens"]) (fnDef_of rfl rfl rfl rfl rfl rfl rfl (by ((intro vs h; rcases vs with _ | ⟨_, _ | ⟨_, _ | ⟨_, _ | ⟨_, _ | ⟨_, _ | ⟨_, _⟩⟩⟩⟩⟩⟩ <;> first | rfl | (simp at h; done)))) (by decide) rfl rfl rfl rfl rfl rfl) rfl fun A L s₀ Z₀ E hA hO hF => ?_
  have hsl : sizeLine = 16777216 := rfl
  have hlt : lenD (sD toks) = some toks.length := by simp [lenD, sD]
  exact ex_cons (xs_return (e_item (e_item (e_getD (ev_call hA rfl (G.at rfl) rfl rfl (evs_cons (ev_var rfl rfl) (evs_cons (ev_var rfl rfl) evs_nil rfl) rfl) rfl (fn_span G g toks hw one hg ht)) (ev_var rfl rfl) (tab_at hh)) (ev_int 0) rfl (by decide) (by decide) (rows_at (i := 0) (by omega))) (e_len (n := toks.length) (G.b rfl rfl PyProof.Rows.Boot.«len» (by decide)) (ev_var rfl rfl) rfl hlt (by omega)) rfl (by omega) (by omega) (row_at (by omega))) rfl)
end
end

section
set_option autoImplicit false
set_option linter.unusedVariables false
set_option maxRecDepth 100000
open PySem PyProof.Rows PySem.W

theorem has_iff (p x : Str) : hasSub p x = true ↔ cp p <:+: cp x := by
  unfold hasSub
  rw [StrLaws.found_iff]
  unfold Builtin.Str.subAt
  have hl : ∀ s : Str, s.length = (cp s).length := fun s => by show s.cps.size = s.cps.toList.length; simp
  have ex : ∀ i, ((x.cps.extract i (i + p.length) == p.cps) = true ↔ sl (cp x) i (i + p.length) = cp p) := fun i => by
    rw [beq_iff_eq]
    constructor
    · intro h
      have := congrArg Array.toList h
      rw [Array.toList_extract, List.extract_eq_take_drop] at this
      exact this
    · intro h
      apply Array.ext'
      rw [Array.toList_extract, List.extract_eq_take_drop]
      exact h
  constructor
  · rintro ⟨i, h1, h2⟩
    rw [← (ex i).mp h2]
    exact sl_infix _ _ _
  · intro h
    obtain ⟨i, j, h1, h2, e⟩ := infix_sl h
    have hpl : p.length = j - i := by rw [hl, e, sl_len h1 h2]
    refine ⟨i, ?_, (ex i).mpr ?_⟩
    · rw [hl x]; omega
    · rw [e, hpl]; congr 1; omega
theorem slice_cp {x : Str} {i j : Nat} (h1 : i ≤ j) (h2 : j ≤ x.length) : cp (Txt.slice x (some (i : Int)) (some (j : Int))) = sl (cp x) i j := by
  have h := StrLaws.sliced_plain x h1 h2
  unfold Txt.slice
  split
  · rename_i hc
    have hl : x.length = (cp x).length := by show x.cps.size = x.cps.toList.length; simp
    rw [Bool.and_eq_true, beq_iff_eq, beq_iff_eq] at hc
    rw [StrLaws.strSliceIndices_plain h1 h2, List.length_map, List.length_range] at hc
    have hi : i = 0 := by omega
    have hj : j = x.length := by omega
    subst hi
    unfold sl
    rw [List.drop_zero, List.take_of_length_le (by omega)]
  · show ((Builtin.Str.strSliceIndices (some (i : Int)) (some (j : Int)) 1 x.length).filterMap (x.cps[·]?)).toArray.toList = _
    rw [h]; rfl
theorem slice_ok {x : Str} {i j : Nat} (h1 : i ≤ j) (h2 : j ≤ x.length) (h : PyData.strOk x = true) : PyData.strOk (Txt.slice x (some (i : Int)) (some (j : Int))) = true := by
  rw [strOk_iff] at h ⊢
  intro c hc
  have hc' : c ∈ cp (Txt.slice x (some (i : Int)) (some (j : Int))) := hc
  rw [slice_cp h1 h2] at hc'
  exact h c (List.mem_of_mem_drop (List.mem_of_mem_take hc'))
theorem infix_len {p x : Str} (h : cp p <:+: cp x) : p.length ≤ x.length := by
  have := h.length_le
  have hl : ∀ s : Str, s.length = (cp s).length := fun s => by show s.cps.size = s.cps.toList.length; simp
  rw [hl, hl x]; exact this

noncomputable def headS : List Str := ["S", "A"]
noncomputable def symS : List Str := ["a", "S", "b", "A", "a"]
noncomputable def letS : List Str := ["a", "b", "a", "A"]
noncomputable abbrev Quad := Int × Int × Int × Int
noncomputable def qD (q : Quad) : PyData := .tuple [.int q.1, .int q.2.1, .int q.2.2.1, .int q.2.2.2]
noncomputable def symAt (x : Int) : Str := symS[idx x 5]?.getD ""
noncomputable def letAt (x : Int) : Str := letS[idx x 4]?.getD ""
noncomputable def ruleQ (q : Quad) : Rule := (headS[idx q.1 2]?.getD "", [symAt q.2.2.1, symAt q.2.2.2, symAt q.2.2.1].take (idx q.2.1 4))
noncomputable def wordT (size x y z : Int) : List Str := [letAt x, letAt y, letAt z].take (idx size 4)
section
variable {prog : Program} {w : World} {mg mb : Str → Option Value} {P : Params}
theorem top_headS : TopD (C2 prog w mg mb P) (.ref 39) (.tuple (headS.map .str)) := by (repeat (first | exact TopD.none | exact TopD.bool _ | exact TopD.int _ _ | exact TopD.str _ _ (strOk_ofString _) | exact TopDs.nil | refine TopDs.cons ?_ ?_ | refine TopD.tuple rfl ?_ | refine TopD.list rfl ?_))
theorem top_symS : TopD (C2 prog w mg mb P) (.ref 40) (.tuple (symS.map .str)) := by (repeat (first | exact TopD.none | exact TopD.bool _ | exact TopD.int _ _ | exact TopD.str _ _ (strOk_ofString _) | exact TopDs.nil | refine TopDs.cons ?_ ?_ | refine TopD.tuple rfl ?_ | refine TopD.list rfl ?_))
theorem top_letS : TopD (C2 prog w mg mb P) (.ref 41) (.tuple (letS.map .str)) := by (repeat (first | exact TopD.none | exact TopD.bool _ | exact TopD.int _ _ | exact TopD.str _ _ (strOk_ofString _) | exact TopDs.nil | refine TopDs.cons ?_ ?_ | refine TopD.tuple rfl ?_ | refine TopD.list rfl ?_))
theorem at_tab (l : List Str) (n : Nat) (hl : l.length = n) (hn : 0 < n) (x : Int) : (l.map PyData.str)[((idx x n : Nat) : Int).toNat]? = some (.str (l[idx x n]?.getD "")) := by
  have h : idx x n < l.length := by rw [hl]; exact idx_lt x hn
  rw [Int.toNat_natCast, List.getElem?_map, List.getElem?_eq_getElem h]; rfl
theorem fn_grammar (G : G2 prog w mg mb P) {k : Nat} (qs : List Quad) (hq : qs.length ≤ 100) : FnOk (C2 prog w mg mb P) (k + 1) 48 [.list (qs.map qD)] (gD (qs.map ruleQ)) := by
  refine fn_intro (ps := ["picks"]) (fnDef_of rfl rfl rfl rfl rfl rfl rfl (by ((intro vs h; rcases vs with _ | ⟨_, _ | ⟨_, _ | ⟨_, _ | ⟨_, _ | ⟨_, _ | ⟨_, _⟩⟩⟩⟩⟩⟩ <;> first | rfl | (simp at h; done)))) (by decide) rfl rfl rfl rfl rfl rfl) rfl fun A L s₀ Z₀ E hA hO hF => ?_
  have hsl : sizeLine = 16777216 := rfl
  refine ex_cons (xs_new rfl (hO _) ?_)
  refine ex_cons (xs_for (k := 0) (fun i Γ' => Has Γ' [("g", .own ((qs.take i).map fun q => rD (ruleQ q)))]) (src_list (ds := qs.map qD) hA.hd (ev_var rfl rfl)) (fun _ => rfl) (by (repeat (first | exact Has.nil _ | refine Has.add rfl ?_))) (fun i Γ' hi hJ => ?_) (fun Γ' hJ => ?_))
  · have hi' : i < qs.length := by simpa using hi
    rw [getD_map qD hi']
    refine ⟨_, as_name rfl (hO _), ex_has hJ.cons ?_⟩
    have hst : (qs.take (i + 1)).map (fun q => rD (ruleQ q)) = (qs.take i).map (fun q => rD (ruleQ q)) ++ [rD (ruleQ qs[i])] := by
      rw [List.take_add_one, List.getElem?_eq_getElem hi', List.map_append]; rfl
    rw [hst]
    generalize qs[i] = q
    obtain ⟨a, b, c, d⟩ := q
    have h4 := idx_lt b (n := 4) (by omega)
    have h2 := idx_lt a (n := 2) (by omega)
    refine ex_cons (xs_assign (e_item (ev_glob rfl (G.at rfl) top_symS) ((e_mod (e_item (ev_var rfl rfl) (ev_int 2) rfl (by decide) (by decide) rfl) (ev_int 5) (by decide)).cast (d' := .int ((idx c 5 : Nat) : Int)) (by rw [← fmod_idx c (n := 5) (by omega)]; rfl)) rfl (by omega) (by have := idx_lt c (n := 5) (by omega); omega) (at_tab symS 5 rfl (by omega) c)) rfl (hO _) rfl ?_)
    refine ex_cons (xs_assign (e_item (ev_glob rfl (G.at rfl) top_symS) ((e_mod (e_item (ev_var rfl rfl) (ev_int 3) rfl (by decide) (by decide) rfl) (ev_int 5) (by decide)).cast (d' := .int ((idx d 5 : Nat) : Int)) (by rw [← fmod_idx d (n := 5) (by omega)]; rfl)) rfl (by omega) (by have := idx_lt d (n := 5) (by omega); omega) (at_tab symS 5 rfl (by omega) d)) rfl (hO _) rfl ?_)
    refine ex_cons (xs_assign ((ev_slice (ev_list (evs_cons (ev_var rfl rfl) (evs_cons (ev_var rfl rfl) (evs_cons (ev_var rfl rfl) evs_nil rfl) rfl) rfl) (by show 3 ≤ sizeLine; decide)) o_none (o_some ((e_mod (e_item (ev_var rfl rfl) (ev_int 1) rfl (by decide) (by decide) rfl) (ev_int 4) (by decide)).cast (d' := .int ((idx b 4 : Nat) : Int)) (by rw [← fmod_idx b (n := 4) (by omega)]; rfl))) (by show 3 ≤ sizeLine; decide)).cast (d' := sD ([symAt c, symAt d, symAt c].take (idx b 4))) ?_) rfl (hO _) rfl ?_)
    · show PyData.list _ = PyData.list _
      rw [sliceD_to _ _ (by omega), Int.toNat_natCast, List.map_take]; rfl
    refine ex_cons (xs_append rfl rfl (by simp; omega) (ev_tuple (evs_cons (e_item (ev_glob rfl (G.at rfl) top_headS) ((e_mod (e_item (ev_var rfl rfl) (ev_int 0) rfl (by decide) (by decide) rfl) (ev_int 2) (by decide)).cast (d' := .int ((idx a 2 : Nat) : Int)) (by rw [← fmod_idx a (n := 2) (by omega)]; rfl)) rfl (by omega) (by omega) (at_tab headS 2 rfl (by omega) a)) (evs_cons (ev_var rfl rfl) evs_nil rfl) rfl) (by show 2 ≤ sizeLine; decide)) rfl rfl rfl (ex_nil (by (repeat (first | exact Has.nil _ | refine Has.add rfl ?_)))))
  · rw [show (qs.map qD).length = qs.length by simp, List.take_length] at hJ
    refine ex_has hJ (ex_freeze (x := "g") rfl (ex_cons (xs_return (ev_var rfl rfl) ?_)))
    show Out.ret _ = Out.ret _
    unfold gD; rw [List.map_map]; rfl
theorem fn_word (G : G2 prog w mg mb P) {k : Nat} (size x y z : Int) : FnOk (C2 prog w mg mb P) (k + 1) 55 [.int size, .int x, .int y, .int z] (sD (wordT size x y z)) := by
  refine fn_intro (ps := ["size", "x", "y", "z"]) (fnDef_of rfl rfl rfl rfl rfl rfl rfl (by ((intro vs h; rcases vs with _ | ⟨_, _ | ⟨_, _ | ⟨_, _ | ⟨_, _ | ⟨_, _ | ⟨_, _⟩⟩⟩⟩⟩⟩ <;> first | rfl | (simp at h; done)))) (by decide) rfl rfl rfl rfl rfl rfl) rfl fun A L s₀ Z₀ E hA hO hF => ?_
  have hsl : sizeLine = 16777216 := rfl
  have h4 := idx_lt size (n := 4) (by omega)
  have lt : ∀ v : Int, (idx v 4 : Int) < 2 ^ 63 := fun v => by have := idx_lt v (n := 4) (by omega); omega
  refine ex_cons (xs_assign ((ev_list (evs_cons (e_item (ev_glob rfl (G.at rfl) top_letS) ((e_mod (ev_var rfl rfl) (ev_int 4) (by decide)).cast (d' := .int ((idx x 4 : Nat) : Int)) (by rw [← fmod_idx x (n := 4) (by omega)]; rfl)) rfl (by omega) (lt _) (at_tab letS 4 rfl (by omega) x)) (evs_cons (e_item (ev_glob rfl (G.at rfl) top_letS) ((e_mod (ev_var rfl rfl) (ev_int 4) (by decide)).cast (d' := .int ((idx y 4 : Nat) : Int)) (by rw [← fmod_idx y (n := 4) (by omega)]; rfl)) rfl (by omega) (lt _) (at_tab letS 4 rfl (by omega) y)) (evs_cons (e_item (ev_glob rfl (G.at rfl) top_letS) ((e_mod (ev_var rfl rfl) (ev_int 4) (by decide)).cast (d' := .int ((idx z 4 : Nat) : Int)) (by rw [← fmod_idx z (n := 4) (by omega)]; rfl)) rfl (by omega) (lt _) (at_tab letS 4 rfl (by omega) z)) evs_nil rfl) rfl) rfl) (by show 3 ≤ sizeLine; decide)).cast (d' := sD [letAt x, letAt y, letAt z]) rfl) rfl (hO _) rfl ?_)
  refine ex_cons (xs_return (ev_slice (ev_var rfl rfl) o_none (o_some ((e_mod (ev_var rfl rfl) (ev_int 4) (by decide)).cast (d' := .int ((idx size 4 : Nat) : Int)) (by rw [← fmod_idx size (n := 4) (by omega)]; rfl))) (by show 3 ≤ sizeLine; decide)) ?_)
  show Out.ret (PyData.list _) = Out.ret (PyData.list _)
  rw [sliceD_to _ _ (by omega), Int.toNat_natCast]
  unfold wordT
  rw [List.map_take]
end
end

section
set_option autoImplicit false
set_option linter.unusedVariables false
set_option maxRecDepth 100000
open PySem PyProof.Rows PySem.W

noncomputable def kds (hs : List Str) (K : Str → List Str) : List (Str × PyData) := hs.map fun h => (h, sD (K h))
noncomputable def kD (hs : List Str) (K : Str → List Str) : PyData := dD (kds hs K)
theorem opt_data (g : List Rule) (K : Str → List Str) (s : Str) : ((kds (headsOf g) K).lookup s).getD (sD [s]) = sD (optK g K s) := by
  unfold kds
  rw [lookup_tab (headsOf g) (fun h => sD (K h))]
  unfold optK
  split <;> rfl
theorem kds_at {hs : List Str} {K : Str → List Str} {s : Str} (h : s ∈ hs) : (kds hs K).lookup s = some (sD (K s)) := by
  unfold kds
  rw [lookup_tab hs (fun h => sD (K h)), if_pos (con_iff.mpr h)]
theorem kds_keys (hs : List Str) (K : Str → List Str) : (kds hs K).map (·.1) = hs := by
  unfold kds; rw [List.map_map]; simp [Function.comp_def]

theorem stored_old {l : List (Str × PyData)} {k : Str} {d : PyData} (h : k ∈ l.map (·.1)) : storedD l k d = l.map fun kv => if kv.1 = k then (kv.1, d) else kv := by
  unfold storedD
  rw [if_pos]
  rw [List.any_eq_true]
  obtain ⟨p, hp, e⟩ := List.mem_map.mp h
  exact ⟨p, hp, by simpa using e⟩
theorem stored_new {l : List (Str × PyData)} {k : Str} {d : PyData} (h : ¬ k ∈ l.map (·.1)) : storedD l k d = l ++ [(k, d)] := by
  unfold storedD
  rw [if_neg]
  rw [Bool.not_eq_true, List.any_eq_false]
  intro p hp
  simp only [decide_eq_true_eq]
  exact fun e => h (List.mem_map.mpr ⟨p, hp, e⟩)
theorem storeAll_app : ∀ (b a l : List (Str × PyData)), storeAllD l (b ++ a) = storeAllD (storeAllD l b) a
  | [], _, _ => rfl
  | (k, d) :: b, a, l => storeAll_app b a (storedD l k d)
theorem storeAll_nodup : ∀ (b l : List (Str × PyData)), ((l ++ b).map (·.1)).Nodup → storeAllD l b = l ++ b
  | [], l, _ => by simp [storeAllD]
  | (k, d) :: b, l, h => by
    show storeAllD (storedD l k d) b = _
    have hk : ¬ k ∈ l.map (·.1) := fun q => by
      rw [List.map_append, List.nodup_append] at h
      exact h.2.2 k q k (by simp) rfl
    rw [stored_new hk, storeAll_nodup b (l ++ [(k, d)]) (by simpa using h)]
    simp
theorem known_put {hs : List Str} (hn : hs.Nodup) {K : Str → List Str} {h : Str} (hh : h ∈ hs) (l : List Str) : storeAllD [] (kds hs K ++ [(h, sD l)]) = kds hs (fun x => if x = h then l else K x) := by
  rw [storeAll_app, storeAll_nodup (kds hs K) [] (by rw [List.nil_append, kds_keys]; exact hn), List.nil_append]
  show storedD (kds hs K) h (sD l) = _
  rw [stored_old (by rw [kds_keys]; exact hh)]
  unfold kds
  rw [List.map_map]
  refine List.map_congr_left fun x _ => ?_
  simp only [Function.comp]
  split <;> rfl
theorem known_first (g : List Rule) : storeAllD [] (g.map fun r => (r.1, PyData.list [])) = kds (headsOf g) (fun _ => []) := by
  have key : ∀ (g : List Rule) (acc : List Str), storeAllD (kds acc fun _ => []) (g.map fun r => (r.1, PyData.list [])) = kds ((g.map (·.1)).foldl addNew acc) (fun _ => []) := by
    intro g
    induction g with
    | nil => intro acc; rfl
    | cons r g ih =>
      intro acc
      show storeAllD (storedD (kds acc fun _ => []) r.1 (.list [])) (g.map fun r => (r.1, PyData.list [])) = kds ((g.map (·.1)).foldl addNew (addNew acc r.1)) _
      rw [← ih]
      congr 1
      by_cases h : r.1 ∈ acc
      · rw [stored_old (by rw [kds_keys]; exact h)]
        unfold addNew
        rw [if_pos (con_iff.mpr h)]
        unfold kds
        rw [List.map_map]
        refine List.map_congr_left fun x _ => ?_
        simp only [Function.comp]
        split <;> rfl
      · rw [stored_new (by rw [kds_keys]; exact h)]
        unfold addNew
        rw [if_neg fun q => h (con_iff.mp q)]
        unfold kds
        rw [List.map_append]; rfl
  exact key g []

section
variable {prog : Program} {w : World} {mg mb : Str → Option Value} {P : Params}
theorem sp_len {word : Str} (hw : word.length ≤ 3) {l : List Str} (hn : l.Nodup) (hs : ∀ s ∈ l, hasSub s word = true) : l.length ≤ 7 :=
  pieces_len (W := cp word) (by show word.cps.toList.length ≤ 3; rw [Array.length_toList]; exact hw) hn fun s h => (has_iff s word).mp (hs s h)
theorem spIn_sub {sub : Str → Bool} {os l : List Str} {left : Str} (h : ∀ x ∈ l, sub x = true) : ∀ x ∈ spIn sub os l left, sub x = true := fun x hx => by
  rcases (mem_spIn os l).mp hx with q | q
  · exact h x q
  · exact q.1
theorem spFold_sub {sub : Str → Bool} {os made l : List Str} (h : ∀ x ∈ l, sub x = true) : ∀ x ∈ made.foldl (spIn sub os) l, sub x = true := fun x hx => by
  rcases (mem_spFold made l).mp hx with q | q
  · exact h x q
  · exact q.1
theorem fn_spell (G : G2 prog w mg mb P) {k : Nat} (g : List Rule) (K : Str → List Str) (word : Str) (body : List Str) (hw : word.length ≤ 3) (hb : ∀ s ∈ body, s.length ≤ 100) (hK : ∀ h, ∀ s ∈ K h, s.length ≤ 100) :
    FnOk (C2 prog w mg mb P) (k + 1) 62 [sD body, kD (headsOf g) K, .str word] (sD (spellF (fun p => hasSub p word) (optK g K) [""] body)) := by
  refine fn_intro (ps := ["body", "known", "word"]) (fnDef_of rfl rfl rfl rfl rfl rfl rfl (by ((intro vs h; rcases vs with _ | ⟨_, _ | ⟨_, _ | ⟨_, _ | ⟨_, _ | ⟨_, _ | ⟨_, _⟩⟩⟩⟩⟩⟩ <;> first | rfl | (simp at h; done)))) (by decide) rfl rfl rfl rfl rfl rfl) rfl fun A L s₀ Z₀ E hA hO hF => ?_
  have hsl : sizeLine = 16777216 := rfl
  refine ex_cons (xs_assign ((ev_list (evs_cons (ev_str _ (strOk_ofString _)) evs_nil rfl) (by show 1 ≤ sizeLine; decide)).cast (d' := sD [""]) rfl) rfl (hO _) rfl ?_)
  refine ex_cons (xs_for (k := 0) (fun i Γ' => ∃ made : List Str, (∀ s ∈ made, s.length ≤ 100) ∧ spellF (fun p => hasSub p word) (optK g K) made (body.drop i) = spellF (fun p => hasSub p word) (optK g K) [""] body ∧ Has Γ' [("made", .fz (sD made)), ("known", .fz (kD (headsOf g) K)), ("word", .fz (.str word))])
    (src_list (ds := body.map .str) hA.hd (ev_var rfl rfl)) (fun _ => rfl) ⟨[""], fun s hs => by rw [List.mem_singleton.mp hs]; decide, rfl, by (repeat (first | exact Has.nil _ | refine Has.add rfl ?_))⟩ (fun i Γ' hi hJ => ?_) (fun Γ' hJ => ?_))
  · have hi' : i < body.length := by simpa using hi
    rw [getD_map PyData.str hi']
    obtain ⟨made, hml, hme, hH⟩ := hJ
    have hbi := hb _ (List.getElem_mem hi')
    rw [List.drop_eq_getElem_cons hi'] at hme
    generalize body[i] = sy at *
    have hos : ∀ s ∈ optK g K sy, s.length ≤ 100 := fun s hs => by
      unfold optK at hs
      split at hs
      · exact hK _ s hs
      · rw [List.mem_singleton.mp hs]; exact hbi
    refine ⟨_, as_name rfl (hO _), ex_has hH.cons ?_⟩
    refine ex_cons (xs_new rfl (hO _) ?_)
    refine ex_cons (xs_for (k := 0) (fun a Γ' => Has Γ' [("longer", .own (((made.take a).foldl (spIn (fun p => hasSub p word) (optK g K sy)) []).map .str)), ("symbol", .fz (.str sy)), ("known", .fz (kD (headsOf g) K)), ("word", .fz (.str word))])
      (src_list (ds := made.map .str) hA.hd (ev_var rfl rfl)) (fun _ => rfl) (by (repeat (first | exact Has.nil _ | refine Has.add rfl ?_))) (fun a Γ' ha hJ => ?_) (fun Γ' hJ => ?_))
    · have ha' : a < made.length := by simpa using ha
      rw [getD_map PyData.str ha']
      have hst : (made.take (a + 1)).foldl (spIn (fun p => hasSub p word) (optK g K sy)) [] = spIn (fun p => hasSub p word) (optK g K sy) ((made.take a).foldl (spIn (fun p => hasSub p word) (optK g K sy)) []) made[a] := by
        rw [List.take_add_one, List.getElem?_eq_getElem ha', List.foldl_append]; rfl
      rw [hst]
      have hll := hml _ (List.getElem_mem ha')
      have hnd := spFold_nodup (sub := fun p => hasSub p word) (os := optK g K sy) (made.take a) [] .nil
      have hsb := spFold_sub (sub := fun p => hasSub p word) (os := optK g K sy) (made := made.take a) (l := []) (fun x hx => by cases hx)
      generalize (made.take a).foldl (spIn (fun p => hasSub p word) (optK g K sy)) [] = acc at *
      generalize made[a] = left at *
      refine ⟨_, as_name rfl (hO _), ex_has hJ.cons ?_⟩
      refine ex_cons (xs_for (k := 0) (fun b Γ' => Has Γ' [("longer", .own ((((optK g K sy).take b).foldl (fun l r => spStep (fun p => hasSub p word) l (left ++ r)) acc).map .str)), ("left", .fz (.str left)), ("symbol", .fz (.str sy)), ("known", .fz (kD (headsOf g) K)), ("word", .fz (.str word))])
        (src_list (ds := (optK g K sy).map .str) hA.hd ((e_get2 (ev_var rfl rfl) (ev_var rfl rfl) (ev_list (evs_cons (ev_var rfl rfl) evs_nil rfl) (by show 1 ≤ sizeLine; decide)) rfl rfl rfl rfl).cast (opt_data g K sy))) (fun _ => rfl) (by (repeat (first | exact Has.nil _ | refine Has.add rfl ?_))) (fun b Γ' hb hJ => ?_) (fun Γ' hJ => ?_))
      · have hb' : b < (optK g K sy).length := by simpa using hb
        rw [getD_map PyData.str hb']
        have hst : ((optK g K sy).take (b + 1)).foldl (fun l r => spStep (fun p => hasSub p word) l (left ++ r)) acc = spStep (fun p => hasSub p word) (((optK g K sy).take b).foldl (fun l r => spStep (fun p => hasSub p word) l (left ++ r)) acc) (left ++ (optK g K sy)[b]) := by
          rw [List.take_add_one, List.getElem?_eq_getElem hb', List.foldl_append]; rfl
        rw [hst]
        have hrl := hos _ (List.getElem_mem hb')
        have hnd2 : (((optK g K sy).take b).foldl (fun l r => spStep (fun p => hasSub p word) l (left ++ r)) acc).Nodup := spIn_nodup (sub := fun p => hasSub p word) (left := left) ((optK g K sy).take b) acc hnd
        have hsb2 : ∀ x ∈ ((optK g K sy).take b).foldl (fun l r => spStep (fun p => hasSub p word) l (left ++ r)) acc, hasSub x word = true := spIn_sub (sub := fun p => hasSub p word) (os := (optK g K sy).take b) (left := left) hsb
        have hl7 := sp_len hw hnd2 hsb2
        generalize ((optK g K sy).take b).foldl (fun l r => spStep (fun p => hasSub p word) l (left ++ r)) acc = lg at *
        generalize (optK g K sy)[b] = right at *
        refine ⟨_, as_name rfl (hO _), ex_has hJ.cons ?_⟩
        refine ex_cons (xs_assign (e_addS (ev_var rfl rfl) (ev_var rfl rfl) (by omega)) rfl (hO _) rfl ?_)
        refine ex_cons (xs_if (cd_and (c_inS hA (ev_var rfl rfl) (ev_var rfl rfl) rfl) fun _ => cd_and (c_notInL hA (ev_var rfl rfl) (ev_own rfl rfl) rfl) fun _ => cd_and0) (fun hc => ?_) (fun hc => ?_))
        · refine ex_cons (xs_append rfl rfl (by rw [List.length_map]; omega) (ev_var rfl rfl) rfl rfl rfl (ex_nil (ex_nil (Has.add ?_ (by (repeat (first | exact Has.nil _ | refine Has.add rfl ?_)))))))
          show some (Ent.own _) = some (Ent.own _)
          unfold spStep
          rw [if_pos (by rw [Bool.and_true] at hc; exact hc), List.map_append]; rfl
        · refine ex_nil (ex_nil (Has.add ?_ (by (repeat (first | exact Has.nil _ | refine Has.add rfl ?_)))))
          show some (Ent.own _) = some (Ent.own _)
          unfold spStep
          rw [if_neg (by rw [Bool.and_true] at hc; rw [hc]; decide)]
      · rw [show ((optK g K sy).map PyData.str).length = (optK g K sy).length by simp, List.take_length] at hJ
        exact ex_has hJ (ex_nil (by (repeat (first | exact Has.nil _ | refine Has.add rfl ?_))))
    · rw [show (made.map PyData.str).length = made.length by simp, List.take_length] at hJ
      refine ex_has hJ (ex_freeze (x := "longer") rfl (ex_cons (xs_assign (ev_var rfl rfl) rfl (hO _) rfl (ex_nil ⟨spSym (fun p => hasSub p word) (optK g K sy) made, fun s hs => ?_, hme, by (repeat (first | exact Has.nil _ | refine Has.add rfl ?_))⟩))))
      have := infix_len ((has_iff s word).mp (mem_spSym.mp hs).1)
      omega
  · obtain ⟨made, hml, hme, hH⟩ := hJ
    rw [show (body.map PyData.str).length = body.length by simp, List.drop_length] at hme
    refine ex_has hH (ex_cons (xs_return (ev_var rfl rfl) ?_))
    show Out.ret _ = Out.ret _
    rw [← hme]; rfl

noncomputable def hitB (word : Str) (mine : List Str) (i j : Nat) : Bool := decide (i ≤ j) && mine.contains (Txt.slice word (some (i : Int)) (some (j : Int)))
theorem fn_chart (G : G2 prog w mg mb P) {k : Nat} (mine : List Str) (word : Str) (hw : word.length ≤ 3) :
    FnOk (C2 prog w mg mb P) (k + 1) 74 [sD mine, .str word] (.list (rowsD (word.length + 1) (hitB word mine))) := by
  refine fn_intro (ps := ["mine", "word"]) (fnDef_of rfl rfl rfl rfl rfl rfl rfl (by ((intro vs h; rcases vs with _ | ⟨_, _ | ⟨_, _ | ⟨_, _ | ⟨_, _ | ⟨_, _ | ⟨_, _⟩⟩⟩⟩⟩⟩ <;> first | rfl | (simp at h; done)))) (by decide) rfl rfl rfl rfl rfl rfl) rfl fun A L s₀ Z₀ E hA hO hF => ?_
  have hsl : sizeLine = 16777216 := rfl
  have hlw : lenD (.str word) = some word.length := rfl
  refine ex_cons (xs_new rfl (hO _) ?_)
  refine ex_cons (xs_for (k := 0) (fun i Γ' => Has Γ' [("chart", .own ((List.range i).map fun i => .list ((List.range (word.length + 1)).map fun j => .bool (hitB word mine i j)))), ("mine", .fz (sD mine)), ("word", .fz (.str word))])
    (s_range (n := word.length + 1) hA.hd (G.b rfl rfl PyProof.Rows.Boot.«range» (by decide)) ((e_addI (e_len (n := word.length) (G.b rfl rfl PyProof.Rows.Boot.«len» (by decide)) (ev_var rfl rfl) rfl hlw (by omega)) (ev_int 1)).cast (d' := .int ((word.length + 1 : Nat) : Int)) rfl) rfl (by omega)) (fun _ => rfl) (by (repeat (first | exact Has.nil _ | refine Has.add rfl ?_))) (fun i Γ' hi hJ => ?_) (fun Γ' hJ => ?_))
  · refine ⟨_, as_name rfl (hO _), ex_has hJ.cons ?_⟩
    refine ex_cons (xs_new rfl (hO _) ?_)
    refine ex_cons (xs_for (k := 0) (fun j Γ' => Has Γ' [("row", .own ((List.range j).map fun j => .bool (hitB word mine i j))), ("i", .fz (.int (i : Int))), ("chart", .own ((List.range i).map fun i => .list ((List.range (word.length + 1)).map fun j => .bool (hitB word mine i j)))), ("mine", .fz (sD mine)), ("word", .fz (.str word))])
      (s_range (n := word.length + 1) hA.hd (G.b rfl rfl PyProof.Rows.Boot.«range» (by decide)) ((e_addI (e_len (n := word.length) (G.b rfl rfl PyProof.Rows.Boot.«len» (by decide)) (ev_var rfl rfl) rfl hlw (by omega)) (ev_int 1)).cast (d' := .int ((word.length + 1 : Nat) : Int)) rfl) rfl (by omega)) (fun _ => rfl) (by (repeat (first | exact Has.nil _ | refine Has.add rfl ?_))) (fun j Γ' hj hJ => ?_) (fun Γ' hJ => ?_))
    · refine ⟨_, as_name rfl (hO _), ex_has hJ.cons ?_⟩
      refine ex_cons (xs_assign ((ev_and (b := mine.contains (Txt.slice word (some (i : Int)) (some (j : Int)))) (e_geI hA (ev_var rfl rfl) (ev_var rfl rfl)) fun hb => ev_op1 (e_inL hA (e_sliceS (ev_var rfl rfl) (ev_var rfl rfl) (ev_var rfl rfl) (by omega) ?_) (ev_var rfl rfl) rfl)).cast (d' := .bool (hitB word mine i j)) ?_) rfl (hO _) rfl ?_)
      · have : i ≤ j := by have := of_decide_eq_true hb; omega
        exact slice_ok this (by omega)
      · unfold hitB
        congr 2
        simp only [decide_eq_decide]; omega
      · refine ex_cons (xs_append rfl rfl (by simp; omega) (ev_var rfl rfl) rfl rfl rfl (ex_nil (Has.add ?_ (by (repeat (first | exact Has.nil _ | refine Has.add rfl ?_))))))
        show some (Ent.own _) = some (Ent.own _)
        rw [List.range_succ, List.map_append]; rfl
    · refine ex_has hJ (ex_freeze (x := "row") rfl (ex_cons (xs_append rfl rfl (by simp; omega) (ev_var rfl rfl) rfl rfl rfl (ex_nil (Has.add ?_ (by (repeat (first | exact Has.nil _ | refine Has.add rfl ?_))))))))
      show some (Ent.own _) = some (Ent.own _)
      rw [show List.range (i + 1) = List.range i ++ [i] from List.range_succ, List.map_append]; rfl
  · exact ex_has hJ (ex_freeze (x := "chart") rfl (ex_cons (xs_return (ev_var rfl rfl) rfl)))
end
end

section
set_option autoImplicit false
set_option linter.unusedVariables false
set_option maxRecDepth 100000
open PySem PyProof.Rows PySem.W

section
variable {prog : Program} {w : World} {mg mb : Str → Option Value} {P : Params}
theorem fn_known (G : G2 prog w mg mb P) {k : Nat} (g : List Rule) (word : Str) (hw : word.length ≤ 3) (hg : g.length ≤ 100) (hb : ∀ r ∈ g, ∀ s ∈ r.2, s.length ≤ 100) (hok : ∀ h ∈ headsOf g, PyData.strOk h = true) :
    FnOk (C2 prog w mg mb P) (k + 1 + 1) 67 [gD g, .str word] (kD (headsOf g) (knownN (fun p => hasSub p word) g 14)) := by
  refine fn_intro (ps := ["g", "word"]) (fnDef_of rfl rfl rfl rfl rfl rfl rfl (by ((intro vs h; rcases vs with _ | ⟨_, _ | ⟨_, _ | ⟨_, _ | ⟨_, _ | ⟨_, _ | ⟨_, _⟩⟩⟩⟩⟩⟩ <;> first | rfl | (simp at h; done)))) (by decide) rfl rfl rfl rfl rfl rfl) rfl fun A L s₀ Z₀ E hA hO hF => ?_
  have hsl : sizeLine = 16777216 := rfl
  have hnd : (headsOf g).Nodup := dd_nodup _
  have hhl : (headsOf g).length ≤ 100 := by
    have := dd_len (g.map (·.1)); unfold headsOf; simp only [List.length_map] at this; omega
  have e0 : cp "" = [] := by decide
  have h0 : (fun p => hasSub p word) "" = true := (has_iff "" word).mpr (by rw [e0]; exact List.nil_infix)
  refine ex_cons (xs_assign ((e_dict (kds := g.map fun r => (r.1, PyData.list [])) hA.hd (G.b rfl rfl PyProof.Rows.Boot.«dict» (by decide)) ((e_map g rD (fun r => .tuple [.str r.1, .list []]) ⟨rfl, rfl, rfl, rfl⟩ (src_list (ds := g.map rD) hA.hd (ev_var rfl rfl)) (fun _ => rfl) (by omega) fun L s₀ Z₀ r own hr => ?_).cast (by rw [List.map_map]; rfl)) rfl (by rw [List.length_map]; omega)).cast (d' := kD (headsOf g) (knownN (fun p => hasSub p word) g 0)) (by rw [known_first]; rfl)) rfl (hO _) rfl ?_)
  · exact turn_all rfl rfl (own _ rfl) rfl rfl fun ds => ev_tuple (evs_cons (e_item (ev_var rfl rfl) (ev_int 0) rfl (by decide) (by decide) rfl) (evs_cons (ev_list evs_nil (by decide)) evs_nil rfl) rfl) (by show 2 ≤ sizeLine; decide)
  refine ex_cons (xs_for (k := 0) (fun t Γ' => Has Γ' [("known", .fz (kD (headsOf g) (knownN (fun p => hasSub p word) g t))), ("g", .fz (gD g)), ("word", .fz (.str word))])
    (s_range (n := 14) hA.hd (G.b rfl rfl PyProof.Rows.Boot.«range» (by decide)) (ev_int 14) rfl (by omega)) (fun _ => rfl) (by (repeat (first | exact Has.nil _ | refine Has.add rfl ?_))) (fun t Γ' ht hJ => ?_) (fun Γ' hJ => ex_has hJ (ex_cons (xs_return (ev_var rfl rfl) rfl))))
  refine ⟨_, as_name rfl (hO _), ex_has hJ.cons ?_⟩
  have hinv0 := known_inv (sub := fun p => hasSub p word) (g := g) h0 t
  show Ex _ _ _ _ _ _ _ _ _
  refine ex_cons (xs_for (k := 0) (fun i Γ' => Has Γ' [("known", .fz (kD (headsOf g) ((g.take i).foldl (turnR (fun p => hasSub p word) g) (knownN (fun p => hasSub p word) g t)))), ("g", .fz (gD g)), ("word", .fz (.str word))])
    (src_list (ds := g.map rD) hA.hd (ev_var rfl rfl)) (fun _ => rfl) (by (repeat (first | exact Has.nil _ | refine Has.add rfl ?_))) (fun i Γ' hi hJ => ?_) (fun Γ' hJ => ?_))
  · have hi' : i < g.length := by simpa using hi
    rw [getD_map rD hi']
    have hst : (g.take (i + 1)).foldl (turnR (fun p => hasSub p word) g) (knownN (fun p => hasSub p word) g t) = turnR (fun p => hasSub p word) g ((g.take i).foldl (turnR (fun p => hasSub p word) g) (knownN (fun p => hasSub p word) g t)) g[i] := by
      rw [List.take_add_one, List.getElem?_eq_getElem hi', List.foldl_append]; rfl
    rw [hst]
    have hinv := turn_fold_inv (sub := fun p => hasSub p word) (g := g) h0 (g.take i) _ (fun r hr => List.mem_of_mem_take hr) hinv0
    generalize (g.take i).foldl (turnR (fun p => hasSub p word) g) (knownN (fun p => hasSub p word) g t) = K at *
    have hri : g[i] ∈ g := List.getElem_mem hi'
    generalize g[i] = r at *
    have hin : r.1 ∈ headsOf g := mem_heads2.mpr ⟨r, hri, rfl⟩
    have hKl : ∀ h, ∀ s ∈ K h, s.length ≤ 100 := fun h s hs => by
      have := infix_len ((has_iff s word).mp (hinv.sb h s hs)); omega
    have hK7 : ∀ h, (K h).length ≤ 7 := fun h => sp_len hw (hinv.nd h) (hinv.sb h)
    have hm7 : (spellF (fun p => hasSub p word) (optK g K) [""] r.2).length ≤ 7 := sp_len hw (spellF_nodup _ _ (by simp)) (spellF_sub _ _ fun x hx => by rw [List.mem_singleton.mp hx]; exact h0)
    have hf7 : (freshK (fun p => hasSub p word) g K r).length ≤ 7 := Nat.le_trans (List.length_filter_le _ _) hm7
    have hm1 := hK7 r.1
    refine ⟨_, as_name rfl (hO _), ex_has hJ.cons ?_⟩
    refine ex_cons (xs_assign (e_getD (ev_var rfl rfl) (e_item (ev_var rfl rfl) (ev_int 0) rfl (by decide) (by decide) rfl) (kds_at hin)) rfl (hO _) rfl ?_)
    refine ex_cons (xs_assign (ev_call hA rfl (G.at rfl) rfl rfl (evs_cons (e_item (ev_var rfl rfl) (ev_int 1) rfl (by decide) (by decide) rfl) (evs_cons (ev_var rfl rfl) (evs_cons (ev_var rfl rfl) evs_nil rfl) rfl) rfl) rfl (fn_spell G g K word r.2 hw (hb r hri) hKl)) rfl (hO _) rfl ?_)
    refine ex_cons (xs_filter (spellF (fun p => hasSub p word) (optK g K) [""] r.2) .str (fun p => !(K r.1).contains p) .str rfl rfl (hO _) ⟨rfl, rfl, rfl, rfl⟩ (src_list (ds := (spellF (fun p => hasSub p word) (optK g K) [""] r.2).map .str) hA.hd (ev_var rfl rfl)) (fun _ => rfl) (by omega) (fun L s₀ Z₀ s own hs => ?_) ?_)
    · exact turn_if _ rfl rfl (own _ rfl) rfl rfl (fun ds => cds_one (c_notInL hA (ev_var rfl rfl) (ev_var rfl rfl) rfl)) fun ds _ => ev_var rfl rfl
    refine ex_cons (xs_assign ((e_dict (kds := kds (headsOf g) K ++ [(r.1, sD (K r.1 ++ freshK (fun p => hasSub p word) g K r))]) hA.hd (G.b rfl rfl PyProof.Rows.Boot.«dict» (by decide)) ((e_addL (e_items hA.hd (G.b rfl rfl PyProof.Rows.Boot.«list» (by decide)) (ev_var rfl rfl) rfl rfl ?_ ?_) (ev_list (evs_cons (ev_tuple (evs_cons (e_item (ev_var rfl rfl) (ev_int 0) rfl (by decide) (by decide) rfl) (evs_cons ((e_addL (a := (K r.1).map .str) (b := (freshK (fun p => hasSub p word) g K r).map .str) (ev_var rfl rfl) (ev_var rfl rfl) ?_).cast (d' := sD (K r.1 ++ freshK (fun p => hasSub p word) g K r)) ?_) evs_nil rfl) rfl) (by show 2 ≤ sizeLine; decide)) evs_nil rfl) (by show 1 ≤ sizeLine; decide)) ?_).cast ?_) rfl ?_).cast (d' := kD (headsOf g) (turnR (fun p => hasSub p word) g K r)) ?_) rfl (hO _) rfl (ex_nil (by (repeat (first | exact Has.nil _ | refine Has.add rfl ?_)))))
    · unfold kds; rw [List.length_map]; omega
    · intro q hq
      unfold kds at hq
      obtain ⟨h, hh, rfl⟩ := List.mem_map.mp hq
      exact hok h hh
    · simp only [List.length_map]; omega
    · unfold sD; rw [List.map_append]
    · unfold kds; simp only [List.length_map, List.length_cons, List.length_nil]; omega
    · rw [List.map_append]; rfl
    · unfold kds; simp only [List.length_append, List.length_map, List.length_cons, List.length_nil]; omega
    · rw [known_put hnd hin]; rfl
  · rw [show (g.map rD).length = g.length by simp, List.take_length] at hJ
    exact ex_has hJ (ex_nil (by (repeat (first | exact Has.nil _ | refine Has.add rfl ?_))))
end
end

section
set_option autoImplicit false
set_option linter.unusedVariables false
set_option maxRecDepth 100000
open PySem PyProof.Rows PySem.W

theorem join_cp (l : List Str) : cp (Str.join "" l) = l.flatMap cp := by
  induction l with
  | nil => rfl
  | cons a l ih =>
    cases l with
    | nil => simp [Str.join]
    | cons b r =>
      have h : Str.join "" (a :: b :: r) = a ++ "" ++ Str.join "" (b :: r) := rfl
      have e0 : cp "" = [] := by decide
      rw [h, cp_app, cp_app, ih, e0, List.append_nil]; rfl
theorem sl_cons (c : Nat) (W : List Nat) (i j : Nat) : sl (c :: W) (i + 1) (j + 1) = sl W i j := by
  unfold sl
  rw [List.drop_succ_cons, Nat.add_sub_add_right]
theorem flat_word : ∀ (toks : List Str), (∀ t ∈ toks, (cp t).length = 1) → (toks.flatMap cp).length = toks.length ∧ ∀ i (h : i < toks.length), cp toks[i] = sl (toks.flatMap cp) i (i + 1)
  | [], _ => ⟨rfl, fun i h => absurd h (Nat.not_lt_zero i)⟩
  | t :: ts, h => by
    obtain ⟨h1, h2⟩ := flat_word ts fun t ht => h t (List.mem_cons_of_mem _ ht)
    have ht := h t List.mem_cons_self
    obtain ⟨c, hc⟩ := List.length_eq_one_iff.mp ht
    have e : (t :: ts).flatMap cp = c :: ts.flatMap cp := by rw [List.flatMap_cons, hc]; rfl
    rw [e]
    refine ⟨by simp [h1], fun i hi => ?_⟩
    cases i with
    | zero => rw [List.getElem_cons_zero, hc]; rfl
    | succ i =>
      rw [List.getElem_cons_succ, sl_cons]
      exact h2 i (by simpa using hi)
theorem let_facts : ∀ i < 4, (cp (letS[i]?.getD "")).length = 1 := by decide +kernel
theorem sym_facts2 : ∀ i < 5, (cp (symS[i]?.getD "")).length = 1 ∧ (symS[i]?.getD "" : Str).length ≤ 1 := by decide +kernel
theorem head_facts2 : ∀ i < 2, (headS[i]?.getD "" : Str) ∈ headS := by decide +kernel
theorem let_one (x : Int) : (cp (letAt x)).length = 1 := let_facts _ (idx_lt x (by decide))
theorem sym_one (x : Int) : (cp (symAt x)).length = 1 := (sym_facts2 _ (idx_lt x (by decide))).1
theorem sym_small (x : Int) : (symAt x).length ≤ 1 := (sym_facts2 _ (idx_lt x (by decide))).2
theorem word_one (size x y z : Int) : ∀ t ∈ wordT size x y z, (cp t).length = 1 := fun t ht => by
  have := List.mem_of_mem_take ht
  simp only [List.mem_cons, List.not_mem_nil, or_false] at this
  rcases this with rfl | rfl | rfl <;> exact let_one _
theorem word_len (size x y z : Int) : (wordT size x y z).length ≤ 3 := by
  unfold wordT; rw [List.length_take]; simp; omega
theorem rule_sym (q : Quad) : ∀ s ∈ (ruleQ q).2, (cp s).length = 1 ∧ s.length ≤ 1 := fun s hs => by
  have := List.mem_of_mem_take hs
  simp only [List.mem_cons, List.not_mem_nil, or_false] at this
  rcases this with rfl | rfl | rfl
  · exact ⟨sym_one _, sym_small _⟩
  · exact ⟨sym_one _, sym_small _⟩
  · exact ⟨sym_one _, sym_small _⟩
theorem rule_head (q : Quad) : (ruleQ q).1 ∈ headS := head_facts2 _ (idx_lt q.1 (by decide))
theorem head_ok : ∀ s ∈ headS, PyData.strOk s = true := fun s hs => by
  simp only [headS, List.mem_cons, List.not_mem_nil, or_false] at hs
  rcases hs with rfl | rfl <;> exact strOk_ofString _

structure Ctx2 (g : List Rule) (toks : List Str) (word : Str) (W : List Nat) (K : Str → List Str) : Prop where
  wd : Word toks W
  cpw : cp word = W
  len : toks.length ≤ 3
  one : ∀ r ∈ g, ∀ s ∈ r.2, (cp s).length = 1
  inv : KInv (fun p => hasSub p word) g K
  cl : KClosed (fun p => hasSub p word) g K
section
variable {g : List Rule} {toks : List Str} {word : Str} {W : List Nat} {K : Str → List Str}
theorem Ctx2.wlen (X : Ctx2 g toks word W K) : word.length = toks.length := by
  rw [← X.wd.len, ← X.cpw]; show word.cps.size = word.cps.toList.length; simp
theorem Ctx2.hsub (X : Ctx2 g toks word W K) : ∀ p, (fun p => hasSub p word) p = true ↔ cp p <:+: W := fun p => by rw [← X.cpw]; exact has_iff p word
theorem ex_text (u : List Nat) : ∃ s : Str, cp s = u := ⟨⟨u.toArray⟩, by simp [cp]⟩
theorem Ctx2.tab (X : Ctx2 g toks word W K) : TabOk g toks W (spanT g W) := by
  classical
  refine ⟨fun h hh i j q => ?_, fun r hr i hi j hj => ?_⟩
  · unfold spanT at q
    have := of_decide_eq_true q
    exact ⟨this.1, by rw [← X.wd.len]; exact this.2.1, this.2.2⟩
  · have hs : Sound g toks W (spanT g W) := fun h hh i j q => by
      unfold spanT at q
      have := of_decide_eq_true q
      exact ⟨this.1, by rw [← X.wd.len]; exact this.2.1, this.2.2⟩
    obtain ⟨k, hk, h1, h2, h3⟩ := places_sound X.wd hs r.2 [i] (fun k hk => by rw [List.mem_singleton.mp hk]; exact hi) j hj
    rw [List.mem_singleton.mp hk] at h1 h3
    unfold spanT
    exact decide_eq_true ⟨h1, by rw [X.wd.len]; exact h2, r.2, hr, h3⟩
theorem Ctx2.hit (X : Ctx2 g toks word W K) {h : Str} (hh : h ∈ headsOf g) {i j : Nat} (hj : j ≤ toks.length) : spanT g W h i j = hitB word (K h) i j := by
  classical
  rw [Bool.eq_iff_iff]
  unfold spanT hitB
  rw [decide_eq_true_eq, Bool.and_eq_true, decide_eq_true_eq]
  have hjw : j ≤ word.length := by rw [X.wlen]; exact hj
  constructor
  · rintro ⟨h1, h2, h3⟩
    refine ⟨h1, con_iff.mpr ?_⟩
    have e := slice_cp h1 hjw
    rw [X.cpw] at e
    refine (known_iff X.hsub (fun u _ => ex_text u) X.cl X.inv.dr hh _ (by rw [e]; exact sl_infix _ _ _)).mpr ?_
    rw [e]; exact h3
  · rintro ⟨h1, h2⟩
    have e := slice_cp h1 hjw
    rw [X.cpw] at e
    have := (known_iff X.hsub (fun u _ => ex_text u) X.cl X.inv.dr hh _ (by rw [e]; exact sl_infix _ _ _)).mp (con_iff.mp h2)
    rw [e] at this
    exact ⟨h1, by rw [X.wd.len]; exact hj, this⟩
theorem Ctx2.whole (X : Ctx2 g toks word W K) {h : Str} (hh : h ∈ headsOf g) : spanT g W h 0 toks.length = (K h).contains word := by
  rw [X.hit hh (Nat.le_refl _)]
  unfold hitB
  rw [decide_eq_true (Nat.zero_le _), Bool.true_and]
  have e : Txt.slice word (some ((0 : Nat) : Int)) (some ((toks.length : Nat) : Int)) = word := str_ext (by
    have := slice_cp (x := word) (i := 0) (j := toks.length) (Nat.zero_le _) (by rw [X.wlen]; exact Nat.le_refl _)
    show cp _ = cp word
    rw [this]
    unfold sl
    rw [List.drop_zero, List.take_of_length_le]
    rw [X.cpw, X.wd.len]; exact Nat.le_refl _)
  rw [e]
theorem Ctx2.want (X : Ctx2 g toks word W K) : tabD (headsOf g) (toks.length + 1) (spanT g W) = dD ((headsOf g).map fun h => (h, PyData.list (rowsD (word.length + 1) (hitB word (K h))))) := by
  rw [X.wlen]
  unfold tabD rowsD
  congr 1
  refine List.map_congr_left fun x hx => ?_
  congr 2
  refine List.map_congr_left fun i hi => ?_
  congr 1
  refine List.map_congr_left fun j hj => ?_
  rw [X.hit hx (by have := List.mem_range.mp hj; omega)]
theorem Ctx2.ends (X : Ctx2 g toks word W K) {start : Nat} (hs : start ≤ toks.length) {query : List Str} (hq : ∀ s ∈ query, (cp s).length = 1) (hne : query ≠ []) :
    placesF g (spanT g W) toks [start] query = ((List.range (toks.length + 1 - start)).filter fun x => (spellF (fun p => hasSub p word) (optK g K) [""] query).contains (Txt.slice word (some (start : Int)) (some ((start + x : Nat) : Int)))).map (start + ·) := by
  have hmem := fun j => X.tab.places X.wd X.one hq (i := start) (j := j) hs
  have hlast : ∃ p : Nat → Bool, placesF g (spanT g W) toks [start] query = (List.range (toks.length + 1)).filter p := by
    unfold placesF
    rcases List.eq_nil_or_concat query with q | ⟨l, s, q⟩
    · exact absurd q hne
    · rw [q, List.concat_eq_append, List.foldl_append]
      exact ⟨_, rfl⟩
  obtain ⟨p, hp⟩ := hlast
  have hpj : ∀ j, j ≤ toks.length → (p j = true ↔ start ≤ j ∧ DerB g query (sl W start j)) := fun j hj => by
    have := hmem j
    rw [hp, List.mem_filter, List.mem_range] at this
    constructor
    · intro q
      obtain ⟨a, b, c⟩ := this.mp ⟨by omega, q⟩
      exact ⟨a, c⟩
    · rintro ⟨a, c⟩
      exact (this.mpr ⟨a, hj, c⟩).2
  rw [hp]
  have e : toks.length + 1 = start + (toks.length + 1 - start) := by omega
  conv => lhs; rw [e]
  rw [List.range_add, List.filter_append, List.filter_map]
  have h0 : (List.range start).filter p = [] := by
    rw [List.filter_eq_nil_iff]
    intro j hj q
    have hj := List.mem_range.mp hj
    have := ((hpj j (by omega)).mp q).1
    omega
  rw [h0, List.nil_append]
  congr 1
  refine List.filter_congr fun x hx => ?_
  have hx := List.mem_range.mp hx
  simp only [Function.comp]
  rw [Bool.eq_iff_iff, hpj _ (by omega), con_iff]
  have es := slice_cp (x := word) (i := start) (j := start + x) (by omega) (by rw [X.wlen]; omega)
  rw [X.cpw] at es
  rw [spell_iff X.hsub (fun u _ => ex_text u) X.cl X.inv.dr query _ (by rw [es]; exact sl_infix _ _ _), es]
  exact ⟨fun q => q.2, fun q => ⟨by omega, q⟩⟩
end
end

section
set_option autoImplicit false
set_option linter.unusedVariables false
set_option maxRecDepth 100000
set_option maxHeartbeats 4000000
open PySem PyProof.Rows PySem.W

theorem dOk_rows (n : Nat) (f : Nat → Nat → Bool) : DOk (.list (rowsD n f)) 2 := DOk.list fun x hx => by
  unfold rowsD at hx
  obtain ⟨i, _, rfl⟩ := List.mem_map.mp hx
  exact DOk.list fun y hy => by
    obtain ⟨j, _, rfl⟩ := List.mem_map.mp hy
    exact DOk.flat rfl
noncomputable def chartD (g : List Rule) (word : Str) (K : Str → List Str) : List (Str × PyData) := (headsOf g).map fun h => (h, PyData.list (rowsD (word.length + 1) (hitB word (K h))))
theorem chart_keys (g : List Rule) (word : Str) (K : Str → List Str) : (chartD g word K).map (·.1) = headsOf g := by
  unfold chartD; rw [List.map_map]; simp [Function.comp_def]

section
variable {prog : Program} {w : World} {mg mb : Str → Option Value} {P : Params}
theorem fn_law2 (G : G2 prog w mg mb P) {k : Nat} (xs : List Int) (hl : xs.length ≤ 63) : FnOk (C2 prog w mg mb P) (k + 1 + 1 + 1 + 1) 81 [.list (xs.map .int)] (.bool true) := by
  refine fn_intro (ps := ["script"]) (fnDef_of rfl rfl rfl rfl rfl rfl rfl (by ((intro vs h; rcases vs with _ | ⟨_, _ | ⟨_, _ | ⟨_, _ | ⟨_, _ | ⟨_, _ | ⟨_, _⟩⟩⟩⟩⟩⟩ <;> first | rfl | (simp at h; done)))) (by decide) rfl rfl rfl rfl rfl rfl) rfl fun A L s₀ Z₀ E hA hO hF => ?_
  have hsl : sizeLine = 16777216 := rfl
  refine ex_cons (xs_if (c_lt hA (e_len (n := xs.length) (G.b rfl rfl PyProof.Rows.Boot.«len» (by decide)) (ev_var rfl rfl) rfl (by simp [lenD]) (by omega)) (ev_int 24)) (fun hb => ?_) (fun hb => ?_))
  · exact ex_cons (xs_return (ev_bool true) rfl)
  have hlen : 24 ≤ xs.length := by have := of_decide_eq_false hb; omega
  refine ex_nil ?_
  have sx : ∀ i, i < 24 → (xs.map PyData.int)[((i : Nat) : Int).toNat]? = some (.int (xs.getD i 0)) := fun i hi => by
    rw [Int.toNat_natCast, List.getElem?_map, List.getElem?_eq_getElem (by omega), List.getD_eq_getElem?_getD, List.getElem?_eq_getElem (by omega)]; rfl
  generalize hxg : (fun i => xs.getD i 0) = x at *
  have sx : ∀ i, i < 24 → (xs.map PyData.int)[((i : Nat) : Int).toNat]? = some (.int (x i)) := fun i hi => by rw [← hxg]; exact sx i hi
  refine ex_cons (xs_assign ((ev_list (evs_cons (ev_tuple (evs_cons (e_item (ev_var rfl rfl) (ev_int 0) rfl (by decide) (by decide) (sx 0 (by decide))) (evs_cons (e_item (ev_var rfl rfl) (ev_int 1) rfl (by decide) (by decide) (sx 1 (by decide))) (evs_cons (e_item (ev_var rfl rfl) (ev_int 2) rfl (by decide) (by decide) (sx 2 (by decide))) (evs_cons (e_item (ev_var rfl rfl) (ev_int 3) rfl (by decide) (by decide) (sx 3 (by decide))) evs_nil rfl) rfl) rfl) rfl) (by show 4 ≤ sizeLine; decide))
    (evs_cons (ev_tuple (evs_cons (e_item (ev_var rfl rfl) (ev_int 4) rfl (by decide) (by decide) (sx 4 (by decide))) (evs_cons (e_item (ev_var rfl rfl) (ev_int 5) rfl (by decide) (by decide) (sx 5 (by decide))) (evs_cons (e_item (ev_var rfl rfl) (ev_int 6) rfl (by decide) (by decide) (sx 6 (by decide))) (evs_cons (e_item (ev_var rfl rfl) (ev_int 7) rfl (by decide) (by decide) (sx 7 (by decide))) evs_nil rfl) rfl) rfl) rfl) (by show 4 ≤ sizeLine; decide))
    (evs_cons (ev_tuple (evs_cons (e_item (ev_var rfl rfl) (ev_int 8) rfl (by decide) (by decide) (sx 8 (by decide))) (evs_cons (e_item (ev_var rfl rfl) (ev_int 9) rfl (by decide) (by decide) (sx 9 (by decide))) (evs_cons (e_item (ev_var rfl rfl) (ev_int 10) rfl (by decide) (by decide) (sx 10 (by decide))) (evs_cons (e_item (ev_var rfl rfl) (ev_int 11) rfl (by decide) (by decide) (sx 11 (by decide))) evs_nil rfl) rfl) rfl) rfl) (by show 4 ≤ sizeLine; decide))
    (evs_cons (ev_tuple (evs_cons (e_item (ev_var rfl rfl) (ev_int 12) rfl (by decide) (by decide) (sx 12 (by decide))) (evs_cons (e_item (ev_var rfl rfl) (ev_int 13) rfl (by decide) (by decide) (sx 13 (by decide))) (evs_cons (e_item (ev_var rfl rfl) (ev_int 14) rfl (by decide) (by decide) (sx 14 (by decide))) (evs_cons (e_item (ev_var rfl rfl) (ev_int 15) rfl (by decide) (by decide) (sx 15 (by decide))) evs_nil rfl) rfl) rfl) rfl) (by show 4 ≤ sizeLine; decide)) evs_nil rfl) rfl) rfl) rfl) (by show 4 ≤ sizeLine; decide)).cast (d' := .list ([(x 0, x 1, x 2, x 3), (x 4, x 5, x 6, x 7), (x 8, x 9, x 10, x 11), (x 12, x 13, x 14, x 15)].map qD)) rfl) rfl (hO _) rfl ?_)
  have hq4 : ([(x 0, x 1, x 2, x 3), (x 4, x 5, x 6, x 7), (x 8, x 9, x 10, x 11), (x 12, x 13, x 14, x 15)] : List Quad).length = 4 := rfl
  generalize ([(x 0, x 1, x 2, x 3), (x 4, x 5, x 6, x 7), (x 8, x 9, x 10, x 11), (x 12, x 13, x 14, x 15)] : List Quad) = qs at *
  refine ex_cons (xs_assign (ev_call hA rfl (G.at rfl) rfl rfl (evs_cons (ev_var rfl rfl) evs_nil rfl) rfl (fn_grammar G qs (by omega))) rfl (hO _) rfl ?_)
  refine ex_cons (xs_assign (ev_call hA rfl (G.at rfl) rfl rfl (evs_cons (ev_var rfl rfl) evs_nil rfl) rfl (fn_grammar G qs (by omega))) rfl (hO _) rfl ?_)
  refine ex_cons (xs_assign (ev_call hA rfl (G.at rfl) rfl rfl (evs_cons (e_item (ev_var rfl rfl) (ev_int 16) rfl (by decide) (by decide) (sx 16 (by decide))) (evs_cons (e_item (ev_var rfl rfl) (ev_int 17) rfl (by decide) (by decide) (sx 17 (by decide))) (evs_cons (e_item (ev_var rfl rfl) (ev_int 18) rfl (by decide) (by decide) (sx 18 (by decide))) (evs_cons (e_item (ev_var rfl rfl) (ev_int 19) rfl (by decide) (by decide) (sx 19 (by decide))) evs_nil rfl) rfl) rfl) rfl) rfl (fn_word G _ _ _ _)) rfl (hO _) rfl ?_)
  refine ex_cons (xs_assign (ev_call hA rfl (G.at rfl) rfl rfl (evs_cons (e_item (ev_var rfl rfl) (ev_int 16) rfl (by decide) (by decide) (sx 16 (by decide))) (evs_cons (e_item (ev_var rfl rfl) (ev_int 17) rfl (by decide) (by decide) (sx 17 (by decide))) (evs_cons (e_item (ev_var rfl rfl) (ev_int 18) rfl (by decide) (by decide) (sx 18 (by decide))) (evs_cons (e_item (ev_var rfl rfl) (ev_int 19) rfl (by decide) (by decide) (sx 19 (by decide))) evs_nil rfl) rfl) rfl) rfl) rfl (fn_word G _ _ _ _)) rfl (hO _) rfl ?_)
  have hone := word_one (x 16) (x 17) (x 18) (x 19)
  have hwl := word_len (x 16) (x 17) (x 18) (x 19)
  generalize wordT (x 16) (x 17) (x 18) (x 19) = toks at *
  have hjl : (Str.join "" toks).length = toks.length := by
    have := (flat_word toks hone).1
    rw [← join_cp] at this
    rw [← this]; show (Str.join "" toks).cps.size = (Str.join "" toks).cps.toList.length; simp
  have hsum : (toks.map (·.length)).sum ≤ 3 := by
    have key : ∀ l : List Str, (∀ t ∈ l, (cp t).length = 1) → (l.map (·.length)).sum = l.length := by
      intro l
      induction l with
      | nil => intro _; rfl
      | cons a l ih =>
        intro h
        have h1 := h a List.mem_cons_self
        have h2 := ih fun t ht => h t (List.mem_cons_of_mem _ ht)
        have h3 : a.length = 1 := by rw [← h1]; show a.cps.size = a.cps.toList.length; simp
        simp only [List.map_cons, List.sum_cons, List.length_cons]; omega
    rw [key toks hone]; exact hwl
  have e0 : (Str.ofString "").length = 0 := by decide
  refine ex_cons (xs_assign (e_join (ts := toks) (ev_str _ (strOk_ofString _)) (ev_var rfl rfl) rfl rfl rfl (by rw [e0]; omega)) rfl (hO _) rfl ?_)
  have hsy : ∀ v : Int, (idx v 5 : Int) < 2 ^ 63 := fun v => by have := idx_lt v (n := 5) (by omega); omega
  have esy : ∀ {e : Expr} {kk : Nat} {p p1 p2 p3 : Pos} {env : Env} {Γ : Tab} {μ : Bool} (_ : isGlob env "_law_symbols" = true) (v : Int) (_ : Ev (C2 prog w mg mb P) A env Γ e false (.int v)), Ev (C2 prog w mg mb P) A env Γ (.Subscript (.Name "_law_symbols" p) (.BinOp e .Mod (.Constant (.int 5) kk p1) p2) p3) μ (.str (symAt v)) := fun hg v h =>
    e_item (ev_glob hg (G.at rfl) top_symS) ((e_mod h (ev_int 5) (by decide)).cast (d' := .int ((idx v 5 : Nat) : Int)) (by rw [← fmod_idx v (n := 5) (by omega)]; rfl)) rfl (by omega) (hsy v) (at_tab symS 5 rfl (by omega) v)
  refine ex_cons (xs_assign ((ev_list (evs_cons (esy rfl (x 21) (e_item (ev_var rfl rfl) (ev_int 21) rfl (by decide) (by decide) (sx 21 (by decide)))) (evs_cons (esy rfl (x 22) (e_item (ev_var rfl rfl) (ev_int 22) rfl (by decide) (by decide) (sx 22 (by decide)))) evs_nil rfl) rfl) (by show 2 ≤ sizeLine; decide)).cast (d' := sD [symAt (x 21), symAt (x 22)]) rfl) rfl (hO _) rfl ?_)
  refine ex_cons (xs_assign ((ev_list (evs_cons (esy rfl (x 21) (e_item (ev_var rfl rfl) (ev_int 21) rfl (by decide) (by decide) (sx 21 (by decide)))) (evs_cons (esy rfl (x 22) (e_item (ev_var rfl rfl) (ev_int 22) rfl (by decide) (by decide) (sx 22 (by decide)))) evs_nil rfl) rfl) (by show 2 ≤ sizeLine; decide)).cast (d' := sD [symAt (x 21), symAt (x 22)]) rfl) rfl (hO _) rfl ?_)
  have hst := idx_lt (x 20) (n := toks.length + 1) (by omega)
  have hW := flat_word toks hone
  have hcw : cp (Str.join "" toks) = toks.flatMap cp := join_cp toks
  generalize hwd : Str.join "" toks = word at *
  refine ex_cons (xs_assign ((e_mod (e_item (ev_var rfl rfl) (ev_int 20) rfl (by decide) (by decide) (sx 20 (by decide))) (e_addI (e_len (n := word.length) (G.b rfl rfl PyProof.Rows.Boot.«len» (by decide)) (ev_var rfl rfl) rfl rfl (by omega)) (ev_int 1)) (by omega)).cast (d' := .int ((idx (x 20) (toks.length + 1) : Nat) : Int)) (by rw [hjl, ← fmod_idx _ (by omega)]; rfl)) rfl (hO _) rfl ?_)
  generalize idx (x 20) (toks.length + 1) = start at *
  have hg4 : (qs.map ruleQ).length = 4 := by rw [List.length_map]; exact hq4
  have hsym : ∀ r ∈ qs.map ruleQ, ∀ s ∈ r.2, (cp s).length = 1 ∧ s.length ≤ 1 := fun r hr => by
    obtain ⟨q, _, rfl⟩ := List.mem_map.mp hr
    exact rule_sym q
  have hhd : ∀ h ∈ headsOf (qs.map ruleQ), h ∈ headS := fun h hh => by
    obtain ⟨r, hr, rfl⟩ := mem_heads2.mp hh
    obtain ⟨q, _, rfl⟩ := List.mem_map.mp hr
    exact rule_head q
  generalize qs.map ruleQ = g at *
  have hnd : (headsOf g).Nodup := dd_nodup _
  have hh2 : (headsOf g).length ≤ 2 := nodup_len (headsOf g) headS hnd hhd
  have hh0 : 0 < (headsOf g).length := by
    have hr : g[0]'(by omega) ∈ g := List.getElem_mem _
    exact List.length_pos_of_mem (mem_heads2.mpr ⟨_, hr, rfl⟩)
  have hw3 : word.length ≤ 3 := by omega
  have ee0 : cp "" = [] := by decide
  have hsub0 : (fun p => hasSub p word) "" = true := (has_iff "" word).mpr (by rw [ee0]; exact List.nil_infix)
  have X : Ctx2 g toks word (toks.flatMap cp) (knownN (fun p => hasSub p word) g 14) := ⟨⟨hW.1, hW.2⟩, hcw, hwl, fun r hr s hs => (hsym r hr s hs).1, known_inv hsub0 14,
    known_closed (b := 0) hsub0 hh2 fun n h => sp_len hw3 ((known_inv hsub0 n).nd h) ((known_inv hsub0 n).sb h)⟩
  refine ex_cons (xs_assign (ev_call hA rfl (G.at rfl) rfl rfl (evs_cons (ev_var rfl rfl) (evs_cons (ev_var rfl rfl) evs_nil rfl) rfl) rfl (fn_known G g word hw3 (by omega) (fun r hr s hs => by have := (hsym r hr s hs).2; omega) fun h hh => head_ok h (hhd h hh))) rfl (hO _) rfl ?_)
  have hKl : ∀ h, ∀ s ∈ knownN (fun p => hasSub p word) g 14 h, s.length ≤ 100 := fun h s hs => by
    have := infix_len ((has_iff s word).mp (X.inv.sb h s hs)); omega
  generalize knownN (fun p => hasSub p word) g 14 = K at *
  have hkk : (kds (headsOf g) K).length ≤ 100 := by unfold kds; rw [List.length_map]; omega
  refine ex_cons (xs_assign ((e_keys hA.hd (G.b rfl rfl PyProof.Rows.Boot.«list» (by decide)) (ev_var rfl rfl) rfl (by omega) ?_).cast (d' := sD (headsOf g)) ?_) rfl (hO _) rfl ?_)
  · intro q hq
    unfold kds at hq
    obtain ⟨h, hh, rfl⟩ := List.mem_map.mp hq
    exact head_ok h (hhd h hh)
  · unfold sD
    congr 1
    have := congrArg (List.map PyData.str) (kds_keys (headsOf g) K)
    rw [List.map_map] at this
    exact this
  refine ex_cons (xs_if (c_neSame (d := sD (headsOf g)) hA (ev_call hA rfl (G.at rfl) rfl rfl (evs_cons (ev_var rfl rfl) evs_nil rfl) rfl (fn_heads_of G g (by omega))) (ev_var rfl rfl) (dOk_sD _) (by decide)) (fun hb => by cases hb) fun _ => ex_nil ?_)
  refine ex_cons (xs_new rfl (hO _) ?_)
  refine ex_join (fun Γ' => Has Γ' [("pairs", .own ((chartD g word K).map fun q => .tuple [.str q.1, q.2])), ("heads", .fz (sD (headsOf g))), ("known", .fz (kD (headsOf g) K)), ("start", .fz (.int (start : Int))), ("same_query", .fz (sD [symAt (x 21), symAt (x 22)])), ("query", .fz (sD [symAt (x 21), symAt (x 22)])), ("word", .fz (.str word)), ("same_letters", .fz (sD toks)), ("letters", .fz (sD toks)), ("same_g", .fz (gD g)), ("g", .fz (gD g)), ("script", .fz (.list (xs.map .int)))])
    (xs_for (k := 0) (fun i Γ' => Has Γ' [("pairs", .own (((chartD g word K).take i).map fun q => .tuple [.str q.1, q.2])), ("heads", .fz (sD (headsOf g))), ("known", .fz (kD (headsOf g) K)), ("start", .fz (.int (start : Int))), ("same_query", .fz (sD [symAt (x 21), symAt (x 22)])), ("query", .fz (sD [symAt (x 21), symAt (x 22)])), ("word", .fz (.str word)), ("same_letters", .fz (sD toks)), ("letters", .fz (sD toks)), ("same_g", .fz (gD g)), ("g", .fz (gD g)), ("script", .fz (.list (xs.map .int)))])
      (src_list (ds := (headsOf g).map .str) hA.hd (ev_var rfl rfl)) (fun _ => rfl) (by (repeat (first | exact Has.nil _ | refine Has.add rfl ?_))) (fun i Γ' hi hJ => ?_) (fun Γ' hJ => ?_)) (fun Γ' hG => ex_has hG ?_)
  · have hi' : i < (headsOf g).length := by simpa using hi
    rw [getD_map PyData.str hi']
    have hci : i < (chartD g word K).length := by unfold chartD; rw [List.length_map]; exact hi'
    have hcg : (chartD g word K)[i] = ((headsOf g)[i], PyData.list (rowsD (word.length + 1) (hitB word (K (headsOf g)[i])))) := by simp [chartD]
    have hst : ((chartD g word K).take (i + 1)).map (fun q => PyData.tuple [.str q.1, q.2]) = ((chartD g word K).take i).map (fun q => PyData.tuple [.str q.1, q.2]) ++ [.tuple [.str (headsOf g)[i], .list (rowsD (word.length + 1) (hitB word (K (headsOf g)[i])))]] := by
      rw [List.take_add_one, List.getElem?_eq_getElem hci, List.map_append, hcg]; rfl
    rw [hst]
    have hmem := List.getElem_mem hi'
    generalize (headsOf g)[i] = h at *
    refine ⟨_, as_name rfl (hO _), ex_has hJ.cons ?_⟩
    exact ex_cons (xs_append rfl rfl (by rw [List.length_map, List.length_take]; omega) (ev_tuple (evs_cons (ev_var rfl rfl) (evs_cons (ev_call hA rfl (G.at rfl) rfl rfl (evs_cons (e_getD (ev_var rfl rfl) (ev_var rfl rfl) (kds_at hmem)) (evs_cons (ev_var rfl rfl) evs_nil rfl) rfl) rfl (fn_chart G (K h) word hw3)) evs_nil rfl) rfl) (by show 2 ≤ sizeLine; decide)) rfl rfl rfl (ex_nil (by (repeat (first | exact Has.nil _ | refine Has.add rfl ?_)))))
  · have hcl : ((headsOf g).map PyData.str).length = (chartD g word K).length := by unfold chartD; simp
    rw [hcl, List.take_length] at hJ
    exact hJ
  have hcn : ((chartD g word K).map (·.1)).Nodup := by rw [chart_keys]; exact hnd
  refine ex_freeze (x := "pairs") rfl ?_
  refine ex_cons (xs_assign ((e_dict (kds := chartD g word K) hA.hd (G.b rfl rfl PyProof.Rows.Boot.«dict» (by decide)) (ev_var rfl rfl) rfl (by unfold chartD; rw [List.length_map]; omega)).cast (d' := dD (chartD g word K)) (by rw [storeAll_nodup _ [] (by rw [List.nil_append]; exact hcn), List.nil_append])) rfl (hO _) rfl ?_)
  refine ex_cons (xs_assign (ev_call hA rfl (G.at rfl) rfl rfl (evs_cons (ev_var rfl rfl) (evs_cons (ev_var rfl rfl) evs_nil rfl) rfl) rfl (fn_span G g toks X.wd X.one (by omega) (by omega))) rfl (hO _) rfl ?_)
  have hdk : ∀ q ∈ chartD g word K, DOk q.2 2 := fun q hq => by
    unfold chartD at hq
    obtain ⟨h, _, rfl⟩ := List.mem_map.mp hq
    exact dOk_rows _ _
  refine ex_cons (xs_if (c_neDict (kds := chartD g word K) hA ((ev_var rfl rfl).cast X.want) (ev_var rfl rfl) hcn hdk (by decide)) (fun hb => by cases hb) fun _ => ex_nil ?_)
  refine ex_join (fun Γ' => Has Γ' [("tables", .fz (tabD (headsOf g) (toks.length + 1) (spanT g (toks.flatMap cp)))), ("want", .fz (dD (chartD g word K))), ("heads", .fz (sD (headsOf g))), ("known", .fz (kD (headsOf g) K)), ("start", .fz (.int (start : Int))), ("same_query", .fz (sD [symAt (x 21), symAt (x 22)])), ("query", .fz (sD [symAt (x 21), symAt (x 22)])), ("word", .fz (.str word)), ("same_letters", .fz (sD toks)), ("letters", .fz (sD toks)), ("same_g", .fz (gD g)), ("g", .fz (gD g)), ("script", .fz (.list (xs.map .int)))])
    (xs_for (k := 0) (fun i Γ' => Has Γ' [("tables", .fz (tabD (headsOf g) (toks.length + 1) (spanT g (toks.flatMap cp)))), ("want", .fz (dD (chartD g word K))), ("heads", .fz (sD (headsOf g))), ("known", .fz (kD (headsOf g) K)), ("start", .fz (.int (start : Int))), ("same_query", .fz (sD [symAt (x 21), symAt (x 22)])), ("query", .fz (sD [symAt (x 21), symAt (x 22)])), ("word", .fz (.str word)), ("same_letters", .fz (sD toks)), ("letters", .fz (sD toks)), ("same_g", .fz (gD g)), ("g", .fz (gD g)), ("script", .fz (.list (xs.map .int)))])
      (src_list (ds := (headsOf g).map .str) hA.hd (ev_var rfl rfl)) (fun _ => rfl) (by (repeat (first | exact Has.nil _ | refine Has.add rfl ?_))) (fun i Γ' hi hJ => ?_) (fun Γ' hJ => hJ)) (fun Γ' hG => ex_has hG ?_)
  · have hi' : i < (headsOf g).length := by simpa using hi
    rw [getD_map PyData.str hi']
    have hmem := List.getElem_mem hi'
    generalize (headsOf g)[i] = h at *
    refine ⟨_, as_name rfl (hO _), ex_has hJ.cons ?_⟩
    refine ex_cons (xs_for (k := 0) (fun a Γ'' => Has Γ'' [("tables", .fz (tabD (headsOf g) (toks.length + 1) (spanT g (toks.flatMap cp)))), ("want", .fz (dD (chartD g word K))), ("heads", .fz (sD (headsOf g))), ("known", .fz (kD (headsOf g) K)), ("start", .fz (.int (start : Int))), ("same_query", .fz (sD [symAt (x 21), symAt (x 22)])), ("query", .fz (sD [symAt (x 21), symAt (x 22)])), ("word", .fz (.str word)), ("same_letters", .fz (sD toks)), ("letters", .fz (sD toks)), ("same_g", .fz (gD g)), ("g", .fz (gD g)), ("script", .fz (.list (xs.map .int)))])
      (src_list (ds := rowsD (toks.length + 1) (spanT g (toks.flatMap cp) h)) hA.hd (e_getD (ev_var rfl rfl) (ev_var rfl rfl) (tab_at hmem))) (fun _ => rfl) (by (repeat (first | exact Has.nil _ | refine Has.add rfl ?_))) (fun a Γ'' ha hJ2 => ?_) (fun Γ'' hJ2 => ex_nil hJ2))
    have ha' : a < toks.length + 1 := by unfold rowsD at ha; simpa using ha
    have hrow : (rowsD (toks.length + 1) (spanT g (toks.flatMap cp) h)).getD a .none = .list ((List.range (toks.length + 1)).map fun j => .bool (spanT g (toks.flatMap cp) h a j)) := by
      have := rows_at (f := spanT g (toks.flatMap cp) h) ha'
      rw [Int.toNat_natCast] at this
      rw [List.getD_eq_getElem?_getD, this]; rfl
    rw [hrow]
    refine ⟨_, as_name rfl (hO _), ex_has hJ2.cons ?_⟩
    refine ex_cons (xs_for (k := 0) (fun b Γ3 => Has Γ3 [("tables", .fz (tabD (headsOf g) (toks.length + 1) (spanT g (toks.flatMap cp)))), ("want", .fz (dD (chartD g word K))), ("heads", .fz (sD (headsOf g))), ("known", .fz (kD (headsOf g) K)), ("start", .fz (.int (start : Int))), ("same_query", .fz (sD [symAt (x 21), symAt (x 22)])), ("query", .fz (sD [symAt (x 21), symAt (x 22)])), ("word", .fz (.str word)), ("same_letters", .fz (sD toks)), ("letters", .fz (sD toks)), ("same_g", .fz (gD g)), ("g", .fz (gD g)), ("script", .fz (.list (xs.map .int)))])
      (src_list (ds := (List.range (toks.length + 1)).map fun j => .bool (spanT g (toks.flatMap cp) h a j)) hA.hd (ev_var rfl rfl)) (fun _ => rfl) (by (repeat (first | exact Has.nil _ | refine Has.add rfl ?_))) (fun b Γ3 hb hJ3 => ?_) (fun Γ3 hJ3 => ex_nil hJ3))
    have hb' : b < toks.length + 1 := by simpa using hb
    have hent : ((List.range (toks.length + 1)).map fun j => PyData.bool (spanT g (toks.flatMap cp) h a j)).getD b .none = .bool (spanT g (toks.flatMap cp) h a b) := by
      have := row_at (f := spanT g (toks.flatMap cp) h a) hb'
      rw [Int.toNat_natCast] at this
      rw [List.getD_eq_getElem?_getD, this]; rfl
    rw [hent]
    refine ⟨_, as_name rfl (hO _), ex_has hJ3.cons ?_⟩
    exact ex_cons (xs_if (c_type (G.b rfl rfl PyProof.Rows.Boot.«type» (by decide)) (G.b rfl rfl PyProof.Rows.Boot.«bool» (by decide)) (ev_var rfl rfl) rfl rfl) (fun hb => by cases hb) fun _ => ex_nil (ex_nil (by (repeat (first | exact Has.nil _ | refine Has.add rfl ?_)))))
  have hqs : ∀ s ∈ [symAt (x 21), symAt (x 22)], (cp s).length = 1 := fun s hs => by
    simp only [List.mem_cons, List.not_mem_nil, or_false] at hs
    rcases hs with rfl | rfl <;> exact sym_one _
  have hqs2 : ∀ s ∈ [symAt (x 21), symAt (x 22)], s.length ≤ 100 := fun s hs => by
    simp only [List.mem_cons, List.not_mem_nil, or_false] at hs
    rcases hs with rfl | rfl
    · have := sym_small (x 21); omega
    · have := sym_small (x 22); omega
  have hends := X.ends (start := start) (by omega) hqs (by simp)
  generalize [symAt (x 21), symAt (x 22)] = query at *
  refine ex_cons (xs_assign (ev_call hA rfl (G.at rfl) rfl rfl (evs_cons (ev_var rfl rfl) (evs_cons (ev_var rfl rfl) (evs_cons (ev_var rfl rfl) evs_nil rfl) rfl) rfl) rfl (fn_spell G g K word query hw3 hqs2 hKl)) rfl (hO _) rfl ?_)
  generalize spellF (fun p => hasSub p word) (optK g K) [""] query = spelled at *
  refine ex_cons (xs_new rfl (hO _) ?_)
  have hn2 : ((((word.length : Int) + 1) - (start : Int)).toNat) = toks.length + 1 - start := by omega
  refine ex_join (fun Γ' => Has Γ' [("ends", .own ((((List.range (toks.length + 1 - start)).filter fun y => spelled.contains (Txt.slice word (some (start : Int)) (some ((start + y : Nat) : Int)))).map fun y => ((start + y : Nat) : Int)).map .int)), ("spelled", .fz (sD spelled)), ("tables", .fz (tabD (headsOf g) (toks.length + 1) (spanT g (toks.flatMap cp)))), ("want", .fz (dD (chartD g word K))), ("heads", .fz (sD (headsOf g))), ("known", .fz (kD (headsOf g) K)), ("start", .fz (.int (start : Int))), ("same_query", .fz (sD query)), ("query", .fz (sD query)), ("word", .fz (.str word)), ("same_letters", .fz (sD toks)), ("letters", .fz (sD toks)), ("same_g", .fz (gD g)), ("g", .fz (gD g)), ("script", .fz (.list (xs.map .int)))])
    (xs_for (k := 0) (fun i Γ' => Has Γ' [("ends", .own ((((List.range i).filter fun y => spelled.contains (Txt.slice word (some (start : Int)) (some ((start + y : Nat) : Int)))).map fun y => ((start + y : Nat) : Int)).map .int)), ("spelled", .fz (sD spelled)), ("tables", .fz (tabD (headsOf g) (toks.length + 1) (spanT g (toks.flatMap cp)))), ("want", .fz (dD (chartD g word K))), ("heads", .fz (sD (headsOf g))), ("known", .fz (kD (headsOf g) K)), ("start", .fz (.int (start : Int))), ("same_query", .fz (sD query)), ("query", .fz (sD query)), ("word", .fz (.str word)), ("same_letters", .fz (sD toks)), ("letters", .fz (sD toks)), ("same_g", .fz (gD g)), ("g", .fz (gD g)), ("script", .fz (.list (xs.map .int)))])
      ((src_range2 (μ := false) hA.hd (G.b rfl rfl PyProof.Rows.Boot.«range» (by decide)) (ev_var rfl rfl) (e_addI (e_len (n := word.length) (G.b rfl rfl PyProof.Rows.Boot.«len» (by decide)) (ev_var rfl rfl) rfl rfl (by omega)) (ev_int 1)) rfl rfl (by omega) (by omega)).cast hn2 rfl) (fun _ => rfl) (by (repeat (first | exact Has.nil _ | refine Has.add rfl ?_))) (fun i Γ' hi hJ => ?_) (fun Γ' hJ => hJ)) (fun Γ' hG => ex_has hG ?_)
  · refine ⟨_, as_name rfl (hO _), ex_has hJ.cons ?_⟩
    have ej : ((start : Int) + (i : Int)) = ((start + i : Nat) : Int) := by omega
    have hstep : (List.range (i + 1)).filter (fun y => spelled.contains (Txt.slice word (some (start : Int)) (some ((start + y : Nat) : Int)))) = (List.range i).filter (fun y => spelled.contains (Txt.slice word (some (start : Int)) (some ((start + y : Nat) : Int)))) ++ if spelled.contains (Txt.slice word (some (start : Int)) (some ((start + i : Nat) : Int))) then [i] else [] := by
      rw [List.range_succ, List.filter_append, List.filter_cons, List.filter_nil]
    rw [hstep, ej]
    have hfl : ((List.range i).filter (fun y => spelled.contains (Txt.slice word (some (start : Int)) (some ((start + y : Nat) : Int))))).length ≤ i := Nat.le_trans (List.length_filter_le _ _) (by simp)
    refine ex_cons (xs_if (c_inL hA (e_sliceS (ev_var rfl rfl) (ev_var rfl rfl) (ev_var rfl rfl) (by omega) (slice_ok (by omega) (by omega))) (ev_var rfl rfl) rfl) (fun hb => ?_) (fun hb => ?_))
    · refine ex_cons (xs_append rfl rfl (by rw [List.length_map, List.length_map]; omega) (ev_var rfl rfl) rfl rfl rfl (ex_nil (ex_nil (Has.add ?_ (by (repeat (first | exact Has.nil _ | refine Has.add rfl ?_)))))))
      show some (Ent.own _) = some (Ent.own _)
      rw [if_pos hb]; simp
    · refine ex_nil (ex_nil (Has.add ?_ (by (repeat (first | exact Has.nil _ | refine Has.add rfl ?_)))))
      show some (Ent.own _) = some (Ent.own _)
      rw [if_neg (by rw [hb]; decide), List.append_nil]
  refine ex_freeze (x := "ends") rfl ?_
  refine ex_cons (xs_assign ((ev_call hA rfl (G.at rfl) rfl rfl (evs_cons (ev_var rfl rfl) (evs_cons (ev_var rfl rfl) (evs_cons (ev_var rfl rfl) (evs_cons (ev_var rfl rfl) evs_nil rfl) rfl) rfl) rfl) rfl (fn_places G g (spanT g (toks.flatMap cp)) query toks start (by omega) (by omega))).cast (d' := .list ((((List.range (toks.length + 1 - start)).filter fun y => spelled.contains (Txt.slice word (some (start : Int)) (some ((start + y : Nat) : Int)))).map fun y => ((start + y : Nat) : Int)).map .int)) ?_) rfl (hO _) rfl ?_)
  · rw [hends]
    unfold placeD
    rw [List.map_map (f := fun y => start + y)]; rfl
  generalize ((List.range (toks.length + 1 - start)).filter fun y => spelled.contains (Txt.slice word (some (start : Int)) (some ((start + y : Nat) : Int)))).map (fun y => ((start + y : Nat) : Int)) = is at *
  refine ex_cons (xs_if (c_neSame (d := .list (is.map .int)) hA (ev_var rfl rfl) (ev_var rfl rfl) (dOk_ints _) (by decide)) (fun hb => by cases hb) fun _ => ex_nil ?_)
  refine ex_join (fun Γ' => Has Γ' [("tables", .fz (tabD (headsOf g) (toks.length + 1) (spanT g (toks.flatMap cp)))), ("want", .fz (dD (chartD g word K))), ("heads", .fz (sD (headsOf g))), ("known", .fz (kD (headsOf g) K)), ("same_query", .fz (sD query)), ("query", .fz (sD query)), ("word", .fz (.str word)), ("same_letters", .fz (sD toks)), ("letters", .fz (sD toks)), ("same_g", .fz (gD g)), ("g", .fz (gD g)), ("script", .fz (.list (xs.map .int)))])
    (xs_for (k := 0) (fun i Γ' => Has Γ' [("tables", .fz (tabD (headsOf g) (toks.length + 1) (spanT g (toks.flatMap cp)))), ("want", .fz (dD (chartD g word K))), ("heads", .fz (sD (headsOf g))), ("known", .fz (kD (headsOf g) K)), ("same_query", .fz (sD query)), ("query", .fz (sD query)), ("word", .fz (.str word)), ("same_letters", .fz (sD toks)), ("letters", .fz (sD toks)), ("same_g", .fz (gD g)), ("g", .fz (gD g)), ("script", .fz (.list (xs.map .int)))])
      (src_list (ds := is.map .int) hA.hd (ev_var rfl rfl)) (fun _ => rfl) (by (repeat (first | exact Has.nil _ | refine Has.add rfl ?_))) (fun i Γ' hi hJ => ?_) (fun Γ' hJ => hJ)) (fun Γ' hG => ex_has hG ?_)
  · have hi' : i < is.length := by simpa using hi
    rw [getD_map PyData.int hi']
    refine ⟨_, as_name rfl (hO _), ex_has hJ.cons ?_⟩
    exact ex_cons (xs_if (c_type (G.b rfl rfl PyProof.Rows.Boot.«type» (by decide)) (G.b rfl rfl PyProof.Rows.Boot.«int» (by decide)) (ev_var rfl rfl) rfl rfl) (fun hb => by cases hb) fun _ => ex_nil (ex_nil (by (repeat (first | exact Has.nil _ | refine Has.add rfl ?_)))))
  refine ex_cons (xs_if (c_neDict (kds := chartD g word K) hA ((ev_var rfl rfl).cast X.want) (ev_var rfl rfl) hcn hdk (by decide)) (fun hb => by cases hb) fun _ => ex_nil ?_)
  have hix := idx_lt (x 23) hh0
  have hch : ((headsOf g).map PyData.str)[((idx (x 23) (headsOf g).length : Nat) : Int).toNat]? = some (.str (headsOf g)[idx (x 23) (headsOf g).length]) := by
    rw [Int.toNat_natCast, List.getElem?_map, List.getElem?_eq_getElem hix]; rfl
  refine ex_cons (xs_assign (e_item (ev_var rfl rfl) ((e_mod (e_item (ev_var rfl rfl) (ev_int 23) rfl (by decide) (by decide) (sx 23 (by decide))) (e_len (n := (headsOf g).length) (G.b rfl rfl PyProof.Rows.Boot.«len» (by decide)) (ev_var rfl rfl) rfl (by simp [lenD, sD]) (by omega)) (by omega)).cast (d' := .int ((idx (x 23) (headsOf g).length : Nat) : Int)) (by rw [fmod_idx _ hh0])) rfl (by omega) (by omega) hch) rfl (hO _) rfl ?_)
  have hcm := List.getElem_mem hix
  generalize (headsOf g)[idx (x 23) (headsOf g).length] = chosen at *
  refine ex_cons (xs_assign (e_inL hA (ev_var rfl rfl) (e_getD (ev_var rfl rfl) (ev_var rfl rfl) (kds_at hcm)) rfl) rfl (hO _) rfl ?_)
  refine ex_cons (xs_assign ((ev_call hA rfl (G.at rfl) rfl rfl (evs_cons (ev_var rfl rfl) (evs_cons (ev_var rfl rfl) (evs_cons (ev_var rfl rfl) evs_nil rfl) rfl) rfl) rfl (fn_derives G g toks hcm X.wd X.one (by omega) (by omega))).cast (d' := .bool ((K chosen).contains word)) (by rw [X.whole hcm])) rfl (hO _) rfl ?_)
  refine ex_cons (xs_if (c_type (G.b rfl rfl PyProof.Rows.Boot.«type» (by decide)) (G.b rfl rfl PyProof.Rows.Boot.«bool» (by decide)) (ev_var rfl rfl) rfl rfl) (fun hb => by cases hb) fun _ => ex_nil ?_)
  refine ex_cons (xs_if (c_neSame (d := .bool ((K chosen).contains word)) hA (ev_var rfl rfl) (ev_var rfl rfl) (DOk.flat rfl) (by decide)) (fun hb => by cases hb) fun _ => ex_nil ?_)
  refine ex_cons (xs_if (c_neSame (d := gD g) hA (ev_var rfl rfl) (ev_var rfl rfl) (dOk_gD _) (by decide)) (fun hb => by cases hb) fun _ => ex_nil ?_)
  refine ex_cons (xs_if (c_neSame (d := sD toks) hA (ev_var rfl rfl) (ev_var rfl rfl) (dOk_sD _) (by decide)) (fun hb => by cases hb) fun _ => ex_nil ?_)
  refine ex_cons (xs_if (c_neSame (d := sD query) hA (ev_var rfl rfl) (ev_var rfl rfl) (dOk_sD _) (by decide)) (fun hb => by cases hb) fun _ => ex_nil ?_)
  exact ex_cons (xs_return (ev_bool true) rfl)
end
end

section
set_option autoImplicit false
set_option linter.unusedVariables false
set_option maxRecDepth 100000
open PySem PyProof.Rows PySem.W

theorem rd_script {P : Params} {prog : Program} {w : World} {h : Heap} {v : Value} {xs : List Int} (x : Well P h v (ofPy (.list (xs.map PyData.int)))) : Rd prog w noZ h v (.list (xs.map PyData.int)) := by
  have e : ofPy (.list (xs.map PyData.int)) = .list (ofPys (xs.map PyData.int)) := by rw [ofPy]
  rw [e] at x
  cases x with
  | @list a vs _ he hv =>
    refine .list (n := 0) he (fun q => q) ?_
    clear he e
    show Rds prog w noZ h vs _
    induction xs generalizing vs with
    | nil =>
      have e : ofPys (([] : List Int).map PyData.int) = [] := by simp [ofPys]
      rw [e] at hv
      cases hv; exact .nil
    | cons i xs ih =>
      have e : ofPys ((i :: xs).map PyData.int) = .int i :: ofPys (xs.map PyData.int) := by simp [ofPys, ofPy]
      rw [e] at hv
      cases hv with
      | cons h1 h2 =>
        cases h1
        exact .cons (.int _ _) (ih h2)

theorem not_frame_caller {b : Addr} : ¬ isFrame callerA b := fun ⟨l, hl, env, he, _⟩ => by cases hl; cases he
theorem frOk_caller {h : Heap} : FrOk callerA h := ⟨[], rfl, fun env he => by cases he⟩
theorem okA_caller : OkA callerA 40 := ⟨rfl, by decide, by decide⟩

theorem kf_of : ∀ {K : List (Addr × Obj)}, (K.all fun p => !(p.2.cls == .type "frame")) = true → ∀ a o, K.lookup a = some o → o.cls ≠ .type "frame"
  | [], _, a, o, e => by cases e
  | (b, x) :: r, h, a, o, e => by
    simp only [List.all_cons, Bool.and_eq_true] at h
    rw [List.lookup_cons] at e
    split at e
    · cases e
      intro q
      rw [q] at h
      exact absurd h.1 (by decide)
    · exact kf_of h.2 a o e

set_option Elab.async false
set_option maxHeartbeats 8000000
theorem holds2 : PySem.Challenge.rw_sx_yaugur_2.Holds := hd2 (by
  k_fill
  intro w s₀ s₁ mg mb G Y fa o pm cd doc dV kV ho hd hcd hD hmg hg args vals as hpre hlay hrd hwl hlo
  have KX := kIn_of Y
  have hmg' : mg "law" = some (.ref fa) := hmg
  clear hmg hd hcd hD
  refine Ground.open G ?_
  intro T B D TE TW
  try (refine guard_noD D (by decide +kernel) ?_; clear D)
  wrow_args hpre hlay hrd hwl hlo
  rename List Int => xs
  rename Well _ _ _ _ => hw
  rename ¬ _ < _ => hlen
  have B0 : Base (C2 Challenge.rw_sx_yaugur_2.row.prog w mg mb w.params) s₁.heap := ⟨T.g, T.b, T.nolimit, T.nodigits, KX, kf_of (by kernel_rfl)⟩
  have G2' : G2 Challenge.rw_sx_yaugur_2.row.prog w mg mb w.params := ⟨⟨_, B0⟩, T.builtins⟩
  have hfa : fa = 81 := by
    have := G2'.at (x := "law") (v := .ref 81) rfl
    rw [hmg'] at this; cases this; rfl
  subst hfa
  have hf := fn_law2 G2' (k := 36) xs (by omega)
  show wpAny _ _ (call _ _) _ _ _
  refine wpAny_mono (hf callerA _ s₁ noZ _ okA_caller frOk_caller B0 ⟨fun _ q => q.elim, fun _ q => q.elim⟩ (.cons (rd_script hw) .nil)) (fun v s' ⟨kp, rd⟩ => ?_) fun _ _ x => x
  cases rd
  obtain ⟨h', tk, rfl⟩ := kp.same
  refine GoodW.toG ⟨.inl ⟨_, .bool true, [], rfl, fun _ => rfl, .bool true, by kernel_rfl, fun _ => ⟨List.nodup_nil, fun a ha => by cases ha⟩⟩, fun b o e => (kp.ext b o e).elim id fun q => absurd q.1 not_frame_caller, rfl, hg⟩)
end
end Mine

theorem PySem.Challenge.cw_sx_yaugur_2_holds : PySem.Challenge.rw_sx_yaugur_2.Holds :=
  Mine.holds2
