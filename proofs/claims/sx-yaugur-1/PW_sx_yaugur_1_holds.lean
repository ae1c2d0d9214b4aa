import PyProof.Rows.All
import PyProof.CompFree
import PyProof.Cells
import PyProof.DictStraight
import PyProof.Claim2
import PyProof.Lay0
import Wide.All
import OpenK.AllK
import Wide.FinOn
import Lean
import PySem.Challenge.RW_sx_yaugur_1

set_option autoImplicit false
set_option Elab.async false
set_option maxRecDepth 100000
set_option maxHeartbeats 8000000
set_option linter.unusedVariables false

namespace Mine
section
set_option autoImplicit false
open PySem
open Sem (wp)

theorem putName_cls (name : Str) (hash : Int) (key v : Value) (o : Obj) : (Obj.putName name hash key v o).cls = o.cls := by
  obtain ⟨c, d, dt, sl⟩ := o
  rw [Obj.putName_eq]
  cases dt <;> simp only [Obj.putNameByArray]
  split <;> rfl

/-- a name is stored; the class of the namespace's object stays -/
theorem nsSet_cls {M : Model} {A : Around} {E : Value → Shared → Prop} {s : Shared} {a : Addr} {m : Str → Option Value} {name : Str} {v : Value} {Q : Unit → Shared → Prop} (hn : s.heap.Ns a m)
    (h : ∀ h', h'.Ns a (fun x => if x = name then some v else m x) → Heap.SameBut a s.heap h' → (∀ o, s.heap.get? a = some o → ∃ o', h'.get? a = some o' ∧ o'.cls = o.cls) → Q () { s with heap := h', toks := s.toks + 1 }) :
    wpAny M A (nsSet a name v) Q E s := fun Γ p hΓ => by
  obtain ⟨o, es, ep, ho, hd, hk, hm⟩ := id hn
  have hany : es.any (·.refKey) = false := by
    rw [Array.any_eq_false']; intro e he; obtain ⟨n, t, h⟩ := hk e he; simp [DictEntry.refKey, h]
  have key : ∀ Q' : Unit → Pos → Shared → Prop, wp M Γ (nsSet a name v) Q' (fun e _ s' => E e s') p s ↔ Q' () p { s with heap := s.heap.update a (Obj.putName name (if name.cps.isEmpty = true then 0 else reduceHash (M.w.params.strHash name.cps)) (.str name s.toks) v), toks := s.toks + 1 } := by
    intro Q'
    simp only [nsSet, strHash, Sem.wp_bind', Sem.wp_cmd_ask, Sem.wp_pure', Sem.wp_cmd_mkText]
    rw [Sem.wp_loadPart_of M Γ _ p { s with toks := s.toks + 1 } (o := o) _ ho]
    simp only [hd, aRefKeyMayBeTheName_eq, aRefKeyMayBeTheNameByArray, hany, Bool.and_false, Bool.false_eq_true, if_false, Sem.wp_cmd_updatePart]
    simp only [ho, Option.isSome_some, true_and]
  have q := (key (fun _ _ s' => s'.heap.Ns a (fun x => if x = name then some v else m x) ∧ Heap.SameBut a s.heap s'.heap)).mp (Sem.wp_nsSet M Γ _ p s hn name v _ fun h' h1 h2 => ⟨h1, h2⟩)
  refine (key _).mpr (h _ q.1 q.2 fun o' e => ?_)
  exact ⟨_, Heap.get?_update_self _ e (by
    obtain ⟨o₂, es₂, ep₂, ho₂, hd₂, _⟩ := q.1
    have hf := (Heap.get?_some_iff.mp ho₂).2
    have hh : s.heap.objs[a]? = some o' := (Heap.get?_some_iff.mp e).1
    have hu : (s.heap.update a (Obj.putName name (if name.cps.isEmpty = true then 0 else reduceHash (M.w.params.strHash name.cps)) (.str name s.toks) v)).objs[a]? = some (Obj.putName name (if name.cps.isEmpty = true then 0 else reduceHash (M.w.params.strHash name.cps)) (.str name s.toks) v o') := by
      generalize s.heap = hp at hh
      obtain ⟨objs, l⟩ := hp
      simp only [Heap.update, Array.getElem?_modify, if_true]
      simp only at hh
      rw [hh]; rfl
    have hx := (Heap.get?_some_iff.mp ho₂).1
    rw [hu] at hx
    cases hx
    exact hf), putName_cls _ _ _ _ _⟩
end

section
set_option autoImplicit false
set_option linter.unusedVariables false
open PySem

/-- the call's frame, its names, its cells; the frame's object bears the class of frames -/
structure InF (s₀ : Shared) (L : Addr) (m : Str → Option Value) (cs : List (Str × Addr)) (cm : Str → Option Value) (s : Shared) : Prop where
  c : InCallC s₀ L m cs cm s
  fr : ∃ o, s.heap.get? L = some o ∧ o.cls = .type "frame"

section
variable {M : Model} {A : Around} {E : Value → Shared → Prop} {s₀ s : Shared} {m cm : Str → Option Value} {env : Env}

theorem InF.local {n : Str} {v : Value} {Q : Unit → Shared → Prop} (x : InF s₀ env.locals m env.cells cm s) (hk : env.scope.kind = .function) (hl : env.kindOf n = some .local)
    (h : ∀ s', InF s₀ env.locals (fun y => if y = n then some v else m y) env.cells cm s' → Q () s') : wpAny M A (storeName env n v) Q E s := by
  rw [storeName_local hl (by rw [hk]; rfl)]
  refine nsSet_cls x.c.toInCall.ns fun h' hn' sb hc => h _ ⟨⟨⟨?_, hn', fun b o e => ?_, x.c.toInCall.fresh⟩, fun k c hkc => ?_, x.c.apart, x.c.above⟩, ?_⟩
  · obtain ⟨h₁, tk, rfl⟩ := x.c.toInCall.same
    exact ⟨h', _, rfl⟩
  · have hb : b < env.locals := Nat.lt_of_lt_of_le (Heap.lt_size e) x.c.toInCall.fresh
    exact (sb.2 b (Nat.ne_of_lt hb)).trans (x.c.toInCall.keep b o e)
  · have := x.c.above k c (mem_of_lookup hkc)
    exact (x.c.cell k c hkc).sameBut sb (Nat.ne_of_gt this)
  · obtain ⟨o, ho, hcl⟩ := x.fr
    obtain ⟨o', ho', hcl'⟩ := hc o ho
    exact ⟨o', ho', hcl'.trans hcl⟩

theorem InF.cell {n : Str} {c : Addr} {v : Value} {Q : Unit → Shared → Prop} (x : InF s₀ env.locals m env.cells cm s) (hk : env.scope.kind = .function) (hl : env.kindOf n = some .cell) (hc : env.cells.lookup n = some c)
    (h : ∀ s', InF s₀ env.locals m env.cells (fun y => if y = n then some v else cm y) s' → Q () s') : wpAny M A (storeName env n v) Q E s := by
  have hLc := x.c.above n c (mem_of_lookup hc)
  refine wpAny_storeName_cell hk hl hc (x.c.cell n c hc) fun h' hc' sb => h _ ⟨⟨⟨?_, x.c.toInCall.ns.sameBut sb (Nat.ne_of_lt hLc), fun b o e => ?_, x.c.toInCall.fresh⟩, fun k c' hk' => ?_, x.c.apart, x.c.above⟩, ?_⟩
  · obtain ⟨h₁, tk, rfl⟩ := x.c.toInCall.same
    exact ⟨h', _, rfl⟩
  · have hb : b < env.locals := Nat.lt_of_lt_of_le (Heap.lt_size e) x.c.toInCall.fresh
    exact (sb.2 b (Nat.ne_of_lt (Nat.lt_trans hb hLc))).trans (x.c.toInCall.keep b o e)
  · by_cases hkn : k = n
    · subst hkn
      rw [hc] at hk'; cases hk'
      rw [if_pos rfl]; exact hc'
    · rw [if_neg hkn]
      exact (x.c.cell k c' hk').sameBut sb fun e => hkn (name_of_addr x.c.apart (mem_of_lookup hk') (e ▸ mem_of_lookup hc))
  · obtain ⟨o, ho, hcl⟩ := x.fr
    exact ⟨o, (sb.2 _ (Nat.ne_of_lt hLc)).trans ho, hcl⟩

theorem bindAll (f : Str × Value → PUnit → Sem (ForInStep PUnit)) (hf : ∀ n v u, f (n, v) u = (do storeName env n v; pure (.yield ⟨⟩))) (hk : env.scope.kind = .function) (Q : PUnit → Shared → Prop) :
    ∀ (binds : List (Str × Value)) (m cm : Str → Option Value) (s : Shared), InF s₀ env.locals m env.cells cm s →
      (∀ x ∈ binds, env.kindOf x.1 = some .local ∨ (env.kindOf x.1 = some .cell ∧ (env.cells.lookup x.1).isSome = true)) →
      (∀ s', InF s₀ env.locals (bindL env.kindOf binds m) env.cells (bindC env.kindOf binds cm) s' → Q ⟨⟩ s') → wpAny M A (forIn binds ⟨⟩ f) Q E s := by
  intro binds
  induction binds with
  | nil => intro m cm s x _ h; rw [List.forIn_nil]; exact wpAny_pure (h s x)
  | cons b r ih =>
    obtain ⟨n, v⟩ := b
    intro m cm s x hb h
    rw [List.forIn_cons, hf]
    have hr := fun y hy => hb y (List.mem_cons_of_mem _ hy)
    rcases hb (n, v) List.mem_cons_self with hl | ⟨hl, hs⟩
    · refine wpAny_bind (wpAny_bind (x.local hk hl fun s' x' => wpAny_pure (ih _ _ s' x' hr fun s'' x'' => h s'' ?_)))
      simp only [bindL, bindC, if_pos hl]; exact x''
    · obtain ⟨c, hc⟩ := Option.isSome_iff_exists.mp hs
      have hnl : ¬ env.kindOf n = some .local := by rw [hl]; decide
      refine wpAny_bind (wpAny_bind (x.cell hk hl hc fun s' x' => wpAny_pure (ih _ _ s' x' hr fun s'' x'' => h s'' ?_)))
      simp only [bindL, bindC, if_neg hnl]; exact x''
end

theorem newEnvF {M : Model} {A : Around} {E : Value → Shared → Prop} {s : Shared} {scope : Scope} {globals : Addr} {binds : List (Str × Value)} {qual : Str} {func : Option Addr} {code : Value} {builtins : Addr} {Q : Env → Shared → Prop}
    (hk : scope.kind = .function)
    (hkind : ∀ x ∈ binds, scope.names.lookup x.1 = some .local ∨ (scope.names.lookup x.1 = some .cell ∧ ((cellsFrom (s.heap.objs.size + 1) scope.names []).lookup x.1).isSome = true))
    (hQ : ∀ env, env = newEnv scope s.heap.objs.size globals (cellsFrom (s.heap.objs.size + 1) scope.names []) qual func code none builtins →
      ∀ s', InF s env.locals (bindL env.kindOf binds fun _ => none) env.cells (bindC env.kindOf binds fun _ => none) s' → Q env s') :
    wpAny M A (newFunctionEnv scope globals [] binds qual func code none builtins) Q E s := by
  simp only [newFunctionEnv, Option.isSome_none, Bool.false_eq_true, if_false]
  refine wpAny_bind (wpAny_alloc (wpAny_bind (wpAny_layCells _ (fun name kind cells => by cases hkc : kind == NameKind.cell <;> simp [hkc]) _ _ _ _ ?_)))
  have hsz : (s.heap.push { cls := .type "frame", data := .dict #[] }).objs.size = s.heap.objs.size + 1 := Heap.size_push ..
  have ok := cellsFrom_ok scope.names (s.heap.push { cls := .type "frame", data := .dict #[] }) (s.heap.objs.size + 1) [] ⟨fun _ _ hm => (nomatch hm), List.Pairwise.nil⟩ (by rw [hsz]; exact Nat.le_refl _)
  rw [hsz] at ok
  show wpAny M A _ Q E _
  rw [show ({ s with heap := s.heap.push { cls := .type "frame", data := .dict #[] } } : Shared).heap.objs.size = s.heap.objs.size + 1 from hsz]
  have hget : (pushCells (s.heap.push { cls := .type "frame", data := .dict #[] }) scope.names).get? s.heap.objs.size = some { cls := .type "frame", data := .dict #[] } := pushCells_keeps _ _ _ _ (Heap.get?_push_size _ rfl)
  refine wpAny_bind (bindAll (s₀ := s) (env := newEnv scope s.heap.objs.size globals (cellsFrom (s.heap.objs.size + 1) scope.names []) qual func code none builtins) _ (fun _ _ _ => rfl) hk _ binds (fun _ => none) (fun _ => none) _ ?_ hkind fun s' x => wpAny_pure (hQ _ rfl s' x))
  refine ⟨⟨⟨⟨_, _, rfl⟩, (Heap.Ns.new s.heap (.type "frame")).keeps (pushCells_keeps _ _), fun b o e => pushCells_keeps _ _ b o (Heap.get?_push_of_some _ e), Nat.le_refl _⟩, fun n c hc => (ok.empty n c (mem_of_lookup hc)).1, ok.apart, fun n c hm => (ok.empty n c hm).2⟩, ⟨_, hget, rfl⟩⟩

theorem callF {prog : Program} {w : World} {A : Around} {s : Shared} {R : Result → Shared → Prop} {a : Addr} {o : Obj} {fd : FuncData} {body : List Stmt} {vals : List Value} {binds : List (Str × Value)}
    (hroom : A.depth < recursionLimit) (ho : s.heap.get? a = some o) (hdata : o.data = .func fd) (hlim : s.heap.NoLimit) (hcd : s.heap.CodeRec fd.code fd.qualname)
    (hbody : fd.body = .stmts body) (hbind : bindArgs fd ⟨vals, []⟩ = pure binds) (hclo : fd.closure = [])
    (hkind : ∀ x ∈ binds, fd.scope.names.lookup x.1 = some .local ∨ (fd.scope.names.lookup x.1 = some .cell ∧ ((cellsFrom (s.heap.objs.size + 1) fd.scope.names []).lookup x.1).isSome = true))
    (h : ∀ s₁, InF s (callEnvC fd s.heap.objs.size a).locals (bindL (callEnvC fd s.heap.objs.size a).kindOf binds fun _ => none) (callEnvC fd s.heap.objs.size a).cells (bindC (callEnvC fd s.heap.objs.size a).kindOf binds fun _ => none) s₁ →
      wpAny (model prog w) (A.deeper (callEnvC fd s.heap.objs.size a)) (execs body (callEnvC fd s.heap.objs.size a)) (fun f s' => R (.ok (.ret (match f with | .ret v => v | _ => .none))) s')
        (fun e s' => wpAny (model prog w) (A.deeper (callEnvC fd s.heap.objs.size a)) (leaving (callEnvC fd s.heap.objs.size a) e) (fun _ s'' => R (.error e) s'') (fun e' s'' => R (.error e') s'') s') s₁)
    (hco : fd.scope.isCoroutine = false) (hgen : fd.scope.isGenerator = false) (hk : fd.scope.kind = .function) :
    codeAny (model prog w) A (.call (.ref a) ⟨vals, []⟩) R s := by
  refine codeAny_call_function hroom ho hdata hco hgen hbody hcd ?_
  rw [hbind, hclo]
  refine wpAny_pure (newEnvF hk hkind fun env he s' x => ?_)
  subst he
  exact ⟨hlim.keeps x.c.toInCall.keep, codeAny_func (h s' x)⟩
end

section
set_option autoImplicit false
open PySem

/-- a frame of the calls around -/
def isFrame (A : Around) (b : Addr) : Prop := ∃ l, A.frames = some l ∧ ∃ env ∈ l, env.frame = some b
/-- every thing that stood stands; a frame of the calls around may bear other slots -/
def Ext (A : Around) (h h' : Heap) : Prop := ∀ b o, h.get? b = some o → h'.get? b = some o ∨ (isFrame A b ∧ o.cls = .type "frame" ∧ ∃ sl, h'.get? b = some { o with slots := sl })
theorem Ext.of {A : Around} {h h' : Heap} (k : ∀ b o, h.get? b = some o → h'.get? b = some o) : Ext A h h' := fun b o e => .inl (k b o e)
theorem Ext.refl {A : Around} (h : Heap) : Ext A h h := .of fun _ _ e => e
theorem Ext.trans {A : Around} {h₁ h₂ h₃ : Heap} (x : Ext A h₁ h₂) (y : Ext A h₂ h₃) : Ext A h₁ h₃ := fun b o e => by
  rcases x b o e with q | ⟨f, c, sl, q⟩
  · exact y b o q
  · rcases y b _ q with q' | ⟨_, _, sl', q'⟩
    · exact .inr ⟨f, c, sl, q'⟩
    · exact .inr ⟨f, c, sl', q'⟩
set_option linter.unusedVariables false
theorem Ext.push {A : Around} {h : Heap} (o : Obj) : Ext A h (h.push o) := .of fun _ _ e => Heap.get?_push_of_some o e
theorem Ext.mutOf {A : Around} {h₀ h h' : Heap} {a : Addr} (x : Ext A h₀ h) (na : h₀.get? a = none) (k : ∀ b o, b ≠ a → h.get? b = some o → h'.get? b = some o) : Ext A h₀ h' := fun b o e => by
  have hb : b ≠ a := by rintro rfl; rw [na] at e; cases e
  rcases x b o e with q | ⟨f, c, sl, q⟩
  · exact .inl (k b o hb q)
  · exact .inr ⟨f, c, sl, k b _ hb q⟩
/-- an object that is no frame -/
theorem Ext.at {A : Around} {h h' : Heap} (x : Ext A h h') {b : Addr} {o : Obj} (e : h.get? b = some o) (hc : o.cls ≠ .type "frame") : h'.get? b = some o :=
  (x b o e).elim id fun q => absurd q.2.1 hc
theorem Ext.stays {A : Around} {h h' : Heap} (x : Ext A h h') {b : Addr} {o : Obj} (e : h.get? b = some o) : ∃ o', h'.get? b = some o' ∧ o'.data = o.data ∧ o'.cls = o.cls :=
  (x b o e).elim (fun q => ⟨o, q, rfl, rfl⟩) fun q => let ⟨sl, q⟩ := q.2.2; ⟨_, q, rfl, rfl⟩
theorem Ext.ns {A : Around} {h h' : Heap} (x : Ext A h h') {a : Addr} {m : Str → Option Value} (hn : h.Ns a m) : h'.Ns a m := by
  obtain ⟨o, es, ep, ho, hd, r⟩ := hn
  obtain ⟨o', ho', hd', _⟩ := x.stays ho
  exact ⟨o', es, ep, ho', hd'.trans hd, r⟩
theorem Ext.cell {A : Around} {h h' : Heap} (x : Ext A h h') {c : Addr} {v : Option Value} (hn : h.IsCell c v) : h'.IsCell c v := by
  obtain ⟨o, ho, hd⟩ := hn
  obtain ⟨o', ho', hd', _⟩ := x.stays ho
  exact ⟨o', ho', hd'.trans hd⟩
theorem Ext.noLimit {A : Around} {h h' : Heap} (x : Ext A h h') (hn : h.NoLimit) : h'.NoLimit := let ⟨mc, a, b⟩ := hn; ⟨mc, x.ns a, b⟩

abbrev listO (vs : Array Value) (n : Nat) : Obj := { cls := .type "list", data := .seq vs n }
abbrev tupO (vs : Array Value) (n : Nat) : Obj := { cls := .type "tuple", data := .seq vs n }

def zipKv : List (Str × Value) → List PyData → List (PyData × PyData)
  | (k, _) :: r, d :: ds => (.str k, d) :: zipKv r ds
  | _, _ => []

mutual
/-- the value v reads as the datum d; no node of it lies in Z -/
inductive Rd (prog : Program) (w : World) (Z : Addr → Prop) (h : Heap) : Value → PyData → Prop
  | none : Rd prog w Z h .none .none
  | bool (b : Bool) : Rd prog w Z h (.bool b) (.bool b)
  | int (i : Int) (t : Tok) : Rd prog w Z h (.int i t) (.int i)
  | str (x : Str) (t : Tok) : PyData.strOk x = true → Rd prog w Z h (.str x t) (.str x)
  | list {a : Addr} {vs : Array Value} {n : Nat} {ds : List PyData} : h.get? a = some (listO vs n) → ¬ Z a → Rds prog w Z h vs.toList ds → Rd prog w Z h (.ref a) (.list ds)
  | tuple {a : Addr} {vs : Array Value} {n : Nat} {ds : List PyData} : h.get? a = some (tupO vs n) → ¬ Z a → Rds prog w Z h vs.toList ds → Rd prog w Z h (.ref a) (.tuple ds)
  | dict {a : Addr} {o : Obj} {kvs : List (Str × Value)} {ds : List PyData} : h.get? a = some o → ¬ Z a → (a == sysModules) = false → o.IsDictOf (strKind prog w) kvs →
      Rds prog w Z h (kvs.map (·.2)) ds → Rd prog w Z h (.ref a) (.dict (zipKv kvs ds))
inductive Rds (prog : Program) (w : World) (Z : Addr → Prop) (h : Heap) : List Value → List PyData → Prop
  | nil : Rds prog w Z h [] []
  | cons {v : Value} {vs : List Value} {d : PyData} {ds : List PyData} : Rd prog w Z h v d → Rds prog w Z h vs ds → Rds prog w Z h (v :: vs) (d :: ds)
end

section
variable {prog : Program} {w : World} {Z Z' : Addr → Prop} {h h' : Heap} {A : Around}

mutual
/-- a reading outlives every write into Z -/
theorem Rd.keepZ (hk : ∀ b o, ¬ Z b → h.get? b = some o → h'.get? b = some o) : ∀ {v : Value} {d : PyData}, Rd prog w Z h v d → Rd prog w Z h' v d
  | _, _, .none => .none
  | _, _, .bool b => .bool b
  | _, _, .int i t => .int i t
  | _, _, .str x t e => .str x t e
  | _, _, .list e z r => .list (hk _ _ z e) z (Rds.keepZ hk r)
  | _, _, .tuple e z r => .tuple (hk _ _ z e) z (Rds.keepZ hk r)
  | _, _, .dict e z n k r => .dict (hk _ _ z e) z n k (Rds.keepZ hk r)
theorem Rds.keepZ (hk : ∀ b o, ¬ Z b → h.get? b = some o → h'.get? b = some o) : ∀ {vs : List Value} {ds : List PyData}, Rds prog w Z h vs ds → Rds prog w Z h' vs ds
  | _, _, .nil => .nil
  | _, _, .cons a b => .cons (Rd.keepZ hk a) (Rds.keepZ hk b)
end
theorem seqO_ne {c : Value} {xs : Array Value} {n : Nat} (us : Array Value) : ({ cls := c, data := .seq xs n } : Obj).data ≠ .fields us := by intro h; cases h
theorem dictO_ne {o : Obj} {kvs : List (Str × Value)} (k : o.IsDictOf (strKind prog w) kvs) (us : Array Value) : o.data ≠ .fields us := by
  obtain ⟨es, ep, _, hd, _⟩ := k
  intro q; rw [hd] at q; cases q
mutual
/-- a reading leans on no object with fields -/
theorem Rd.keepD (hk : ∀ b o, ¬ Z b → (∀ vs, o.data ≠ .fields vs) → h.get? b = some o → h'.get? b = some o) : ∀ {v : Value} {d : PyData}, Rd prog w Z h v d → Rd prog w Z h' v d
  | _, _, .none => .none
  | _, _, .bool b => .bool b
  | _, _, .int i t => .int i t
  | _, _, .str x t e => .str x t e
  | _, _, .list e z r => .list (hk _ _ z (seqO_ne ·) e) z (Rds.keepD hk r)
  | _, _, .tuple e z r => .tuple (hk _ _ z (seqO_ne ·) e) z (Rds.keepD hk r)
  | _, _, .dict e z n k r => .dict (hk _ _ z (dictO_ne k) e) z n k (Rds.keepD hk r)
theorem Rds.keepD (hk : ∀ b o, ¬ Z b → (∀ vs, o.data ≠ .fields vs) → h.get? b = some o → h'.get? b = some o) : ∀ {vs : List Value} {ds : List PyData}, Rds prog w Z h vs ds → Rds prog w Z h' vs ds
  | _, _, .nil => .nil
  | _, _, .cons a b => .cons (Rd.keepD hk a) (Rds.keepD hk b)
end
theorem listO_cls {vs : Array Value} {n : Nat} : (listO vs n).cls ≠ .type "frame" := by show Value.type "list" ≠ _; decide
theorem tupO_cls {vs : Array Value} {n : Nat} : (tupO vs n).cls ≠ .type "frame" := by show Value.type "tuple" ≠ _; decide
theorem dictO_cls {o : Obj} {kvs : List (Str × Value)} (k : o.IsDictOf (strKind prog w) kvs) : o.cls ≠ .type "frame" := by
  obtain ⟨es, ep, hx, _⟩ := k
  rw [hx.1]; decide
mutual
theorem Rd.keep (hk : Ext A h h') : ∀ {v : Value} {d : PyData}, Rd prog w Z h v d → Rd prog w Z h' v d
  | _, _, .none => .none
  | _, _, .bool b => .bool b
  | _, _, .int i t => .int i t
  | _, _, .str x t e => .str x t e
  | _, _, .list e z r => .list (hk.at e listO_cls) z (Rds.keep hk r)
  | _, _, .tuple e z r => .tuple (hk.at e tupO_cls) z (Rds.keep hk r)
  | _, _, .dict e z n k r => .dict (hk.at e (dictO_cls k)) z n k (Rds.keep hk r)
theorem Rds.keep (hk : Ext A h h') : ∀ {vs : List Value} {ds : List PyData}, Rds prog w Z h vs ds → Rds prog w Z h' vs ds
  | _, _, .nil => .nil
  | _, _, .cons a b => .cons (Rd.keep hk a) (Rds.keep hk b)
end

theorem Rd.push (o : Obj) {v : Value} {d : PyData} (r : Rd prog w Z h v d) : Rd prog w Z (h.push o) v d := r.keep (A := {}) (Ext.push o)
theorem Rds.push (o : Obj) {vs : List Value} {ds : List PyData} (r : Rds prog w Z h vs ds) : Rds prog w Z (h.push o) vs ds := r.keep (A := {}) (Ext.push o)
mutual
/-- another set of forbidden addresses, as long as it forbids nothing that stands -/
theorem Rd.reZ (hz : ∀ a o, h.get? a = some o → Z' a → Z a) : ∀ {v : Value} {d : PyData}, Rd prog w Z h v d → Rd prog w Z' h v d
  | _, _, .none => .none
  | _, _, .bool b => .bool b
  | _, _, .int i t => .int i t
  | _, _, .str x t e => .str x t e
  | _, _, .list e z r => .list e (fun q => z (hz _ _ e q)) (Rds.reZ hz r)
  | _, _, .tuple e z r => .tuple e (fun q => z (hz _ _ e q)) (Rds.reZ hz r)
  | _, _, .dict e z n k r => .dict e (fun q => z (hz _ _ e q)) n k (Rds.reZ hz r)
theorem Rds.reZ (hz : ∀ a o, h.get? a = some o → Z' a → Z a) : ∀ {vs : List Value} {ds : List PyData}, Rds prog w Z h vs ds → Rds prog w Z' h vs ds
  | _, _, .nil => .nil
  | _, _, .cons a b => .cons (Rd.reZ hz a) (Rds.reZ hz b)
end
abbrev noZ : Addr → Prop := fun _ => False
theorem Rd.weak {v : Value} {d : PyData} (r : Rd prog w Z h v d) : Rd prog w noZ h v d := r.reZ fun _ _ _ q => q.elim
theorem Rds.weak {vs : List Value} {ds : List PyData} (r : Rds prog w Z h vs ds) : Rds prog w noZ h vs ds := r.reZ fun _ _ _ q => q.elim

/-- a datum without nodes -/
def flat : PyData → Bool
  | .none | .bool _ | .int _ | .str _ => true
  | _ => false
theorem Rd.ofFlat {v : Value} {d : PyData} (hf : flat d = true) (r : Rd prog w Z h v d) : Rd prog w Z' h' v d := by
  cases r with
  | none => exact .none
  | bool b => exact .bool b
  | int i t => exact .int i t
  | str x t e => exact .str x t e
  | list => cases hf
  | tuple => cases hf
  | dict => cases hf
theorem Rds.ofFlat {vs : List Value} {ds : List PyData} (hf : ∀ d ∈ ds, flat d = true) (r : Rds prog w Z h vs ds) : Rds prog w Z' h' vs ds := by
  induction vs generalizing ds with
  | nil => cases r; exact .nil
  | cons v vs ih =>
    cases r with
    | cons a b => exact .cons (a.ofFlat (hf _ List.mem_cons_self)) (ih (fun d hd => hf d (List.mem_cons_of_mem _ hd)) b)

theorem Rds.length {vs : List Value} {ds : List PyData} (r : Rds prog w Z h vs ds) : vs.length = ds.length := by
  induction vs generalizing ds with
  | nil => cases r; rfl
  | cons v vs ih => cases r with | cons _ b => simp [ih b]
theorem Rds.append {vs us : List Value} {ds es : List PyData} (r : Rds prog w Z h vs ds) (q : Rds prog w Z h us es) : Rds prog w Z h (vs ++ us) (ds ++ es) := by
  induction vs generalizing ds with
  | nil => cases r; exact q
  | cons v vs ih => cases r with | cons a b => exact .cons a (ih b)
theorem Rds.get {vs : List Value} {ds : List PyData} (r : Rds prog w Z h vs ds) {k : Nat} {d : PyData} (hd : ds[k]? = some d) : ∃ v, vs[k]? = some v ∧ Rd prog w Z h v d := by
  induction vs generalizing ds k with
  | nil => cases r; cases hd
  | cons v vs ih =>
    cases r with
    | cons a b =>
      cases k with
      | zero => cases hd; exact ⟨v, rfl, a⟩
      | succ k => exact ih b hd
theorem Rds.get' {vs : List Value} {ds : List PyData} (r : Rds prog w Z h vs ds) {k : Nat} {v : Value} (hv : vs[k]? = some v) : ∃ d, ds[k]? = some d ∧ Rd prog w Z h v d := by
  induction vs generalizing ds k with
  | nil => cases hv
  | cons v vs ih =>
    cases r with
    | cons a b =>
      cases k with
      | zero => cases hv; exact ⟨_, rfl, a⟩
      | succ k => exact ih b hv
theorem Rds.take {vs : List Value} {ds : List PyData} (r : Rds prog w Z h vs ds) (k : Nat) : Rds prog w Z h (vs.take k) (ds.take k) := by
  induction vs generalizing ds k with
  | nil => cases r; simp; exact .nil
  | cons v vs ih =>
    cases r with
    | cons a b =>
      cases k with
      | zero => exact .nil
      | succ k => exact .cons a (ih b k)
theorem Rds.drop {vs : List Value} {ds : List PyData} (r : Rds prog w Z h vs ds) (k : Nat) : Rds prog w Z h (vs.drop k) (ds.drop k) := by
  induction vs generalizing ds k with
  | nil => cases r; simp; exact .nil
  | cons v vs ih =>
    cases r with
    | cons a b =>
      cases k with
      | zero => exact .cons a b
      | succ k => exact ih b k

/-- no dict within -/
def noDict : PyData → Bool
  | .dict _ => false
  | .list xs | .tuple xs => noDicts xs
  | _ => true
where noDicts : List PyData → Bool
  | [] => true
  | x :: xs => noDict x && noDicts xs

mutual
theorem Rd.reads : ∀ {v : Value} {d : PyData}, Rd prog w Z h v d → noDict d = true → ∃ as, Reads h v d as
  | _, _, .none, _ => ⟨_, .none⟩
  | _, _, .bool b, _ => ⟨_, .bool b⟩
  | _, _, .int i t, _ => ⟨_, .int i t⟩
  | _, _, .str x t _, _ => ⟨_, .str x t⟩
  | _, _, .list e _ r, n => by
    obtain ⟨as, q⟩ := Rds.reads r (by simpa [noDict] using n)
    exact ⟨_, .list e rfl rfl q⟩
  | _, _, .tuple e _ r, n => by
    obtain ⟨as, q⟩ := Rds.reads r (by simpa [noDict] using n)
    exact ⟨_, .tuple e rfl rfl q⟩
  | _, _, .dict _ _ _ _ _, n => by simp [noDict] at n
theorem Rds.reads : ∀ {vs : List Value} {ds : List PyData}, Rds prog w Z h vs ds → noDict.noDicts ds = true → ∃ as, ReadsAll h vs ds as
  | _, _, .nil, _ => ⟨_, .nil⟩
  | _, _, .cons a b, n => by
    simp only [noDict.noDicts, Bool.and_eq_true] at n
    obtain ⟨as, q⟩ := Rd.reads a n.1
    obtain ⟨bs, q'⟩ := Rds.reads b n.2
    exact ⟨_, .cons q q'⟩
end
mutual
theorem Rd.canLay0 : ∀ {v : Value} {d : PyData}, Rd prog w Z h v d → noDict d = true → d.canLay0 = true
  | _, _, .none, _ => by simp [PyData.canLay0]
  | _, _, .bool b, _ => by simp [PyData.canLay0]
  | _, _, .int i t, _ => by simp [PyData.canLay0]
  | _, _, .str x t e, _ => by simpa [PyData.canLay0] using e
  | _, _, .list e _ r, n => by simpa [PyData.canLay0] using Rds.canLay0 r (by simpa [noDict] using n)
  | _, _, .tuple e _ r, n => by simpa [PyData.canLay0] using Rds.canLay0 r (by simpa [noDict] using n)
  | _, _, .dict _ _ _ _ _, n => by simp [noDict] at n
theorem Rds.canLay0 : ∀ {vs : List Value} {ds : List PyData}, Rds prog w Z h vs ds → noDict.noDicts ds = true → PyData.canLayAll0 ds = true
  | _, _, .nil, _ => by simp [PyData.canLayAll0]
  | _, _, .cons a b, n => by
    simp only [noDict.noDicts, Bool.and_eq_true] at n
    simp [PyData.canLayAll0, Rd.canLay0 a n.1, Rds.canLay0 b n.2]
end
end
end

section
set_option autoImplicit false
set_option linter.unusedVariables false
open PySem

structure Kp (A : Around) (s s' : Shared) : Prop where
  same : ∃ h' tk, s' = { s with heap := h', toks := tk }
  ext : Ext A s.heap s'.heap
theorem Kp.refl {A : Around} (s : Shared) : Kp A s s := ⟨⟨s.heap, s.toks, rfl⟩, Ext.refl _⟩
theorem Kp.trans {A : Around} {s₁ s₂ s₃ : Shared} (x : Kp A s₁ s₂) (y : Kp A s₂ s₃) : Kp A s₁ s₃ := by
  refine ⟨?_, x.ext.trans y.ext⟩
  obtain ⟨h, t, rfl⟩ := x.same
  obtain ⟨h', t', rfl⟩ := y.same
  exact ⟨h', t', rfl⟩
theorem Kp.tok {A : Around} (s : Shared) (t : Nat) : Kp A s { s with toks := t } := ⟨⟨s.heap, t, rfl⟩, Ext.refl _⟩
theorem Kp.of {A : Around} {s : Shared} {h : Heap} (t : Nat) (k : Ext A s.heap h) : Kp A s { s with heap := h, toks := t } := ⟨⟨h, t, rfl⟩, k⟩
theorem Kp.of' {A : Around} {s : Shared} {h : Heap} (k : Ext A s.heap h) : Kp A s { s with heap := h } := ⟨⟨h, s.toks, rfl⟩, k⟩
theorem Kp.push {A : Around} (s : Shared) (o : Obj) : Kp A s { s with heap := s.heap.push o } := ⟨⟨_, s.toks, rfl⟩, Ext.push o⟩
theorem Kp.ofKeeps {A : Around} {s s' : Shared} (x : Keeps s s') : Kp A s s' := by
  obtain ⟨h, t, rfl, k⟩ := x; exact ⟨⟨h, t, rfl⟩, .of k⟩

/-- what is fixed: the program, the world, the module's and the built-ins' names, the objects of the top -/
structure Cx where
  prog : Program
  w : World
  mg : Str → Option Value
  mb : Str → Option Value
  K : List (Addr × Obj)

abbrev Cx.M (C : Cx) : Model := model C.prog C.w

structure Base (C : Cx) (h : Heap) : Prop where
  g : h.Ns mainGlobals C.mg
  b : h.Ns builtinsNs C.mb
  lim : h.NoLimit
  dig : ∃ mc, h.Ns cStatics mc ∧ mc "sys.int_max_str_digits" = none
  k : ∀ a o, C.K.lookup a = some o → h.get? a = some o
  kf : ∀ a o, C.K.lookup a = some o → o.cls ≠ .type "frame"

theorem Base.keep {A : Around} {C : Cx} {h h' : Heap} (B : Base C h) (k : Ext A h h') : Base C h' where
  g := k.ns B.g
  b := k.ns B.b
  lim := k.noLimit B.lim
  dig := let ⟨mc, a, b⟩ := B.dig; ⟨mc, k.ns a, b⟩
  k := fun a o e => k.at (B.k a o e) (B.kf a o e)
  kf := B.kf

/-- the frames of the calls around -/
def FrOk (A : Around) (h : Heap) : Prop := ∃ l, A.frames = some l ∧ ∀ env ∈ l, env.scope.kind ≠ .module ∧ ∃ L o, env.frame = some L ∧ h.get? L = some o ∧ o.cls = .type "frame" ∧ ∃ es ep, o.data = .dict es ep
theorem FrOk.keep {A A' : Around} {h h' : Heap} (x : FrOk A h) (k : Ext A' h h') : FrOk A h' := by
  obtain ⟨l, hl, hx⟩ := x
  refine ⟨l, hl, fun env he => ?_⟩
  obtain ⟨h1, L, o, h2, h3, h4, es, ep, h5⟩ := hx env he
  obtain ⟨o', q1, q2, q3⟩ := k.stays h3
  exact ⟨h1, L, o', h2, q1, q3.trans h4, es, ep, q2.trans h5⟩

theorem FrOk.mut {A : Around} {h h' : Heap} {a : Addr} (x : FrOk A h) (k : ∀ b o, b ≠ a → h.get? b = some o → h'.get? b = some o)
    (hc : ∀ o es ep, h.get? a = some o → o.data = .dict es ep → ∃ o', h'.get? a = some o' ∧ o'.cls = o.cls ∧ ∃ es ep, o'.data = .dict es ep) : FrOk A h' := by
  obtain ⟨l, hl, hx⟩ := x
  refine ⟨l, hl, fun env he => ?_⟩
  obtain ⟨h1, L, o, h2, h3, h4, es, ep, h5⟩ := hx env he
  by_cases hL : L = a
  · subst hL
    obtain ⟨o', q1, q2, q3⟩ := hc o es ep h3 h5
    exact ⟨h1, L, o', h2, q1, q2.trans h4, q3⟩
  · exact ⟨h1, L, o, h2, k L o hL h3, h4, es, ep, h5⟩

/-- room for k more frames -/
structure OkA (A : Around) (k : Nat) : Prop where
  hd : A.handled = none
  dp : A.depth + k < recursionLimit
  un : A.units + 4 * k + 200 < cLine
theorem OkA.mono {A : Around} {k j : Nat} (x : OkA A k) (h : j ≤ k) : OkA A j := ⟨x.hd, by have := x.dp; omega, by have := x.un; omega⟩
theorem OkA.deeper {A : Around} {k : Nat} (x : OkA A (k + 1)) (env : Env) : OkA (A.deeper env) k :=
  ⟨x.hd, by have := x.dp; show A.depth + 1 + k < _; omega, by have := x.un; show A.units + 3 + 4 * k + 200 < _; omega⟩

/-- the frame's names -/
structure Vars (env : Env) (h : Heap) (m : Str → Option Value) : Prop where
  loc : ∃ ml, h.Ns env.locals ml ∧ ∀ x, env.kindOf x = some .local → ml x = m x
  cel : ∀ x c, env.cells.lookup x = some c → h.IsCell c (m x)
  hid : ∀ v, m ".acc" = some v → v = .ref (env.locals - 1)
theorem Vars.keep {A : Around} {env : Env} {h h' : Heap} {m : Str → Option Value} (V : Vars env h m) (k : Ext A h h') : Vars env h' m where
  loc := let ⟨ml, a, b⟩ := V.loc; ⟨ml, k.ns a, b⟩
  cel := fun x c e => k.cell (V.cel x c e)
  hid := V.hid

inductive Ent where
  | fz (d : PyData)
  | bor (d : PyData)
  | own (ds : List PyData)
  | any

abbrev Tab := List (Str × Ent)

structure Zok (C : Cx) (Z : Addr → Prop) (h : Heap) : Prop where
  st : ∀ a, Z a → ∃ o, h.get? a = some o
  k : ∀ a, Z a → C.K.lookup a = none
theorem Zok.keep {A : Around} {C : Cx} {Z : Addr → Prop} {h h' : Heap} (x : Zok C Z h) (k : Ext A h h') : Zok C Z h' := ⟨fun a z => let ⟨o, e⟩ := x.st a z; let ⟨o', e', _⟩ := k.stays e; ⟨o', e'⟩, x.k⟩
theorem Zok.fresh {C : Cx} {Z : Addr → Prop} {h : Heap} (x : Zok C Z h) : ¬ Z h.objs.size := fun q => by
  obtain ⟨o, e⟩ := x.st _ q; exact absurd (Heap.lt_size e) (Nat.lt_irrefl _)

/-- Z₀: what the caller may still write; Z: that and what this frame may still write -/
def EntOk (C : Cx) (Z₀ Z : Addr → Prop) (h : Heap) : Option Value → Ent → Prop
  | some v, .fz d => Rd C.prog C.w Z h v d
  | some v, .bor d => Rd C.prog C.w (fun a => Z a ∧ ¬ Z₀ a) h v d
  | some v, .own ds => ∃ a vs n, v = .ref a ∧ h.get? a = some (listO vs n) ∧ Z a ∧ Rds C.prog C.w Z h vs.toList ds
  | some _, .any => True
  | none, _ => False

theorem EntOk.keep {A : Around} {C : Cx} {Z₀ Z : Addr → Prop} {h h' : Heap} {v : Option Value} {e : Ent} (x : EntOk C Z₀ Z h v e) (k : Ext A h h') : EntOk C Z₀ Z h' v e := by
  cases v with
  | none => exact x
  | some v =>
    cases e with
    | fz d => exact Rd.keep k x
    | bor d => exact Rd.keep k x
    | own ds => obtain ⟨a, vs, n, rfl, e, z, r⟩ := x; exact ⟨a, vs, n, rfl, k.at e listO_cls, z, r.keep k⟩
    | any => trivial

structure FnEnv (env : Env) : Prop where
  kind : env.scope.kind = .function
  glob : env.globals = mainGlobals
  blt : env.builtins = builtinsNs
  acc : env.kindOf ".acc" = none

structure In (C : Cx) (A : Around) (env : Env) (Z₀ Z : Addr → Prop) (Γ : Tab) (m : Str → Option Value) (h : Heap) : Prop where
  fn : FnEnv env
  vars : Vars env h m
  ents : ∀ x e, Γ.lookup x = some e → EntOk C Z₀ Z h (m x) e
  base : Base C h
  z : Zok C Z h
  fr : FrOk A h
  zc : ∀ x c, env.cells.lookup x = some c → Z c
  cd : ∀ x y c, env.cells.lookup x = some c → env.cells.lookup y = some c → x = y
theorem In.keep {C : Cx} {A : Around} {env : Env} {Z₀ Z : Addr → Prop} {Γ : Tab} {m : Str → Option Value} {h h' : Heap} (I : In C A env Z₀ Z Γ m h) (k : Ext A h h') : In C A env Z₀ Z Γ m h' :=
  ⟨I.fn, I.vars.keep k, fun x e l => (I.ents x e l).keep k, I.base.keep k, I.z.keep k, I.fr.keep k, I.zc, I.cd⟩

def sel (μ : Bool) (Z : Addr → Prop) : Addr → Prop := if μ then Z else noZ
theorem Rd.sel {C : Cx} {Z : Addr → Prop} {h : Heap} {v : Value} {d : PyData} (μ : Bool) (r : Rd C.prog C.w Z h v d) : Rd C.prog C.w (sel μ Z) h v d := by
  cases μ with
  | true => exact r
  | false => exact r.weak

theorem In.sel {C : Cx} {A : Around} {env : Env} {Z₀ Z : Addr → Prop} {Γ : Tab} {m : Str → Option Value} {h : Heap} (I : In C A env Z₀ Z Γ m h) (μ : Bool) : ¬ Mine.sel μ Z h.objs.size := by
  intro q
  cases μ with
  | true => exact I.z.fresh q
  | false => exact q

/-- the expression yields the datum; old things stand -/
def Ev (C : Cx) (A : Around) (env : Env) (Γ : Tab) (e : Expr) (μ : Bool) (d : PyData) : Prop :=
  ∀ E s m Z₀ Z, In C A env Z₀ Z Γ m s.heap → wpAny C.M A (eval e env) (fun v s' => Kp A s s' ∧ Rd C.prog C.w (sel μ Z) s'.heap v d) E s
/-- the test comes out so -/
def Cd (C : Cx) (A : Around) (env : Env) (Γ : Tab) (e : Expr) (b : Bool) : Prop :=
  ∀ E s m Z₀ Z, In C A env Z₀ Z Γ m s.heap → wpAny C.M A (isTrue e env (eval e env)) (fun r s' => Kp A s s' ∧ r = b) E s

section
variable {C : Cx} {A : Around} {env : Env} {Γ : Tab} {e e₁ e₂ : Expr} {μ μ₁ μ₂ : Bool} {d d₁ d₂ : PyData}

theorem Ev.weak (h : Ev C A env Γ e true d) : Ev C A env Γ e μ d := fun E s m Z₀ Z I =>
  wpAny_mono (h E s m Z₀ Z I) (fun _ _ ⟨k, r⟩ => ⟨k, Rd.sel μ r⟩) fun _ _ x => x
theorem Ev.ofFlat (h : Ev C A env Γ e μ₁ d) (hf : flat d = true) : Ev C A env Γ e μ d := fun E s m Z₀ Z I =>
  wpAny_mono (h E s m Z₀ Z I) (fun _ _ ⟨k, r⟩ => ⟨k, r.ofFlat hf⟩) fun _ _ x => x

/-- evaluate, then go on -/
theorem Ev.go (h : Ev C A env Γ e μ d) {E : Value → Shared → Prop} {s : Shared} {m : Str → Option Value} {Z₀ Z : Addr → Prop} (I : In C A env Z₀ Z Γ m s.heap) {Q : Value → Shared → Prop}
    (k : ∀ v s', Kp A s s' → In C A env Z₀ Z Γ m s'.heap → Rd C.prog C.w (sel μ Z) s'.heap v d → Q v s') : wpAny C.M A (eval e env) Q E s :=
  wpAny_mono (h E s m Z₀ Z I) (fun v s' ⟨x, r⟩ => k v s' x (I.keep x.ext) r) fun _ _ x => x
theorem Ev.go2 (h₁ : Ev C A env Γ e₁ μ₁ d₁) (h₂ : Ev C A env Γ e₂ μ₂ d₂) {E : Value → Shared → Prop} {s : Shared} {m : Str → Option Value} {Z₀ Z : Addr → Prop} (I : In C A env Z₀ Z Γ m s.heap) {Q : Value → Value → Shared → Prop}
    (k : ∀ v₁ v₂ s', Kp A s s' → In C A env Z₀ Z Γ m s'.heap → Rd C.prog C.w (sel μ₁ Z) s'.heap v₁ d₁ → Rd C.prog C.w (sel μ₂ Z) s'.heap v₂ d₂ → Q v₁ v₂ s') :
    wpAny C.M A (eval e₁ env) (fun v₁ s₁ => wpAny C.M A (eval e₂ env) (fun v₂ s₂ => Q v₁ v₂ s₂) E s₁) E s :=
  h₁.go I fun v₁ s₁ k₁ I₁ r₁ => h₂.go I₁ fun v₂ s₂ k₂ I₂ r₂ => k v₁ v₂ s₂ (k₁.trans k₂) I₂ (r₁.keep k₂.ext) r₂

theorem ev_int (i : Int) {k : Nat} {pos : Pos} : Ev C A env Γ (.Constant (.int i) k pos) μ (.int i) := fun _ s _ _ _ _ =>
  wpAny_Constant_int ⟨Kp.tok s _, .int i _⟩
theorem ev_str (x : Str) {k : Nat} {pos : Pos} (hx : PyData.strOk x = true) : Ev C A env Γ (.Constant (.str x) k pos) μ (.str x) := fun _ s _ _ _ _ _ _ _ =>
  ⟨Kp.tok s _, .str x _ hx⟩
theorem ev_bool (b : Bool) {k : Nat} {pos : Pos} : Ev C A env Γ (.Constant (.bool b) k pos) μ (.bool b) := fun _ s _ _ _ _ _ _ _ => ⟨Kp.refl s, .bool b⟩
theorem ev_none {k : Nat} {pos : Pos} : Ev C A env Γ (.Constant .none k pos) μ .none := fun _ s _ _ _ _ _ _ _ => ⟨Kp.refl s, .none⟩

/-- a name of the frame, in its dict or in a cell -/
theorem loadVar {s : Shared} {m : Str → Option Value} {Z₀ Z : Addr → Prop} {x : Str} {v : Value} {pos : Pos} {E : Value → Shared → Prop} {Q : Value → Shared → Prop} (I : In C A env Z₀ Z Γ m s.heap)
    (hk : (env.kindOf x = some .local) ∨ ((env.kindOf x = some .cell ∨ env.kindOf x = some .free) ∧ (env.cells.lookup x).isSome = true)) (hv : m x = some v) (h : Q v s) (hd : (x == ("__debug__" : Str)) = false) (hc : (x == ("__classdict__" : Str)) = false) :
    wpAny C.M A (eval (.Name x pos) env) Q E s := by
  rcases hk with hk | ⟨hk, hs⟩
  · obtain ⟨ml, hn, hm⟩ := I.vars.loc
    exact wpAny_Name (wpAny_loadName_local I.fn.kind hk hn ((hm x hk).trans hv) h) hd
  · obtain ⟨c, hs⟩ := Option.isSome_iff_exists.mp hs
    have hcell := I.vars.cel x c hs
    rw [hv] at hcell
    rcases hk with hk | hk
    · exact wpAny_Name (wpAny_loadName_cell I.fn.kind hk hs hcell h) hd
    · exact wpAny_Name (wpAny_loadName_free I.fn.kind hk hs hcell h hc) hd

/-- x is one of the frame's own names -/
def isVar (env : Env) (x : Str) : Bool :=
  (match env.kindOf x with | some .local => true | some .cell | some .free => (env.cells.lookup x).isSome | _ => false) && !(x == ("__debug__" : Str)) && !(x == ("__classdict__" : Str))
theorem isVar_spec {x : Str} (h : isVar env x = true) : ((env.kindOf x = some .local) ∨ ((env.kindOf x = some .cell ∨ env.kindOf x = some .free) ∧ (env.cells.lookup x).isSome = true)) ∧ (x == ("__debug__" : Str)) = false ∧ (x == ("__classdict__" : Str)) = false := by
  unfold isVar at h
  simp only [Bool.and_eq_true, Bool.not_eq_true'] at h
  refine ⟨?_, h.1.2, h.2⟩
  have := h.1.1
  split at this
  · rename_i e; exact .inl e
  · rename_i e; exact .inr ⟨.inl e, this⟩
  · rename_i e; exact .inr ⟨.inr e, this⟩
  · cases this

theorem ev_var {x : Str} {pos : Pos} {d : PyData} (hx : isVar env x = true) (hl : Γ.lookup x = some (.fz d)) : Ev C A env Γ (.Name x pos) μ d := fun E s m Z₀ Z I => by
  obtain ⟨h1, h2, h3⟩ := isVar_spec hx
  have := I.ents x _ hl
  cases hv : m x with
  | none => rw [hv] at this; exact this.elim
  | some v => rw [hv] at this; exact loadVar I h1 hv ⟨Kp.refl s, Rd.sel μ this⟩ h2 h3
theorem ev_bor {x : Str} {pos : Pos} {d : PyData} (hx : isVar env x = true) (hl : Γ.lookup x = some (.bor d)) : Ev C A env Γ (.Name x pos) false d := fun E s m Z₀ Z I => by
  obtain ⟨h1, h2, h3⟩ := isVar_spec hx
  have := I.ents x _ hl
  cases hv : m x with
  | none => rw [hv] at this; exact this.elim
  | some v => rw [hv] at this; exact loadVar I h1 hv ⟨Kp.refl s, Rd.weak this⟩ h2 h3
theorem ev_own {x : Str} {pos : Pos} {ds : List PyData} (hx : isVar env x = true) (hl : Γ.lookup x = some (.own ds)) : Ev C A env Γ (.Name x pos) false (.list ds) := fun E s m Z₀ Z I => by
  obtain ⟨h1, h2, h3⟩ := isVar_spec hx
  have := I.ents x _ hl
  cases hv : m x with
  | none => rw [hv] at this; exact this.elim
  | some v =>
    rw [hv] at this
    obtain ⟨a, vs, n, rfl, e, z, r⟩ := this
    exact loadVar I h1 hv ⟨Kp.refl s, .list e (fun q => q) r.weak⟩ h2 h3
end
end

section
set_option autoImplicit false
set_option linter.unusedVariables false
open PySem PyProof.Rows

section
variable {C : Cx} {A : Around} {env : Env} {Γ : Tab} {e e₁ e₂ : Expr} {μ μ₁ μ₂ : Bool} {d d₁ d₂ : PyData}

/-! ## + - % * -/
def addD : PyData → PyData → Option PyData
  | .int a, .int b => some (.int (a + b))
  | .str x, .str y => some (.str (x ++ y))
  | .list xs, .list ys => some (.list (xs ++ ys))
  | _, _ => none
def addOk : PyData → PyData → Prop
  | .str x, .str y => x.length + y.length ≤ sizeLine
  | .list xs, .list ys => xs.length + ys.length ≤ sizeLine
  | _, _ => True

theorem strOk_append {x y : Str} (hx : PyData.strOk x = true) (hy : PyData.strOk y = true) : PyData.strOk (x ++ y) = true := by
  unfold PyData.strOk at *
  rw [Str.cps_append]
  simp only [Array.all_append, hx, hy, Bool.and_self]

theorem add_op {s : Shared} {v₁ v₂ : Value} {Z : Addr → Prop} {E : Value → Shared → Prop} {Q : Value → Shared → Prop} (r₁ : Rd C.prog C.w Z s.heap v₁ d₁) (r₂ : Rd C.prog C.w Z s.heap v₂ d₂) (hd : addD d₁ d₂ = some d) (hok : addOk d₁ d₂)
    (hz : ¬ Z s.heap.objs.size) (k : ∀ v s', Kp A s s' → Rd C.prog C.w Z s'.heap v d → Q v s') : wpAny C.M A (binaryOp .Add v₁ v₂) Q E s := by
  cases r₁ with
  | int i t =>
    cases r₂ with
    | int j u => cases hd; exact PyProof.Rows.add_int (k _ _ (Kp.tok s _) (.int _ _))
    | _ => cases hd
  | str x t hx =>
    cases r₂ with
    | str y u hy => cases hd; exact PyProof.Rows.add_str (fun t' tk => k _ _ (Kp.tok s _) (.str _ _ (strOk_append hx hy))) hok
    | _ => cases hd
  | list e₁ z₁ q₁ =>
    cases r₂ with
    | list e₂ z₂ q₂ =>
      cases hd
      refine P.add_list e₁ e₂ (k _ _ (Kp.push s _) (.list (n := 0) (Heap.get?_push_size _ rfl) hz ?_)) ?_
      · rw [Array.toList_append]
        exact (q₁.append q₂).push _
      · have := q₁.length; have := q₂.length
        simp only [Array.length_toList] at *
        have h : _ + _ ≤ _ := hok
        omega
    | _ => cases hd
  | none => cases r₂ <;> cases hd
  | bool b => cases r₂ <;> cases hd
  | tuple _ _ _ => cases r₂ <;> cases hd
  | dict _ _ _ _ _ => cases r₂ <;> cases hd

theorem ev_add {pos : Pos} (h₁ : Ev C A env Γ e₁ μ d₁) (h₂ : Ev C A env Γ e₂ μ d₂) (hd : addD d₁ d₂ = some d) (hok : addOk d₁ d₂) : Ev C A env Γ (.BinOp e₁ .Add e₂ pos) μ d := fun E s m Z₀ Z I =>
  wpAny_BinOp (h₁.go2 h₂ I fun _ _ s' k I' r₁ r₂ => add_op r₁ r₂ hd hok (I'.sel μ) fun _ _ k' r => ⟨k.trans k', r⟩)
theorem ev_sub {pos : Pos} {a b : Int} (h₁ : Ev C A env Γ e₁ μ₁ (.int a)) (h₂ : Ev C A env Γ e₂ μ₂ (.int b)) : Ev C A env Γ (.BinOp e₁ .Sub e₂ pos) μ (.int (a - b)) := fun E s m Z₀ Z I =>
  wpAny_BinOp (h₁.go2 h₂ I fun _ _ s' k I' r₁ r₂ => by cases r₁; cases r₂; exact sub_int' ⟨k.trans (Kp.tok _ _), .int _ _⟩)
theorem ev_mod {pos : Pos} {a b : Int} (h₁ : Ev C A env Γ e₁ μ₁ (.int a)) (h₂ : Ev C A env Γ e₂ μ₂ (.int b)) (hb : b ≠ 0) : Ev C A env Γ (.BinOp e₁ .Mod e₂ pos) μ (.int (a.fmod b)) := fun E s m Z₀ Z I =>
  wpAny_BinOp (h₁.go2 h₂ I fun _ _ s' k I' r₁ r₂ => by cases r₁; cases r₂; exact mod_int' hb ⟨k.trans (Kp.tok _ _), .int _ _⟩)
theorem ev_neg {pos : Pos} {a : Int} (h : Ev C A env Γ e μ₁ (.int a)) : Ev C A env Γ (.UnaryOp .USub e pos) μ (.int (-a)) := fun E s m Z₀ Z I =>
  wpAny_UnaryOp (h.go I fun _ s' k I' r => by cases r; exact PyProof.Rows.neg_int ⟨k.trans (Kp.tok _ _), .int _ _⟩)

/-! ## comparisons -/
/-- what == gives; the room it wants -/
def cmpD (op : CmpOp) (d₁ d₂ : PyData) : Option Bool :=
  match op, d₁, d₂ with
  | .Eq, _, _ => if noDict d₁ && noDict d₂ && decide (min d₁.depth d₂.depth ≤ 100) then some (PyData.eqv d₁ d₂) else none
  | .NotEq, _, _ => if noDict d₁ && noDict d₂ && decide (min d₁.depth d₂.depth ≤ 100) then some (!PyData.eqv d₁ d₂) else none
  | .Lt, .int a, .int b => some (decide (a < b))
  | .LtE, .int a, .int b => some (decide (a ≤ b))
  | .Gt, .int a, .int b => some (decide (b < a))
  | .GtE, .int a, .int b => some (decide (b ≤ a))
  | .In, .str y, .str x => some (!(Builtin.Str.occurrences x y 0 x.length 1).isEmpty)
  | .NotIn, .str y, .str x => some (!!(Builtin.Str.occurrences x y 0 x.length 1).isEmpty)
  | .In, x, .list xs => if noDict x && noDict (.list xs) && decide (min (PyData.depthAll xs) x.depth ≤ 100) then some (xs.any fun y => PyData.eqv y x) else none
  | .NotIn, x, .list xs => if noDict x && noDict (.list xs) && decide (min (PyData.depthAll xs) x.depth ≤ 100) then some (!xs.any fun y => PyData.eqv y x) else none
  | .In, x, .tuple xs => if noDict x && noDict (.tuple xs) && decide (min (PyData.depthAll xs) x.depth ≤ 100) then some (xs.any fun y => PyData.eqv y x) else none
  | .NotIn, x, .tuple xs => if noDict x && noDict (.tuple xs) && decide (min (PyData.depthAll xs) x.depth ≤ 100) then some (!xs.any fun y => PyData.eqv y x) else none
  | _, _, _ => none

theorem canLay_items {xs : List PyData} (h : (PyData.list xs).canLay0 = true) : PyData.canLayAll0 xs = true := by simpa [PyData.canLay0] using h
theorem canLay_itemsT {xs : List PyData} (h : (PyData.tuple xs).canLay0 = true) : PyData.canLayAll0 xs = true := by simpa [PyData.canLay0] using h

theorem cmp_op {op : CmpOp} {s : Shared} {v₁ v₂ : Value} {Z₁ Z₂ : Addr → Prop} {E : Value → Shared → Prop} {Q : Value → Shared → Prop} {b : Bool} (hu : A.units + 200 < cLine) (r₁ : Rd C.prog C.w Z₁ s.heap v₁ d₁) (r₂ : Rd C.prog C.w Z₂ s.heap v₂ d₂)
    (hd : cmpD op d₁ d₂ = some b) (k : Q (.bool b) s) : wpAny C.M A (compareOp op v₁ v₂) Q E s := by
  unfold cmpD at hd
  split at hd
  · split at hd
    · rename_i hc
      simp only [Bool.and_eq_true, decide_eq_true_eq] at hc
      obtain ⟨as, q₁⟩ := r₁.reads hc.1.1
      obtain ⟨bs, q₂⟩ := r₂.reads hc.1.2
      cases hd
      exact SeqAt.compareEq_reads q₁ q₂ (r₁.canLay0 hc.1.1) (r₂.canLay0 hc.1.2) (by have := hc.2; omega) k
    · cases hd
  · split at hd
    · rename_i hc
      simp only [Bool.and_eq_true, decide_eq_true_eq] at hc
      obtain ⟨as, q₁⟩ := r₁.reads hc.1.1
      obtain ⟨bs, q₂⟩ := r₂.reads hc.1.2
      cases hd
      exact SeqAt.compareNe_reads q₁ q₂ (r₁.canLay0 hc.1.1) (r₂.canLay0 hc.1.2) (by have := hc.2; omega) k
    · cases hd
  · cases r₁; cases r₂; cases hd; exact PyProof.Rows.lt_int k
  · cases r₁; cases r₂; cases hd; exact PyProof.Rows.le_int k
  · cases r₁; cases r₂; cases hd; exact PyProof.Rows.gt_int k
  · cases r₁; cases r₂; cases hd; exact PyProof.Rows.ge_int k
  · cases r₁; cases r₂; cases hd; exact PyProof.Rows.in_str k
  · cases r₁; cases r₂; cases hd; exact PyProof.Rows.notIn_str k
  · split at hd
    · rename_i hc
      simp only [Bool.and_eq_true, decide_eq_true_eq] at hc
      obtain ⟨as, q₁⟩ := r₁.reads hc.1.1
      obtain ⟨bs, q₂⟩ := r₂.reads hc.1.2
      cases hd
      exact SeqAt.in_list_reads q₂ q₁ (canLay_items (r₂.canLay0 hc.1.2)) (r₁.canLay0 hc.1.1) (by have := hc.2; omega) k
    · cases hd
  · split at hd
    · rename_i hc
      simp only [Bool.and_eq_true, decide_eq_true_eq] at hc
      obtain ⟨as, q₁⟩ := r₁.reads hc.1.1
      obtain ⟨bs, q₂⟩ := r₂.reads hc.1.2
      cases hd
      exact SeqAt.notIn_list_reads q₂ q₁ (canLay_items (r₂.canLay0 hc.1.2)) (r₁.canLay0 hc.1.1) (by have := hc.2; omega) k
    · cases hd
  · split at hd
    · rename_i hc
      simp only [Bool.and_eq_true, decide_eq_true_eq] at hc
      obtain ⟨as, q₁⟩ := r₁.reads hc.1.1
      obtain ⟨bs, q₂⟩ := r₂.reads hc.1.2
      cases hd
      exact SeqAt.in_tuple_reads q₂ q₁ (canLay_itemsT (r₂.canLay0 hc.1.2)) (r₁.canLay0 hc.1.1) (by have := hc.2; omega) k
    · cases hd
  · split at hd
    · rename_i hc
      simp only [Bool.and_eq_true, decide_eq_true_eq] at hc
      obtain ⟨as, q₁⟩ := r₁.reads hc.1.1
      obtain ⟨bs, q₂⟩ := r₂.reads hc.1.2
      cases hd
      exact SeqAt.notIn_tuple_reads q₂ q₁ (canLay_itemsT (r₂.canLay0 hc.1.2)) (r₁.canLay0 hc.1.1) (by have := hc.2; omega) k
    · cases hd
  · cases hd

theorem ev_cmp {n : Nat} {op : CmpOp} {pos : Pos} {b : Bool} (hA : OkA A n) (h₁ : Ev C A env Γ e₁ μ₁ d₁) (h₂ : Ev C A env Γ e₂ μ₂ d₂) (hd : cmpD op d₁ d₂ = some b) (hm : behindInMarks op e₂ = false) : Ev C A env Γ (.Compare e₁ [op] [e₂] pos) μ (.bool b) := fun E s m Z₀ Z I =>
  wpAny_Compare1 (h₁.go2 h₂ I fun _ _ s' k I' r₁ r₂ => cmp_op (by have := hA.un; omega) r₁ r₂ hd ⟨k, .bool b⟩) hm
theorem cd_cmp {n : Nat} {op : CmpOp} {pos : Pos} {b : Bool} (hA : OkA A n) (h₁ : Ev C A env Γ e₁ μ₁ d₁) (h₂ : Ev C A env Γ e₂ μ₂ d₂) (hd : cmpD op d₁ d₂ = some b) (hm : behindInMarks op e₂ = false) : Cd C A env Γ (.Compare e₁ [op] [e₂] pos) b := fun E s m Z₀ Z I =>
  wpAny_isTrue_Compare1 (h₁.go2 h₂ I fun _ _ s' k I' r₁ r₂ => cmp_op (by have := hA.un; omega) r₁ r₂ hd (wpAny_truthy_bool ⟨k, rfl⟩)) hm

/-! ## tests -/
theorem Cd.go {b : Bool} (h : Cd C A env Γ e b) {E : Value → Shared → Prop} {s : Shared} {m : Str → Option Value} {Z₀ Z : Addr → Prop} (I : In C A env Z₀ Z Γ m s.heap) {Q : Bool → Shared → Prop}
    (k : ∀ s', Kp A s s' → In C A env Z₀ Z Γ m s'.heap → Q b s') : wpAny C.M A (isTrue e env (eval e env)) Q E s :=
  wpAny_mono (h E s m Z₀ Z I) (fun v s' ⟨x, r⟩ => r ▸ k s' x (I.keep x.ext)) fun _ _ x => x
theorem cd_not {pos : Pos} {b : Bool} (h : Cd C A env Γ e b) : Cd C A env Γ (.UnaryOp .Not e pos) (!b) := fun E s m Z₀ Z I => isTrue_not (h.go I fun s' k _ => ⟨k, rfl⟩)
theorem cd_and0 {pos : Pos} : Cd C A env Γ (.BoolOp .And [] pos) true := fun E s m Z₀ Z I => isTrue_and_nil ⟨Kp.refl s, rfl⟩
theorem cd_or0 {pos : Pos} : Cd C A env Γ (.BoolOp .Or [] pos) false := fun E s m Z₀ Z I => isTrue_or_nil ⟨Kp.refl s, rfl⟩
theorem cd_and {pos : Pos} {rest : List Expr} {a b : Bool} (h : Cd C A env Γ e a) (h' : a = true → Cd C A env Γ (.BoolOp .And rest pos) b) : Cd C A env Γ (.BoolOp .And (e :: rest) pos) (a && b) := fun E s m Z₀ Z I =>
  isTrue_and (h.go I fun s' k I' => by
    cases a with
    | false => exact ⟨k, rfl⟩
    | true => exact (h' rfl).go I' fun s'' k' _ => ⟨k.trans k', rfl⟩)
theorem cd_or {pos : Pos} {rest : List Expr} {a b : Bool} (h : Cd C A env Γ e a) (h' : a = false → Cd C A env Γ (.BoolOp .Or rest pos) b) : Cd C A env Γ (.BoolOp .Or (e :: rest) pos) (a || b) := fun E s m Z₀ Z I =>
  isTrue_or (h.go I fun s' k I' => by
    cases a with
    | true => exact ⟨k, rfl⟩
    | false => exact (h' rfl).go I' fun s'' k' _ => ⟨k.trans k', rfl⟩)
/-- a bool by itself -/
theorem cd_bool {b : Bool} (h : Ev C A env Γ e μ (.bool b)) (he : ∀ whole : Sem Value, isTrue e env whole = (do let v ← whole; standAt e.pos; holding [v] (truthy v))) : Cd C A env Γ e b := fun E s m Z₀ Z I =>
  isTrue_plain (h.go I fun v s' k I' r => by cases r; exact wpAny_truthy_bool ⟨k, rfl⟩) (he _)

/-! ## displays -/
def notStar : Expr → Bool
  | .Starred _ _ => false
  | _ => true
def Evs (C : Cx) (A : Around) (env : Env) (Γ : Tab) (es : List Expr) (μ : Bool) (ds : List PyData) : Prop :=
  ∀ E s m Z₀ Z (pos : Pos), In C A env Z₀ Z Γ m s.heap → wpAny C.M A (spliced (backTo pos (starEach es env))) (fun vs s' => Kp A s s' ∧ Rds C.prog C.w (sel μ Z) s'.heap vs ds) E s
theorem starEach_cons {es : List Expr} (h : notStar e = true) : starEach (e :: es) env = (false, eval e env) :: starEach es env := by
  cases e <;> first | rfl | cases h
theorem evs_nil : Evs C A env Γ [] μ [] := fun E s m Z₀ Z pos I => Calls.spliced_nil ⟨Kp.refl s, .nil⟩
theorem evs_cons {es : List Expr} {ds : List PyData} (h : Ev C A env Γ e μ d) (hs : Evs C A env Γ es μ ds) (hn : notStar e = true) : Evs C A env Γ (e :: es) μ (d :: ds) := fun E s m Z₀ Z pos I => by
  rw [starEach_cons hn]
  exact Calls.spliced_cons (h.go I fun v s' k I' r => wpAny_mono (hs E s' m Z₀ Z pos I') (fun vs s'' ⟨k', r'⟩ => ⟨k.trans k', .cons (r.keep k'.ext) r'⟩) fun _ _ x => x)
theorem Evs.go {es : List Expr} {ds : List PyData} (h : Evs C A env Γ es μ ds) {E : Value → Shared → Prop} {s : Shared} {m : Str → Option Value} {Z₀ Z : Addr → Prop} {pos : Pos} (I : In C A env Z₀ Z Γ m s.heap) {Q : List Value → Shared → Prop}
    (k : ∀ vs s', Kp A s s' → In C A env Z₀ Z Γ m s'.heap → Rds C.prog C.w (sel μ Z) s'.heap vs ds → Q vs s') : wpAny C.M A (spliced (backTo pos (starEach es env))) Q E s :=
  wpAny_mono (h E s m Z₀ Z pos I) (fun v s' ⟨x, r⟩ => k v s' x (I.keep x.ext) r) fun _ _ x => x

theorem ev_list {es : List Expr} {ds : List PyData} {pos : Pos} (h : Evs C A env Γ es μ ds) (hz : ds.length ≤ sizeLine) : Ev C A env Γ (.List es pos) μ (.list ds) := fun E s m Z₀ Z I =>
  List_ (h.go I fun vs s' k I' r => wpAny_newList ⟨k.trans (Kp.push _ _), .list (n := 0) (Heap.get?_push_size _ rfl) (I'.sel μ) (by simpa using r.push _)⟩ (by rw [r.length]; exact hz))
theorem ev_tuple {es : List Expr} {ds : List PyData} {k : Nat} {pos : Pos} (h : Evs C A env Γ es μ ds) (hz : ds.length ≤ sizeLine) : Ev C A env Γ (.Tuple es k pos) μ (.tuple ds) := fun E s m Z₀ Z I =>
  Tuple_ (h.go I fun vs s' k I' r => wpAny_newTuple ⟨k.trans (Kp.push _ _), .tuple (n := 0) (Heap.get?_push_size _ rfl) (I'.sel μ) (by simpa using r.push _)⟩ (by rw [r.length]; exact hz))

/-! ## subscripts -/
theorem subscripted_ops (slice : Expr) (o i : Value) : ∃ ops, subscripted slice false o i = operate ops (getItem o i) := by
  unfold subscripted
  split
  · exact ⟨_, rfl⟩
  · rename_i _ h; cases h
  · exact ⟨_, rfl⟩
theorem item_op {value slice : Expr} {s : Shared} {v : Value} {k : Int} {t : Tok} {Z : Addr → Prop} {E : Value → Shared → Prop} {Q : Value → Shared → Prop} {ds : List PyData} (r : Rd C.prog C.w Z s.heap v d₁) (hd : d₁ = .list ds ∨ d₁ = .tuple ds)
    (h0 : 0 ≤ k) (hk : k < 2 ^ 63) (hx : ds[k.toNat]? = some d) (kk : ∀ v, Rd C.prog C.w Z s.heap v d → Q v s) : wpAny C.M A (subscriptTail value slice v (.int k t)) Q E s := by
  obtain ⟨ops, ho⟩ := subscripted_ops slice v (.int k t)
  rcases hd with rfl | rfl
  · cases r with
    | list e z q =>
      obtain ⟨x, hx', rx⟩ := q.get hx
      have hl : s.heap.IsList _ _ := ⟨_, e, rfl, _, rfl⟩
      exact tail_any hl.typeIs slot_list_getitem.lookup (wpAny_getItem_list hl h0 hk (by simpa using hx') (kk x rx)) ho
  · cases r with
    | @tuple a vs n _ e z q =>
      obtain ⟨x, hx', rx⟩ := q.get hx
      have hl : IsTup s.heap _ _ := ⟨_, e, rfl, _, rfl⟩
      have hlt : k.toNat < ds.length := by
        rcases Nat.lt_or_ge k.toNat ds.length with h | h
        · exact h
        · rw [List.getElem?_eq_none h] at hx; cases hx
      have hlen := q.length
      simp only [Array.length_toList] at hlen
      refine tail_any hl.typeIs slot_tuple_getitem.lookup (PyProof.Rows.getItem_tuple hl (by omega) hk (j := k.toNat) ?_ (by simpa using hx') (kk x rx)) ho
      unfold seqIndex?
      have h1 : ¬ k < 0 := by omega
      have h2 : k < (vs.size : Int) := by rw [hlen]; omega
      simp only [h1, if_false]
      rw [if_pos (by simp only [Bool.and_eq_true, decide_eq_true_eq]; exact ⟨h0, h2⟩)]

def itemsD : PyData → Option (List PyData)
  | .list ds | .tuple ds => some ds
  | _ => none
theorem itemsD_spec {ds : List PyData} (h : itemsD d = some ds) : d = .list ds ∨ d = .tuple ds := by
  cases d <;> cases h <;> simp
theorem ev_item {pos : Pos} {ds : List PyData} {k : Int} (h₁ : Ev C A env Γ e₁ μ d₁) (h₂ : Ev C A env Γ e₂ μ₂ (.int k)) (hd : itemsD d₁ = some ds) (h0 : 0 ≤ k) (hk : k < 2 ^ 63) (hx : ds[k.toNat]? = some d) :
    Ev C A env Γ (.Subscript e₁ e₂ pos) μ d := fun E s m Z₀ Z I =>
  Subscript_ (h₁.go2 h₂ I fun _ _ s' kp I' r₁ r₂ => by cases r₂; exact item_op r₁ (itemsD_spec hd) h0 hk hx fun v r => ⟨kp, r⟩)
/-- a written place -/
theorem ev_at {pos p : Pos} {c : Nat} {ds : List PyData} (n : Nat) (h₁ : Ev C A env Γ e₁ μ d₁) (hd : itemsD d₁ = some ds) (hk : (n : Int) < 2 ^ 63) (hx : ds[n]? = some d) :
    Ev C A env Γ (.Subscript e₁ (.Constant (.int n) c p) pos) μ d := ev_item (μ₂ := true) h₁ (ev_int n) hd (by omega) hk (by simpa using hx)
end
end

section
set_option autoImplicit false
set_option linter.unusedVariables false
open PySem PyProof.Rows

/-- the frame between two statements. h₀: the heap at its start; H: objects that must stay; V: values that must go on reading -/
structure StW (C : Cx) (A : Around) (env : Env) (h₀ : Heap) (Z₀ : Addr → Prop) (H : List (Addr × Obj)) (V : List (Value × PyData)) (Γ : Tab) (h : Heap) (Z : Addr → Prop) (m : Str → Option Value) : Prop where
  i : In C A env Z₀ Z Γ m h
  b0 : Base C h₀
  keep : Ext A h₀ h
  z0 : ∀ a, Z₀ a → Z a ∧ ∃ o, h₀.get? a = some o
  zl : Z env.locals
  nl : h₀.get? env.locals = none
  zc : ∀ x c, env.cells.lookup x = some c → Z c
  cd : ∀ x y c, env.cells.lookup x = some c → env.cells.lookup y = some c → x = y
  hs : ∀ p ∈ H, h.get? p.1 = some p.2 ∧ ¬ Z p.1 ∧ p.2.cls ≠ .type "frame"
  vs : ∀ p ∈ V, Rd C.prog C.w Z h p.1 p.2
  ow : ∀ x ds a, Γ.lookup x = some (.own ds) → m x = some (.ref a) → h₀.get? a = none ∧ ∀ y es, Γ.lookup y = some (.own es) → m y = some (.ref a) → y = x

def Same (s s' : Shared) : Prop := ∃ h' tk, s' = { s with heap := h', toks := tk }
theorem Same.refl (s : Shared) : Same s s := ⟨s.heap, s.toks, rfl⟩
theorem Same.trans {s₁ s₂ s₃ : Shared} (x : Same s₁ s₂) (y : Same s₂ s₃) : Same s₁ s₃ := by
  obtain ⟨h, t, rfl⟩ := x
  obtain ⟨h', t', rfl⟩ := y
  exact ⟨h', t', rfl⟩
theorem Kp.toSame {A : Around} {s s' : Shared} (k : Kp A s s') : Same s s' := k.same

/-- the cell of x, if it has one, is the frame's own -/
def Owned (env : Env) (h₀ : Heap) (x : Str) : Prop := ∀ c, env.cells.lookup x = some c → h₀.get? c = none
/-- s₀: the state at the frame's start -/
def St (C : Cx) (A : Around) (env : Env) (s₀ : Shared) (Z₀ : Addr → Prop) (H : List (Addr × Obj)) (V : List (Value × PyData)) (Γ : Tab) (s : Shared) : Prop :=
  Same s₀ s ∧ ∃ Z m, StW C A env s₀.heap Z₀ H V Γ s.heap Z m

section
variable {C : Cx} {A : Around} {env : Env} {h₀ : Heap} {Z₀ : Addr → Prop} {H : List (Addr × Obj)} {V : List (Value × PyData)} {Γ : Tab} {h h' : Heap} {Z : Addr → Prop} {m : Str → Option Value}

theorem StW.ext (S : StW C A env h₀ Z₀ H V Γ h Z m) (k : Ext A h h') : StW C A env h₀ Z₀ H V Γ h' Z m where
  i := S.i.keep k
  b0 := S.b0
  keep := S.keep.trans k
  z0 := S.z0
  zl := S.zl
  nl := S.nl
  zc := S.zc
  cd := S.cd
  hs := fun p hp => ⟨k.at (S.hs p hp).1 (S.hs p hp).2.2, (S.hs p hp).2⟩
  vs := fun p hp => (S.vs p hp).keep k
  ow := S.ow
theorem St.ext {s₀ s s' : Shared} (S : St C A env s₀ Z₀ H V Γ s) (k : Kp A s s') : St C A env s₀ Z₀ H V Γ s' := let ⟨ss, Z, m, S⟩ := S; ⟨ss.trans k.toSame, Z, m, S.ext k.ext⟩

/-- fewer entries -/
theorem StW.sub {Γ' : Tab} (S : StW C A env h₀ Z₀ H V Γ h Z m) (hs : ∀ x e, Γ'.lookup x = some e → Γ.lookup x = some e) : StW C A env h₀ Z₀ H V Γ' h Z m where
  i := ⟨S.i.fn, S.i.vars, fun x e l => S.i.ents x e (hs x e l), S.i.base, S.i.z, S.i.fr, S.i.zc, S.i.cd⟩
  b0 := S.b0
  keep := S.keep
  z0 := S.z0
  zl := S.zl
  nl := S.nl
  zc := S.zc
  cd := S.cd
  hs := S.hs
  vs := S.vs
  ow := fun x ds a l e => ⟨(S.ow x ds a (hs _ _ l) e).1, fun y es l' e' => (S.ow x ds a (hs _ _ l) e).2 y es (hs _ _ l') e'⟩

theorem entOk_mut {a : Addr} {v : Option Value} {e : Ent} (za : Z a) (n0 : ¬ Z₀ a) (sb : Heap.SameBut a h h') (hne : ∀ ds b, e = .own ds → v = some (.ref b) → b ≠ a) (x : EntOk C Z₀ Z h v e) : EntOk C Z₀ Z h' v e := by
  cases v with
  | none => exact x
  | some v =>
    cases e with
    | fz d => exact Rd.keepZ (fun b o nz e => (sb.2 b (by rintro rfl; exact nz za)).trans e) x
    | bor d => exact Rd.keepZ (fun b o nz e => (sb.2 b (by rintro rfl; exact nz ⟨za, n0⟩)).trans e) x
    | own ds =>
      obtain ⟨b, vs, n, rfl, e, z, r⟩ := x
      exact ⟨b, vs, n, rfl, (sb.2 b (hne ds b rfl rfl)).trans e, z, r.keepZ fun b o nz e => (sb.2 b (by rintro rfl; exact nz za)).trans e⟩
    | any => trivial

theorem lookup_cons_ne {x y : Str} {e : Ent} (hne : y ≠ x) : List.lookup y ((x, e) :: Γ) = Γ.lookup y := by
  rw [List.lookup_cons]
  have : (y == x) = false := by simpa using hne
  rw [this]
theorem lookup_cons_eq {x : Str} {e : Ent} : List.lookup x ((x, e) :: Γ) = some e := by
  rw [List.lookup_cons]; simp

def upd (m : Str → Option Value) (x : Str) (v : Value) : Str → Option Value := fun y => if y = x then some v else m y

/-- one address of the frame's own is written, the names' table changes at x -/
theorem StW.mut {a : Addr} {x : Str} {v : Value} {en : Ent} {o : Obj} (S : StW C A env h₀ Z₀ H V Γ h Z m) (za : Z a) (na : h₀.get? a = none) (sb : Heap.SameBut a h h') (ha' : h'.get? a = some o) (hfr : FrOk A h')
    (hno : ∀ y ds, y ≠ x → Γ.lookup y = some (.own ds) → m y ≠ some (.ref a))
    (hv : Vars env h' (upd m x v)) (he : EntOk C Z₀ Z h' (some v) en)
    (hown : ∀ ds, en = .own ds → ∀ b, v = .ref b → h₀.get? b = none ∧ ∀ y es, y ≠ x → Γ.lookup y = some (.own es) → m y ≠ some (.ref b)) :
    StW C A env h₀ Z₀ H V ((x, en) :: Γ) h' Z (upd m x v) := by
  have n0 : ¬ Z₀ a := fun q => by obtain ⟨_, o, e⟩ := S.z0 a q; rw [na] at e; cases e
  have kz : ∀ b o, ¬ Z b → h.get? b = some o → h'.get? b = some o := fun b o nz e => (sb.2 b (by rintro rfl; exact nz za)).trans e
  have keep' : Ext A h₀ h' := S.keep.mutOf na fun b o hb e => (sb.2 b hb).trans e
  refine ⟨⟨S.i.fn, hv, fun y e l => ?_, S.b0.keep keep', ⟨fun b z => ?_, S.i.z.k⟩, hfr, S.i.zc, S.i.cd⟩, S.b0, keep', S.z0, S.zl, S.nl, S.zc, S.cd, fun p hp => ?_, fun p hp => (S.vs p hp).keepZ kz, fun y ds b l e => ?_⟩
  · by_cases hyx : y = x
    · subst hyx
      rw [lookup_cons_eq] at l; cases l
      simp only [upd, if_true]; exact he
    · rw [lookup_cons_ne hyx] at l
      simp only [upd, if_neg hyx]
      refine entOk_mut za n0 sb (fun ds b e1 e2 e3 => ?_) (S.i.ents y e l)
      subst e1 e3
      exact hno y ds hyx l e2
  · by_cases hb : b = a
    · subst hb; exact ⟨o, ha'⟩
    · obtain ⟨o, e⟩ := S.i.z.st b z
      exact ⟨o, (sb.2 b hb).trans e⟩
  · obtain ⟨e, d⟩ := S.hs p hp
    exact ⟨(sb.2 p.1 fun (q : p.1 = a) => d.1 (by rw [q]; exact za)).trans e, d⟩
  · by_cases hyx : y = x
    · subst hyx
      rw [lookup_cons_eq] at l
      simp only [upd, if_true] at e
      cases l; cases e
      obtain ⟨q1, q2⟩ := hown ds rfl b rfl
      refine ⟨q1, fun z es l' e' => ?_⟩
      by_cases hz : z = y
      · exact hz
      · rw [lookup_cons_ne hz] at l'
        simp only [upd, if_neg hz] at e'
        exact absurd e' (q2 z es hz l')
    · rw [lookup_cons_ne hyx] at l
      simp only [upd, if_neg hyx] at e
      obtain ⟨q1, q2⟩ := S.ow y ds b l e
      refine ⟨q1, fun z es l' e' => ?_⟩
      by_cases hz : z = x
      · subst hz
        rw [lookup_cons_eq] at l'
        simp only [upd, if_true] at e'
        cases l'; cases e'
        exact absurd e ((hown es rfl b rfl).2 y ds hyx l)
      · rw [lookup_cons_ne hz] at l'
        simp only [upd, if_neg hz] at e'
        exact q2 z es l' e'

theorem vars_local {x : Str} {v : Value} {ml : Str → Option Value} (V : Vars env h m) (hk : env.kindOf x = some .local) (hc : env.cells.lookup x = none) (hn : h'.Ns env.locals ml) (hml : ∀ y, env.kindOf y = some .local → ml y = upd m x v y)
    (sb : Heap.SameBut env.locals h h') (hlc : ∀ y c, env.cells.lookup y = some c → c ≠ env.locals) (hx : x ≠ ".acc") : Vars env h' (upd m x v) where
  loc := ⟨ml, hn, hml⟩
  cel := fun y c e => by
    have hyx : y ≠ x := by rintro rfl; rw [hc] at e; cases e
    simp only [upd, if_neg hyx]
    exact (V.cel y c e).sameBut sb (hlc y c e)
  hid := fun u q => V.hid u (by simpa [upd, Ne.symm hx] using q)

/-- the kind of a name that the frame may store -/
def isLoc (env : Env) (x : Str) : Bool :=
  match env.kindOf x with
  | some .local => (env.cells.lookup x).isNone
  | some .cell => (env.cells.lookup x).isSome
  | _ => false

/-- a name is stored -/
theorem StW.store {E : Value → Shared → Prop} {s : Shared} {x : Str} {v : Value} {en : Ent} {Q : Unit → Shared → Prop} (S : StW C A env h₀ Z₀ H V Γ s.heap Z m) (hx : isLoc env x = true) (oc : ∀ c, env.cells.lookup x = some c → h₀.get? c = none)
    (he : ∀ h', (∀ b o, ¬ Z b ∨ (∃ vs n, o = listO vs n) → s.heap.get? b = some o → h'.get? b = some o) → EntOk C Z₀ Z h' (some v) en)
    (hown : ∀ ds, en = .own ds → ∀ b, v = .ref b → h₀.get? b = none ∧ ∀ y es, y ≠ x → Γ.lookup y = some (.own es) → m y ≠ some (.ref b))
    (k : ∀ h' tk, StW C A env h₀ Z₀ H V ((x, en) :: Γ) h' Z (upd m x v) → Q () { s with heap := h', toks := tk }) : wpAny C.M A (storeName env x v) Q E s := by
  unfold isLoc at hx
  have hcl : ∀ y c, env.cells.lookup y = some c → c ≠ env.locals := fun y c e q => by
    obtain ⟨ml, hn, _⟩ := S.i.vars.loc
    obtain ⟨o, es, ep, ho, hd, _⟩ := hn
    obtain ⟨o', ho', hd'⟩ := S.i.vars.cel y c e
    rw [q, ho] at ho'; cases ho'; rw [hd] at hd'; cases hd'
  split at hx
  · rename_i hk
    have hc : env.cells.lookup x = none := by simpa using hx
    obtain ⟨ml, hn, hm⟩ := S.i.vars.loc
    rw [storeName_local hk (by rw [S.i.fn.kind]; rfl)]
    refine nsSet_cls hn fun h' hn' sb hcls => k h' _ ?_
    obtain ⟨o, es, ep, ho, hd, _⟩ := id hn
    obtain ⟨o', es', ep', ho', hd', _⟩ := id hn'
    refine S.mut (a := env.locals) S.zl S.nl sb ho' (S.i.fr.mut (fun b o hb e => (sb.2 b hb).trans e) fun o₂ es₂ ep₂ e2 _ => by obtain ⟨o₃, q1, q2⟩ := hcls o₂ e2; rw [ho'] at q1; cases q1; exact ⟨o', ho', q2, es', ep', hd'⟩) (fun y ds hy l e => ?_) (vars_local S.i.vars hk hc hn' (fun y hy => ?_) sb hcl (by rintro rfl; rw [S.i.fn.acc] at hk; cases hk)) (he h' fun b o₂ hb e => (sb.2 b ?_).trans e) hown
    · have := S.i.ents y _ l
      rw [e] at this
      obtain ⟨b, vs, n, e1, e2, _⟩ := this
      cases e1; rw [ho] at e2; cases e2; cases hd
    · by_cases hyx : y = x
      · simp [upd, hyx]
      · simp [upd, hyx, hm y hy]
    · rintro rfl
      rcases hb with hb | ⟨vs, n, rfl⟩
      · exact hb S.zl
      · rw [ho] at e; cases e; cases hd
  · rename_i hk
    obtain ⟨c, hc⟩ := Option.isSome_iff_exists.mp hx
    have hcell := S.i.vars.cel x c hc
    have zc := S.zc x c hc
    have nc := oc c hc
    refine wpAny_storeName_cell S.i.fn.kind hk hc hcell fun h' hc' sb => k h' _ ?_
    obtain ⟨o, ho, hd⟩ := id hcell
    obtain ⟨o', ho', hd'⟩ := id hc'
    refine S.mut (a := c) zc nc sb ho' (S.i.fr.mut (fun b o hb e => (sb.2 b hb).trans e) fun o₂ es₂ ep₂ e2 q => by rw [ho] at e2; cases e2; rw [hd] at q; cases q) (fun y ds hy l e => ?_) ⟨?_, fun y c' e => ?_, fun u q => S.i.vars.hid u (by have hx' : x ≠ ".acc" := (by rintro rfl; rw [S.i.fn.acc] at hk; cases hk); simpa [upd, Ne.symm hx'] using q)⟩ (he h' fun b o₂ hb e => (sb.2 b ?_).trans e) hown
    · have := S.i.ents y _ l
      rw [e] at this
      obtain ⟨b, vs, n, e1, e2, _⟩ := this
      cases e1; rw [ho] at e2; cases e2; cases hd
    · obtain ⟨ml, hn, hm⟩ := S.i.vars.loc
      refine ⟨ml, hn.sameBut sb (Ne.symm (hcl x c hc)), fun y hy => ?_⟩
      have hyx : y ≠ x := by rintro rfl; rw [hk] at hy; cases hy
      simp [upd, hyx, hm y hy]
    · by_cases hyx : y = x
      · subst hyx
        rw [hc] at e; cases e
        simpa [upd] using hc'
      · simp only [upd, if_neg hyx]
        exact (S.i.vars.cel y c' e).sameBut sb fun q => hyx (S.cd y x c (q ▸ e) hc)
    · rintro rfl
      rcases hb with hb | ⟨vs, n, rfl⟩
      · exact hb zc
      · rw [ho] at e; cases e; cases hd
  · cases hx

/-- a datum is stored -/
theorem StW.storeFz {E : Value → Shared → Prop} {s : Shared} {x : Str} {v : Value} {d : PyData} {Q : Unit → Shared → Prop} (S : StW C A env h₀ Z₀ H V Γ s.heap Z m) (hx : isLoc env x = true) (oc : ∀ c, env.cells.lookup x = some c → h₀.get? c = none) (r : Rd C.prog C.w Z s.heap v d)
    (k : ∀ h' tk, StW C A env h₀ Z₀ H V ((x, .fz d) :: Γ) h' Z (upd m x v) → Q () { s with heap := h', toks := tk }) : wpAny C.M A (storeName env x v) Q E s :=
  S.store (en := .fz d) hx oc (fun h' hk => Rd.keepZ (fun b o nz e => hk b o (.inl nz) e) r) (fun ds q => nomatch q) k

/-- more addresses may be written: a new one -/
theorem StW.grow (S : StW C A env h₀ Z₀ H V Γ h Z m) (o : Obj) (hf : o.isFreed = false) : StW C A env h₀ Z₀ H V Γ (h.push o) (fun b => Z b ∨ b = h.objs.size) m := by
  have hnone : h.get? h.objs.size = none := Heap.get?_none_of_le (Nat.le_refl _)
  have hz : ∀ b o, h.get? b = some o → (Z b ∨ b = h.objs.size) → Z b := fun b o e q => q.elim id fun q => by rw [q, hnone] at e; cases e
  have k : Ext A h (h.push o) := Ext.push o
  have S' := S.ext k
  refine ⟨⟨S.i.fn, S'.i.vars, fun x e l => ?_, S'.i.base, ⟨fun b q => ?_, fun b q => ?_⟩, S'.i.fr, fun x c e => .inl (S.zc x c e), S.cd⟩, S.b0, S'.keep, fun a q => ⟨.inl (S.z0 a q).1, (S.z0 a q).2⟩, .inl S.zl, S.nl, fun x c e => .inl (S.zc x c e), S.cd, fun p hp => ?_, fun p hp => ((S.vs p hp).reZ hz).keep k, S.ow⟩
  · have := S.i.ents x e l
    cases hv : m x with
    | none => rw [hv] at this; exact this
    | some v =>
      rw [hv] at this
      cases e with
      | fz d => exact (Rd.reZ hz this).keep k
      | bor d => exact (Rd.reZ (fun b o e q => ⟨hz b o e q.1, q.2⟩) this).keep k
      | own ds => obtain ⟨a, vs, n, rfl, e, z, r⟩ := this; exact ⟨a, vs, n, rfl, k.at e listO_cls, .inl z, (r.reZ hz).keep k⟩
      | any => trivial
  · rcases q with q | rfl
    · obtain ⟨o', e⟩ := S.i.z.st b q; exact ⟨o', Heap.get?_push_of_some _ e⟩
    · exact ⟨o, Heap.get?_push_size _ hf⟩
  · rcases q with q | rfl
    · exact S.i.z.k b q
    · cases e : C.K.lookup h.objs.size with
      | none => rfl
      | some o' => have := S.i.base.k _ _ e; rw [hnone] at this; cases this
  · obtain ⟨e, d⟩ := S.hs p hp
    exact ⟨Heap.get?_push_of_some _ e, fun q => d.1 (hz _ _ e q), d.2⟩

/-- a list of the frame's own that nobody writes any more -/
theorem StW.freeze {x : Str} {ds : List PyData} (S : StW C A env h₀ Z₀ H V Γ h Z m) (l : Γ.lookup x = some (.own ds)) : ∃ Z', StW C A env h₀ Z₀ H V ((x, .fz (.list ds)) :: Γ) h Z' m := by
  have he := S.i.ents x _ l
  cases hv : m x with
  | none => rw [hv] at he; exact he.elim
  | some v =>
    rw [hv] at he
    obtain ⟨a, vs, n, rfl, e, z, r⟩ := he
    obtain ⟨na, uniq⟩ := S.ow x ds a l hv
    have hz : ∀ b o, h.get? b = some o → (Z b ∧ b ≠ a) → Z b := fun b o _ q => q.1
    have hla : env.locals ≠ a := by
      rintro rfl
      obtain ⟨ml, hn, _⟩ := S.i.vars.loc
      obtain ⟨o, es, ep, ho, hd, _⟩ := hn
      rw [ho] at e; cases e; cases hd
    have zc' : ∀ y c, env.cells.lookup y = some c → Z c ∧ c ≠ a := fun y c ec => ⟨S.zc y c ec, fun q => by
      subst q
      obtain ⟨o, ho, hd⟩ := S.i.vars.cel y c ec
      rw [ho] at e; cases e; cases hd⟩
    refine ⟨fun b => Z b ∧ b ≠ a, ⟨S.i.fn, S.i.vars, fun y en ly => ?_, S.i.base, ⟨fun b q => S.i.z.st b q.1, fun b q => S.i.z.k b q.1⟩, S.i.fr, zc', S.cd⟩, S.b0, S.keep, fun b q => ⟨⟨(S.z0 b q).1, fun q' => ?_⟩, (S.z0 b q).2⟩, ⟨S.zl, hla⟩, S.nl, zc', S.cd, fun p hp => ⟨(S.hs p hp).1, fun q => (S.hs p hp).2.1 q.1, (S.hs p hp).2.2⟩, fun p hp => (S.vs p hp).reZ hz, fun y es b ly eb => ?_⟩
    · by_cases hyx : y = x
      · subst hyx
        rw [lookup_cons_eq] at ly; cases ly
        rw [hv]
        exact .list e (fun q => q.2 rfl) (r.reZ hz)
      · rw [lookup_cons_ne hyx] at ly
        have := S.i.ents y en ly
        cases hvy : m y with
        | none => rw [hvy] at this; exact this
        | some v =>
          rw [hvy] at this
          cases en with
          | fz d => exact Rd.reZ hz this
          | bor d => exact Rd.reZ (fun b o e q => ⟨q.1.1, q.2⟩) this
          | own es =>
            obtain ⟨b, us, n', rfl, e', z', r'⟩ := this
            exact ⟨b, us, n', rfl, e', ⟨z', by rintro rfl; exact hyx (uniq y es ly hvy)⟩, r'.reZ hz⟩
          | any => trivial
    · subst q'
      obtain ⟨_, o, e'⟩ := S.z0 b q; rw [na] at e'; cases e'
    · by_cases hyx : y = x
      · subst hyx; rw [lookup_cons_eq] at ly; cases ly
      · rw [lookup_cons_ne hyx] at ly
        obtain ⟨q1, q2⟩ := S.ow y es b ly eb
        refine ⟨q1, fun w' fs lw ew => ?_⟩
        by_cases hwx : w' = x
        · subst hwx; rw [lookup_cons_eq] at lw; cases lw
        · rw [lookup_cons_ne hwx] at lw; exact q2 w' fs lw ew
theorem St.freeze {s₀ s : Shared} {x : Str} {ds : List PyData} (S : St C A env s₀ Z₀ H V Γ s) (l : Γ.lookup x = some (.own ds)) : St C A env s₀ Z₀ H V ((x, .fz (.list ds)) :: Γ) s := by
  obtain ⟨ss, Z, m, S⟩ := S
  obtain ⟨Z', S'⟩ := S.freeze l
  exact ⟨ss, Z', m, S'⟩

theorem upd_self {x : Str} {v : Value} (hv : m x = some v) : upd m x v = m := by
  funext y
  by_cases h : y = x
  · simp [upd, h, hv]
  · simp [upd, h]

/-- an item is appended to a list of the frame's own -/
theorem StW.append {E : Value → Shared → Prop} {s : Shared} {x : Str} {ds : List PyData} {d : PyData} {v u : Value} {Q : Value → Shared → Prop} (S : StW C A env h₀ Z₀ H V Γ s.heap Z m) (l : Γ.lookup x = some (.own ds)) (hv : m x = some v) (hsz : ds.length ≤ sizeLine)
    (r : Rd C.prog C.w Z s.heap u d) (k : ∀ a h', v = .ref a → StW C A env h₀ Z₀ H V ((x, .own (ds ++ [d])) :: Γ) h' Z m → Q .none { s with heap := h' }) :
    ∃ a items n, v = .ref a ∧ items.size ≤ sizeLine ∧ IsL s.heap a items n ∧ Q .none { s with heap := s.heap.update a (Obj.mapSeq fun xs => xs.push u) } := by
  have he := S.i.ents x _ l
  rw [hv] at he
  obtain ⟨a, vs, n, rfl, e, z, q⟩ := he
  obtain ⟨na, uniq⟩ := S.ow x ds a l hv
  have hlen := q.length
  simp only [Array.length_toList] at hlen
  refine ⟨a, vs, n, rfl, by omega, e, k a _ rfl ?_⟩
  have sb : Heap.SameBut a s.heap (s.heap.update a (Obj.mapSeq fun xs => xs.push u)) := Heap.SameBut.update ..
  have e' : (s.heap.update a (Obj.mapSeq fun xs => xs.push u)).get? a = some (listO (vs.push u) _) := IsL.update e fun xs => xs.push u
  have kz : ∀ b o, ¬ Z b → s.heap.get? b = some o → (s.heap.update a (Obj.mapSeq fun xs => xs.push u)).get? b = some o := fun b o nz e => (sb.2 b (by rintro rfl; exact nz z)).trans e
  have hv' : Vars env (s.heap.update a (Obj.mapSeq fun xs => xs.push u)) m := by
    refine ⟨?_, fun y c ec => ?_, S.i.vars.hid⟩
    · obtain ⟨ml, hn, hm⟩ := S.i.vars.loc
      refine ⟨ml, hn.sameBut sb ?_, hm⟩
      rintro rfl
      obtain ⟨o, es, ep, ho, hd, _⟩ := hn
      rw [ho] at e; cases e; cases hd
    · refine (S.i.vars.cel y c ec).sameBut sb ?_
      rintro rfl
      obtain ⟨o, ho, hd⟩ := S.i.vars.cel y c ec
      rw [ho] at e; cases e; cases hd
  have := S.mut (a := a) (x := x) (v := .ref a) (en := .own (ds ++ [d])) z na sb e' (S.i.fr.mut (fun b o hb e => (sb.2 b hb).trans e) fun o₂ es₂ ep₂ e2 q2 => by rw [e] at e2; cases e2; cases q2) (fun y es hy ly ey => hy (uniq y es ly ey))
    (by rw [upd_self hv]; exact hv') ⟨a, _, _, rfl, e', z, by rw [Array.toList_push]; exact (q.append (.cons r .nil)).keepZ kz⟩
    (fun es he b hb => by cases hb; exact ⟨na, fun y fs hy ly ey => hy (uniq y fs ly ey)⟩)
  rwa [upd_self hv] at this
end
end

section
set_option autoImplicit false
set_option linter.unusedVariables false
open PySem PyProof.Rows

inductive Out where
  | next (Γ : Tab)
  | brk (Γ : Tab)
  | cont (Γ : Tab)
  | ret (d : PyData)
  | own (ds : List PyData)

def OutOk (C : Cx) (A : Around) (env : Env) (s₀ : Shared) (Z₀ : Addr → Prop) (H : List (Addr × Obj)) (V : List (Value × PyData)) (s : Shared) : Out → Flow → Prop
  | .next Γ, .next => St C A env s₀ Z₀ H V Γ s
  | .brk Γ, .brk => St C A env s₀ Z₀ H V Γ s
  | .cont Γ, .cont => St C A env s₀ Z₀ H V Γ s
  | .ret d, .ret v => Ext A s₀.heap s.heap ∧ Rd C.prog C.w Z₀ s.heap v d
  | .own ds, .ret v => Ext A s₀.heap s.heap ∧ ∃ a vs n, v = .ref a ∧ s₀.heap.get? a = none ∧ s.heap.get? a = some (listO vs n) ∧ Rds C.prog C.w (fun b => Z₀ b ∨ b = a) s.heap vs.toList ds
  | _, _ => False

/-- the statements, from a frame with this table, end so -/
def Ex (C : Cx) (A : Around) (env : Env) (s₀ : Shared) (Z₀ : Addr → Prop) (E : Value → Shared → Prop) (Γ : Tab) (ss : List Stmt) (Post : Out → Prop) : Prop :=
  ∀ H V s, St C A env s₀ Z₀ H V Γ s → wpAny C.M A (execs ss env) (fun fl s' => Same s s' ∧ ∃ o, Post o ∧ OutOk C A env s₀ Z₀ H V s' o fl) E s
/-- one statement -/
def Xs (C : Cx) (A : Around) (env : Env) (s₀ : Shared) (Z₀ : Addr → Prop) (E : Value → Shared → Prop) (Γ : Tab) (st : Stmt) (Post : Out → Prop) : Prop :=
  ∀ H V s, St C A env s₀ Z₀ H V Γ s → wpAny C.M A (exec st env) (fun fl s' => Same s s' ∧ ∃ o, Post o ∧ OutOk C A env s₀ Z₀ H V s' o fl) E s

section
variable {C : Cx} {A : Around} {env : Env} {s₀ : Shared} {Z₀ : Addr → Prop} {E : Value → Shared → Prop} {Γ : Tab} {Post : Out → Prop} {st : Stmt} {rest : List Stmt} {e : Expr} {μ : Bool} {d : PyData}

def seqP (C : Cx) (A : Around) (env : Env) (s₀ : Shared) (Z₀ : Addr → Prop) (E : Value → Shared → Prop) (rest : List Stmt) (Post : Out → Prop) : Out → Prop
  | .next Γ' => Ex C A env s₀ Z₀ E Γ' rest Post
  | o => Post o

theorem ex_nil (h : Post (.next Γ)) : Ex C A env s₀ Z₀ E Γ [] Post := fun H V s S => wpAny_execs_nil ⟨Same.refl s, _, h, S⟩
theorem ex_cons (h : Xs C A env s₀ Z₀ E Γ st (seqP C A env s₀ Z₀ E rest Post)) : Ex C A env s₀ Z₀ E Γ (st :: rest) Post := fun H V s S =>
  wpAny_execs_cons (wpAny_mono (h H V s S) (fun fl s' ⟨sm, o, p, ok⟩ => by
    cases fl with
    | next =>
      cases o with
      | next Γ' => exact wpAny_mono (p H V s' ok) (fun fl s'' ⟨sm', o, p, ok⟩ => ⟨sm.trans sm', o, p, ok⟩) fun _ _ x => x
      | _ => exact ok.elim
    | brk => cases o <;> first | exact ok.elim | exact ⟨sm, _, p, ok⟩
    | cont => cases o <;> first | exact ok.elim | exact ⟨sm, _, p, ok⟩
    | ret v => cases o <;> first | exact ok.elim | exact ⟨sm, _, p, ok⟩) fun _ _ x => x)
theorem Ex.mono {ss : List Stmt} {Post' : Out → Prop} (h : Ex C A env s₀ Z₀ E Γ ss Post) (hp : ∀ o, Post o → Post' o) : Ex C A env s₀ Z₀ E Γ ss Post' := fun H V s S =>
  wpAny_mono (h H V s S) (fun fl s' ⟨sm, o, p, ok⟩ => ⟨sm, o, hp o p, ok⟩) fun _ _ x => x

/-- fewer entries -/
theorem ex_sub {Γ' : Tab} {ss : List Stmt} (hs : ∀ x e, Γ'.lookup x = some e → Γ.lookup x = some e) (h : Ex C A env s₀ Z₀ E Γ' ss Post) : Ex C A env s₀ Z₀ E Γ ss Post := fun H V s S =>
  h H V s (let ⟨ss, Z, m, S⟩ := S; ⟨ss, Z, m, S.sub hs⟩)
/-- nobody writes this list any more -/
theorem ex_freeze {x : Str} {ds : List PyData} {ss : List Stmt} (l : Γ.lookup x = some (.own ds)) (h : Ex C A env s₀ Z₀ E ((x, .fz (.list ds)) :: Γ) ss Post) : Ex C A env s₀ Z₀ E Γ ss Post := fun H V s S => h H V s (S.freeze l)

theorem xs_pass {pos : Pos} (h : Post (.next Γ)) : Xs C A env s₀ Z₀ E Γ (.Pass pos) Post := fun H V s S => wpAny_Pass ⟨Same.refl s, _, h, S⟩
theorem xs_break {pos : Pos} (h : Post (.brk Γ)) : Xs C A env s₀ Z₀ E Γ (.Break pos) Post := fun H V s S _ _ _ => ⟨Same.refl s, _, h, S⟩

theorem xs_return {pos : Pos} (h : Ev C A env Γ e true d) (hp : Post (.ret d)) : Xs C A env s₀ Z₀ E Γ (.Return (some e) pos) Post := fun H V s ⟨ss, Z, m, S⟩ =>
  wpAny_Return_some (h.go S.i fun v s' k I' r => ⟨k.toSame, _, hp, S.keep.trans k.ext, Rd.reZ (fun a o _ q => (S.z0 a q).1) r⟩)
theorem xs_returnOwn {pos p : Pos} {x : Str} {ds : List PyData} (hx : isVar env x = true) (l : Γ.lookup x = some (.own ds)) (hp : Post (.own ds)) : Xs C A env s₀ Z₀ E Γ (.Return (some (.Name x p)) pos) Post := fun H V s ⟨ss, Z, m, S⟩ => by
  obtain ⟨h1, h2, h3⟩ := isVar_spec hx
  have he := S.i.ents x _ l
  cases hv : m x with
  | none => rw [hv] at he; exact he.elim
  | some v =>
    rw [hv] at he
    obtain ⟨a, vs, n, rfl, e, z, r⟩ := he
    refine wpAny_Return_some (loadVar S.i h1 hv ⟨Same.refl s, _, hp, S.keep, a, vs, n, rfl, (S.ow x ds a l hv).1, e, r.reZ fun b o _ q => ?_⟩ h2 h3)
    rcases q with q | rfl
    · exact (S.z0 b q).1
    · exact z

theorem xs_if {test : Expr} {body orelse : List Stmt} {pos : Pos} {b : Bool} (h : Cd C A env Γ test b) (h₁ : b = true → Ex C A env s₀ Z₀ E Γ body Post) (h₂ : b = false → Ex C A env s₀ Z₀ E Γ orelse Post) :
    Xs C A env s₀ Z₀ E Γ (.If test body orelse pos) Post := fun H V s ⟨ss, Z, m, S⟩ =>
  wpAny_If (h.go S.i fun s' k I' => by
    cases b with
    | true => exact wpAny_mono (h₁ rfl H V s' ⟨ss.trans k.toSame, Z, m, S.ext k.ext⟩) (fun fl s'' ⟨sm, r⟩ => ⟨k.toSame.trans sm, r⟩) fun _ _ x => x
    | false => exact wpAny_mono (h₂ rfl H V s' ⟨ss.trans k.toSame, Z, m, S.ext k.ext⟩) (fun fl s'' ⟨sm, r⟩ => ⟨k.toSame.trans sm, r⟩) fun _ _ x => x)

/-! ## stores -/
/-- a value that reads as d is assigned -/
def As (C : Cx) (A : Around) (env : Env) (s₀ : Shared) (Z₀ : Addr → Prop) (E : Value → Shared → Prop) (Γ : Tab) (t : Expr) (d : PyData) (Γ' : Tab) : Prop :=
  ∀ H V s v, St C A env s₀ Z₀ H ((v, d) :: V) Γ s → wpAny C.M A (assign t env v) (fun _ s' => Same s s' ∧ St C A env s₀ Z₀ H V Γ' s') E s
theorem StW.dropV {C : Cx} {A : Around} {env : Env} {h₀ : Heap} {Z₀ : Addr → Prop} {H : List (Addr × Obj)} {V V' : List (Value × PyData)} {Γ : Tab} {h : Heap} {Z : Addr → Prop} {m : Str → Option Value} (S : StW C A env h₀ Z₀ H V Γ h Z m) (hv : ∀ p ∈ V', p ∈ V) : StW C A env h₀ Z₀ H V' Γ h Z m :=
  { S with vs := fun p hp => S.vs p (hv p hp) }
theorem StW.addV {C : Cx} {A : Around} {env : Env} {h₀ : Heap} {Z₀ : Addr → Prop} {H : List (Addr × Obj)} {V V' : List (Value × PyData)} {Γ : Tab} {h : Heap} {Z : Addr → Prop} {m : Str → Option Value} (S : StW C A env h₀ Z₀ H V Γ h Z m) (hv : ∀ p ∈ V', Rd C.prog C.w Z h p.1 p.2) : StW C A env h₀ Z₀ H (V' ++ V) Γ h Z m :=
  { S with vs := fun p hp => (List.mem_append.mp hp).elim (hv p) (S.vs p) }
theorem StW.dropH {C : Cx} {A : Around} {env : Env} {h₀ : Heap} {Z₀ : Addr → Prop} {H H' : List (Addr × Obj)} {V : List (Value × PyData)} {Γ : Tab} {h : Heap} {Z : Addr → Prop} {m : Str → Option Value} (S : StW C A env h₀ Z₀ H V Γ h Z m) (hv : ∀ p ∈ H', p ∈ H) : StW C A env h₀ Z₀ H' V Γ h Z m :=
  { S with hs := fun p hp => S.hs p (hv p hp) }

theorem as_name {x : Str} {p : Pos} (hx : isLoc env x = true) (hO : Owned env s₀.heap x) : As C A env s₀ Z₀ E Γ (.Name x p) d ((x, .fz d) :: Γ) := fun H V s v ⟨ss, Z, m, S⟩ =>
  wpAny_assign_Name (S.storeFz hx hO (S.vs _ List.mem_cons_self) fun h' tk S' => ⟨⟨h', tk, rfl⟩, ss.trans ⟨h', tk, rfl⟩, Z, _, S'.dropV fun p hp => List.mem_cons_of_mem _ hp⟩)

theorem xs_assign {x : Str} {p pos : Pos} (h : Ev C A env Γ e true d) (hx : isLoc env x = true) (hO : Owned env s₀.heap x) (hs : swapsWith e (some (.Name x p)) pos.line env = pure false) (hp : Post (.next ((x, .fz d) :: Γ))) :
    Xs C A env s₀ Z₀ E Γ (.Assign [.Name x p] e pos) Post := fun H V s ⟨ss, Z, m, S⟩ =>
  wpAny_Assign_Name (h.go S.i fun v s' k I' r => (S.ext k.ext).storeFz hx hO r fun h' tk S' => ⟨k.toSame.trans ⟨h', tk, rfl⟩, _, hp, ss.trans (k.toSame.trans ⟨h', tk, rfl⟩), Z, _, S'⟩) hs

/-- x = [] : a list of the frame's own -/
theorem xs_new {x : Str} {p q pos : Pos} (hx : isLoc env x = true) (hO : Owned env s₀.heap x) (hp : Post (.next ((x, .own []) :: Γ))) : Xs C A env s₀ Z₀ E Γ (.Assign [.Name x p] (.List [] q) pos) Post := fun H V s ⟨ss, Z, m, S⟩ => by
  refine wpAny_Assign_Name (List_ (Calls.spliced_nil (wpAny_newList ?_ (by decide)))) rfl
  have hnone : s.heap.get? s.heap.objs.size = none := Heap.get?_none_of_le (Nat.le_refl _)
  have hno : s₀.heap.get? s.heap.objs.size = none := by
    cases e : s₀.heap.get? s.heap.objs.size with
    | none => rfl
    | some o => obtain ⟨o', q, _⟩ := S.keep.stays e; rw [hnone] at q; cases q
  have S' := S.grow (listO #[] 0) rfl
  refine S'.store (s := { s with heap := s.heap.push (listO #[] 0) }) (en := .own []) hx hO (fun h' hk => ⟨s.heap.objs.size, #[], 0, rfl, hk _ _ (.inr ⟨_, _, rfl⟩) (Heap.get?_push_size _ rfl), .inr rfl, .nil⟩) (fun ds q b hb => ?_) fun h' tk S'' => ⟨⟨h', tk, rfl⟩, _, hp, ss.trans ⟨h', tk, rfl⟩, _, _, S''⟩
  cases hb
  refine ⟨hno, fun y es hy l e => ?_⟩
  have := S.i.ents y _ l
  rw [e] at this
  obtain ⟨a, vs, n, e1, e2, _⟩ := this
  cases e1; rw [hnone] at e2; cases e2

theorem slot_append : Slot "list" "append" "list.append" := F.slot_list_append

/-- x.append(e) -/
theorem xs_append {x : Str} {p ap cp pos : Pos} {ds : List PyData} (hx : isVar env x = true) (l : Γ.lookup x = some (.own ds)) (hsz : ds.length ≤ sizeLine) (h : Ev C A env Γ e true d) (hn : notStar e = true) (hline : (ap.endLine == cp.line) = true)
    (hi : interactive env = false) (hp : Post (.next ((x, .own (ds ++ [d])) :: Γ))) : Xs C A env s₀ Z₀ E Γ (.Expr (.Call (.Attribute (.Name x p) "append" ap) [e] [] cp) pos) Post := fun H V s ⟨ss, Z, m, S⟩ => by
  obtain ⟨h1, h2, h3⟩ := isVar_spec hx
  have he := S.i.ents x _ l
  cases hv : m x with
  | none => rw [hv] at he; exact he.elim
  | some v =>
    refine wpAny_Expr ?_ hi rfl
    refine Call_method1 rfl (by rw [starEach_cons hn]; rfl) hline (loadVar S.i h1 hv ?_ h2 h3)
    rw [hv] at he
    obtain ⟨a, vs, n, rfl, e, z, r⟩ := he
    refine ⟨"list", "list.append", F.plainAttrs_list, F.slot_list_append, F.type_list_append, ⟨_, e, rfl⟩, fun b hb => by cases hb; exact ⟨_, e, rfl⟩, P.append_list (h.go S.i fun u s' k I' r' => ?_)⟩
    obtain ⟨a', items, n', e1, e2, e3, q⟩ := (S.ext k.ext).append (E := E) (s := s') (Q := fun v s'' => match v with | .ref _ => False | _ => Same s s'' ∧ ∃ o, Post o ∧ OutOk C A env s₀ Z₀ H V s'' o .next) l hv hsz r' fun a h' _ S' => ⟨k.toSame.trans ⟨h', _, rfl⟩, _, hp, ss.trans (k.toSame.trans ⟨h', _, rfl⟩), Z, m, S'⟩
    cases e1
    exact ⟨items, n', e2, e3, q⟩
end
end

section
set_option autoImplicit false
set_option linter.unusedVariables false
open PySem PyProof.Rows

/-- an iterator of n items that read as dat 0, dat 1, ..; X: the objects it leans on; V: the items -/
structure Wk (C : Cx) (A : Around) (I : Addr) (X : List (Addr × Obj)) (V : List (Value × PyData)) (n : Nat) (dat : Nat → PyData) (O : Nat → Obj → Prop) : Prop where
  fld : ∀ i o, O i o → ∃ vs, o.data = .fields vs
  cls : ∀ i o, O i o → o.cls = .type "list_iterator" ∨ o.cls = .type "tuple_iterator" ∨ o.cls = .type "range_iterator"
  item : ∀ i (s : Shared) o (Q : Option Value → Shared → Prop) (E : Value → Shared → Prop), i < n → s.heap.get? I = some o → O i o → (∀ p ∈ X, s.heap.get? p.1 = some p.2) →
    (∀ v h' tk o', (∀ Z h, (∀ p ∈ V, Rd C.prog C.w Z h p.1 p.2) → Rd C.prog C.w Z h v (dat i)) → O (i + 1) o' → h'.get? I = some o' → Heap.ExtBut I s.heap h' → Q (some v) { s with heap := h', toks := tk }) →
    wpAny C.M A (pyNext (.ref I)) Q E s
  done : ∀ (s : Shared) o (Q : Option Value → Shared → Prop) (E : Value → Shared → Prop), s.heap.get? I = some o → O n o → (∀ p ∈ X, s.heap.get? p.1 = some p.2) →
    (∀ h' tk, Heap.ExtBut I s.heap h' → Q none { s with heap := h', toks := tk }) → wpAny C.M A (pyNext (.ref I)) Q E s
  self : ∀ i (s : Shared) o (Q : Value → Shared → Prop) (E : Value → Shared → Prop), s.heap.get? I = some o → O i o → Q (.ref I) s → wpAny C.M A (pyIter (.ref I)) Q E s

theorem Wk.clsF {C : Cx} {A : Around} {I : Addr} {X : List (Addr × Obj)} {V : List (Value × PyData)} {n : Nat} {dat : Nat → PyData} {O : Nat → Obj → Prop} (W : Wk C A I X V n dat O) (i : Nat) (o : Obj) (h : O i o) : o.cls ≠ .type "frame" := by
  rcases W.cls i o h with q | q | q <;> rw [q] <;> decide
/-- an iterable expression -/
def Src (C : Cx) (A : Around) (env : Env) (Γ : Tab) (iter : Expr) (n : Nat) (dat : Nat → PyData) : Prop :=
  ∀ E (s : Shared) m Z₀ Z (Q : Value → Shared → Prop), In C A env Z₀ Z Γ m s.heap →
    (∀ (s₁ : Shared) X V O o, Kp A s s₁ → o.isFreed = false → O 0 o → Wk C A s₁.heap.objs.size X V n dat O → (∀ p ∈ X, s₁.heap.get? p.1 = some p.2 ∧ ¬ Z p.1 ∧ p.2.cls ≠ .type "frame") → (∀ p ∈ V, Rd C.prog C.w Z s₁.heap p.1 p.2) →
      Q (.ref s₁.heap.objs.size) { s₁ with heap := s₁.heap.push o }) →
    wpAny C.M A (eval iter env) (fun x s₁ => wpAny C.M A (pyIter x) Q E s₁) E s

section
variable {C : Cx} {A : Around} {env : Env} {Γ : Tab} {e : Expr} {μ : Bool} {d : PyData}

theorem zip_mem {vs : List Value} {ds : List PyData} {Z : Addr → Prop} {h : Heap} (r : Rds C.prog C.w Z h vs ds) : ∀ p ∈ vs.zip ds, Rd C.prog C.w Z h p.1 p.2 := by
  induction vs generalizing ds with
  | nil => intro p hp; cases hp
  | cons v vs ih =>
    cases r with
    | cons a b =>
      intro p hp
      rcases List.mem_cons.mp hp with rfl | hp
      · exact a
      · exact ih b p hp
theorem zip_get {vs : List Value} {ds : List PyData} {i : Nat} {v : Value} {d : PyData} (hv : vs[i]? = some v) (hd : ds[i]? = some d) : (v, d) ∈ vs.zip ds := by
  refine List.mem_of_getElem? (i := i) ?_
  rw [List.getElem?_zip_eq_some]
  exact ⟨hv, hd⟩

theorem wk_list {l I : Addr} {vs : Array Value} {n : Nat} {ds : List PyData} (hh : A.handled = none) (hne : l ≠ I) (hlen : vs.size = ds.length) :
    Wk C A I [(l, listO vs n)] (vs.toList.zip ds) ds.length (fun i => ds.getD i .none) (fun i o => o.cls = .type "list_iterator" ∧ o.data = .fields #[.ref l, .int i 0]) where
  fld := fun i o h => ⟨_, h.2⟩
  cls := fun i o h => .inl h.1
  item := fun i s o Q E hi ho hO hX k => by
    have hl : s.heap.IsList l vs := ⟨_, hX _ List.mem_cons_self, rfl, _, rfl⟩
    have hv : i < vs.size := by omega
    refine wpAny_pyNext_list_item (i := i) (x := vs[i]) ⟨o, ho, hO.1, hO.2⟩ hl (by simp [hv]) fun h' hit sb => ?_
    obtain ⟨o', ho', hc, hd⟩ := hit
    refine k _ h' s.toks o' (fun Z h hV => hV (_, _) (zip_get (i := i) ?_ ?_)) ⟨hc, hd⟩ ho' sb.extBut
    · simp [hv]
    · simp [List.getElem?_eq_getElem hi]
  done := fun s o Q E ho hO hX k => by
    have hl : s.heap.IsList l vs := ⟨_, hX _ List.mem_cons_self, rfl, _, rfl⟩
    exact wpAny_pyNext_list_end (i := ds.length) hh ⟨o, ho, hO.1, hO.2⟩ hl (by simp [hlen]) fun h' he => k h' s.toks he
  self := fun i s o Q E ho hO h => wpAny_pyIter_listiter (i := i) ⟨o, ho, hO.1, hO.2⟩ h

theorem src_list {ds : List PyData} (hh : A.handled = none) (h : Ev C A env Γ e true (.list ds)) : Src C A env Γ e ds.length (fun i => ds.getD i .none) := fun E s m Z₀ Z Q I k =>
  h.go I fun v s' kp I' r => by
    cases r with
    | @list a vs n _ he z q =>
      have hlen := q.length
      simp only [Array.length_toList] at hlen
      have hl : s'.heap.IsList a vs := ⟨_, he, rfl, _, rfl⟩
      exact wpAny_pyIter_list hl (k s' _ _ _ _ kp rfl ⟨rfl, rfl⟩ (wk_list (n := n) hh (Nat.ne_of_lt (Heap.lt_size he)) hlen) (fun p hp => by cases List.mem_singleton.mp hp; exact ⟨he, z, listO_cls⟩) (zip_mem q))

theorem wpAny_pyIter_tupiter {it t : Addr} {i : Nat} {s : Shared} {Q : Value → Shared → Prop} {E : Value → Shared → Prop} (hit : IsTupIter s.heap it t i) (h : Q (.ref it) s) : wpAny C.M A (pyIter (.ref it)) Q E s := by
  refine wpAny_pyIter_slot hit.typeIs F.slot_tuple_iterator_iter (wpAny_call_entry F.slot_tuple_iterator_iter hit.typeIs F.entry_tuple_iterator_iter ?_ (F.args_tuple_iterator_iter_1 _))
  show wpAny _ _ (ret (.ref it)) _ _ s
  exact wpAny_pure ⟨_, rfl, "tuple_iterator", _, hit.typeIs, slot_tupleiter_next.lookup, h⟩

theorem wk_tuple {l I : Addr} {vs : Array Value} {n : Nat} {ds : List PyData} (hh : A.handled = none) (hne : l ≠ I) (hlen : vs.size = ds.length) :
    Wk C A I [(l, tupO vs n)] (vs.toList.zip ds) ds.length (fun i => ds.getD i .none) (fun i o => o.cls = .type "tuple_iterator" ∧ o.data = .fields #[.ref l, .int i 0]) where
  fld := fun i o h => ⟨_, h.2⟩
  cls := fun i o h => .inr (.inl h.1)
  item := fun i s o Q E hi ho hO hX k => by
    have hl : IsTup s.heap l vs := ⟨_, hX _ List.mem_cons_self, rfl, _, rfl⟩
    have hv : i < vs.size := by omega
    refine next_tuple_item (i := i) (x := vs[i]) ⟨o, ho, hO.1, hO.2⟩ hl (by simp [hv]) fun h' hit sb => ?_
    obtain ⟨o', ho', hc, hd⟩ := hit
    refine k _ h' s.toks o' (fun Z h hV => hV (_, _) (zip_get (i := i) ?_ ?_)) ⟨hc, hd⟩ ho' sb.extBut
    · simp [hv]
    · simp [List.getElem?_eq_getElem hi]
  done := fun s o Q E ho hO hX k => by
    have hl : IsTup s.heap l vs := ⟨_, hX _ List.mem_cons_self, rfl, _, rfl⟩
    exact next_tuple_end (i := ds.length) hh ⟨o, ho, hO.1, hO.2⟩ hl (by simp [hlen]) fun h' he => k h' s.toks he
  self := fun i s o Q E ho hO h => wpAny_pyIter_tupiter (i := i) ⟨o, ho, hO.1, hO.2⟩ h
theorem src_tuple {ds : List PyData} (hh : A.handled = none) (h : Ev C A env Γ e true (.tuple ds)) : Src C A env Γ e ds.length (fun i => ds.getD i .none) := fun E s m Z₀ Z Q I k =>
  h.go I fun v s' kp I' r => by
    cases r with
    | @tuple a vs n _ he z q =>
      have hlen := q.length
      simp only [Array.length_toList] at hlen
      have hl : IsTup s'.heap a vs := ⟨_, he, rfl, _, rfl⟩
      exact iter_tuple hl (k s' _ _ _ _ kp rfl ⟨rfl, rfl⟩ (wk_tuple (n := n) hh (Nat.ne_of_lt (Heap.lt_size he)) hlen) (fun p hp => by cases List.mem_singleton.mp hp; exact ⟨he, z, tupO_cls⟩) (zip_mem q))

theorem wk_range {I : Addr} (hh : A.handled = none) (a : Int) (n : Nat) :
    Wk C A I [] [] n (fun i => .int (a + i)) (fun i o => o = { cls := .type "range_iterator", dict := none, data := .fields #[rawInt (a + i), rawInt ((n : Int) - i), rawInt 1], slots := #[] }) where
  fld := fun i o h => by subst h; exact ⟨_, rfl⟩
  cls := fun i o h => by subst h; exact .inr (.inr rfl)
  item := fun i s o Q E hi ho hO hX k => by
    subst hO
    refine wpAny_pyNext_range_item ho (by omega) fun h' hit sb => ?_
    refine k _ h' _ _ (fun Z h hV => .int _ _) rfl ?_ sb.extBut
    have e : (a + (i : Int) + 1) = a + ((i + 1 : Nat) : Int) := by omega
    have e' : ((n : Int) - (i : Int) - 1) = (n : Int) - ((i + 1 : Nat) : Int) := by omega
    rw [← e, ← e']; exact hit
  done := fun s o Q E ho hO hX k => by
    subst hO
    exact wpAny_pyNext_range_end hh ho (by omega) fun h' he => k h' s.toks he
  self := fun i s o Q E ho hO h => by subst hO; exact wpAny_pyIter_rangeiter ho h

/-! ## the frame and an iterator -/
theorem StW.iterDone {h₀ : Heap} {Z₀ : Addr → Prop} {H : List (Addr × Obj)} {V : List (Value × PyData)} {h h' : Heap} {Z : Addr → Prop} {m : Str → Option Value} {I : Addr} {o : Obj} (S : StW C A env h₀ Z₀ ((I, o) :: H) V Γ h Z m) (nI : h₀.get? I = none) (hf : ∃ vs, o.data = .fields vs)
    (hne : ∀ p ∈ H, p.1 ≠ I) (eb : Heap.ExtBut I h h') : StW C A env h₀ Z₀ H V Γ h' Z m := by
  obtain ⟨hI, zI, _⟩ := S.hs _ List.mem_cons_self
  have kz : ∀ b x, (∀ vs, x.data ≠ .fields vs) → h.get? b = some x → h'.get? b = some x := fun b x nf e => eb b x (by rintro rfl; obtain ⟨us, hus⟩ := hf; rw [hI] at e; cases e; exact nf us hus) e
  have keep' : Ext A h₀ h' := S.keep.mutOf nI fun b o hb e => eb b o hb e
  obtain ⟨vs, hvs⟩ := hf
  refine ⟨⟨S.i.fn, ⟨?_, fun x c ec => ?_, S.i.vars.hid⟩, fun x e l => ?_, S.b0.keep keep', ⟨fun b z => ?_, S.i.z.k⟩, S.i.fr.mut (fun b o hb e => eb b o hb e) fun o₂ es ep e2 q2 => (by rw [hI] at e2; cases e2; rw [hvs] at q2; cases q2), S.i.zc, S.i.cd⟩, S.b0, keep', S.z0, S.zl, S.nl, S.zc, S.cd, fun p hp => ?_, fun p hp => (S.vs p hp).keepD fun b x _ => kz b x, S.ow⟩
  · obtain ⟨ml, hn, hm⟩ := S.i.vars.loc
    refine ⟨ml, hn.extBut eb ?_, hm⟩
    rintro rfl
    exact zI S.zl
  · obtain ⟨x', hx, hd⟩ := S.i.vars.cel x c ec
    refine ⟨x', eb c x' ?_ hx, hd⟩
    rintro rfl
    exact zI (S.zc x _ ec)
  · have := S.i.ents x e l
    cases hv : m x with
    | none => rw [hv] at this; exact this
    | some v =>
      rw [hv] at this
      cases e with
      | fz d => exact Rd.keepD (fun b x _ => kz b x) this
      | bor d => exact Rd.keepD (fun b x _ => kz b x) this
      | own ds =>
        obtain ⟨a, us, n, rfl, e, z, r⟩ := this
        refine ⟨a, us, n, rfl, eb a _ ?_ e, z, r.keepD fun b x _ => kz b x⟩
        rintro rfl
        exact zI z
      | any => trivial
  · obtain ⟨x, e⟩ := S.i.z.st b z; exact ⟨x, eb b x (by rintro rfl; exact zI z) e⟩
  · obtain ⟨e, d⟩ := S.hs p (List.mem_cons_of_mem _ hp)
    exact ⟨eb _ _ (hne p hp) e, d⟩
theorem StW.iter {h₀ : Heap} {Z₀ : Addr → Prop} {H : List (Addr × Obj)} {V : List (Value × PyData)} {h h' : Heap} {Z : Addr → Prop} {m : Str → Option Value} {I : Addr} {o o' : Obj} (S : StW C A env h₀ Z₀ ((I, o) :: H) V Γ h Z m) (nI : h₀.get? I = none) (hf : ∃ vs, o.data = .fields vs)
    (hne : ∀ p ∈ H, p.1 ≠ I) (eb : Heap.ExtBut I h h') (ho' : h'.get? I = some o') (hc' : o'.cls ≠ .type "frame") : StW C A env h₀ Z₀ ((I, o') :: H) V Γ h' Z m := by
  have S' := S.iterDone nI hf hne eb
  refine { S' with hs := fun p hp => ?_ }
  rcases List.mem_cons.mp hp with rfl | hp
  · exact ⟨ho', (S.hs _ List.mem_cons_self).2.1, hc'⟩
  · exact S'.hs p hp

theorem letOwned {target : Expr} {I : Addr} {o : Obj} {v : Value} {s : Shared} {E : Value → Shared → Prop} {Q : Unit → Shared → Prop} (ho : s.heap.get? I = some o) (hc : o.cls = .type "list_iterator" ∨ o.cls = .type "tuple_iterator" ∨ o.cls = .type "range_iterator") (h : Q () s) :
    wpAny C.M A (letOwnedTupleGo target (.ref I) v) Q E s := by
  have key : ∀ (b : Sem Unit), (∀ a, v = .ref a → wpAny C.M A (do
      let o ← load I
      match o.cls, o.data with
      | .type n, .fields vs =>
        if ["enumerate", "zip", "dict_itemiterator", "dict_reverseitemiterator", "odict_iterator", "itertools.zip_longest", "itertools.pairwise"].contains n && vs[0]? == some (rawInt a) then
          rule "for.unpacks-the-owned-tuple"
          updateField I 0 .none
      | _, _ => pure ()) Q E s) := fun _ a _ => by
    refine wpAny_bind (wpAny_load ho ?_)
    rcases hc with hc | hc | hc <;> rw [hc] <;> cases hd : o.data <;> first
      | exact wpAny_pure h
      | (dsimp only; rw [if_neg (by simp [List.contains, List.elem])]; exact wpAny_pure h)
  unfold letOwnedTupleGo
  split
  · cases v with
    | ref a => exact key (pure ()) a rfl
    | _ => exact wpAny_pure h
  · cases v with
    | ref a => exact key (pure ()) a rfl
    | _ => exact wpAny_pure h
  · exact wpAny_pure h

/-! ## for, while -/
section
variable {s₀ : Shared} {Z₀ : Addr → Prop} {E : Value → Shared → Prop} {Post : Out → Prop}

abbrev inLoop (C : Cx) (A : Around) (env : Env) (E : Value → Shared → Prop) : Value → Shared → Prop := notedBy C.M A env fun e s' => cameBackBy C.M A env E e s'

/-- what a turn's end must show -/
def turnP (J : Tab → Prop) (Post : Out → Prop) : Out → Prop
  | .next Γ => J Γ
  | .cont Γ => J Γ
  | .brk Γ => Post (.next Γ)
  | .ret d => Post (.ret d)
  | .own ds => Post (.own ds)

theorem xs_for {k n : Nat} {dat : Nat → PyData} {target iter : Expr} {body : List Stmt} {pos : Pos} (J : Nat → Tab → Prop) (src : Src C A env Γ iter n dat) (hs : ∀ x, foldedSetIterable iter env x = pure x) (h0 : J 0 Γ)
    (turn : ∀ i Γ', i < n → J i Γ' → ∃ Γ'', As C A env s₀ Z₀ (inLoop C A env E) Γ' target (dat i) Γ'' ∧ Ex C A env s₀ Z₀ (inLoop C A env E) Γ'' body (turnP (J (i + 1)) Post))
    (fin : ∀ Γ', J n Γ' → Post (.next Γ')) : Xs C A env s₀ Z₀ E Γ (.For target iter body [] pos) Post := fun H V s ⟨ss, Z, m, S⟩ => by
  refine wpAny_For (src E s m Z₀ Z _ S.i fun s₁ X V' O o kp hfr hO W hX hV => ?_) hs
  have hnone : s₁.heap.get? s₁.heap.objs.size = none := Heap.get?_none_of_le (Nat.le_refl _)
  have S₁ := S.ext kp.ext
  have nI : s₀.heap.get? s₁.heap.objs.size = none := by
    cases e : s₀.heap.get? s₁.heap.objs.size with
    | none => rfl
    | some x => obtain ⟨o', q, _⟩ := S₁.keep.stays e; rw [hnone] at q; cases q
  have hXI : ∀ p ∈ X ++ H, p.1 ≠ s₁.heap.objs.size := fun p hp q => by
    have e : s₁.heap.get? p.1 = some p.2 := (List.mem_append.mp hp).elim (fun hp => (hX p hp).1) fun hp => (S₁.hs p hp).1
    rw [q, hnone] at e; cases e
  generalize hI : s₁.heap.objs.size = I at *
  have S₂ : StW C A env s₀.heap Z₀ ((I, o) :: (X ++ H)) (V' ++ V) Γ (s₁.heap.push o) Z m := by
    have S₂ := (S₁.ext (Ext.push o)).addV (V' := V') fun p hp => (hV p hp).push o
    refine { S₂ with hs := fun p hp => ?_ }
    rcases List.mem_cons.mp hp with rfl | hp
    · refine ⟨?_, hI ▸ S₁.i.z.fresh, W.clsF _ _ hO⟩
      show (s₁.heap.push o).get? I = some o
      rw [← hI]; exact Heap.get?_push_size _ hfr
    · rcases List.mem_append.mp hp with hp | hp
      · exact ⟨Heap.get?_push_of_some _ (hX p hp).1, (hX p hp).2⟩
      · exact S₂.hs p hp
  refine codeAny_forLoop_any (fun kk s' => ∃ i Γ' o, i + kk = n ∧ J i Γ' ∧ Same s s' ∧ O i o ∧ St C A env s₀ Z₀ ((I, o) :: (X ++ H)) (V' ++ V) Γ' s') ?_ n ⟨0, Γ, o, by omega, h0, kp.toSame.trans ⟨_, _, rfl⟩, hO, ss.trans (kp.toSame.trans ⟨_, _, rfl⟩), Z, m, S₂⟩
  rintro kk s' ⟨i, Γ', o, hik, hJ, sm, hO, ss', Z', m', S'⟩
  have hIo := (S'.hs _ List.mem_cons_self).1
  have hXs : ∀ p ∈ X, s'.heap.get? p.1 = some p.2 := fun p hp => (S'.hs p (List.mem_cons_of_mem _ (List.mem_append_left _ hp))).1
  have out : ∀ {s' : Shared} {Γ' : Tab} {o : Obj}, St C A env s₀ Z₀ ((I, o) :: (X ++ H)) (V' ++ V) Γ' s' → St C A env s₀ Z₀ H V Γ' s' := fun ⟨ss, Z, m, S⟩ =>
    ⟨ss, Z, m, (S.dropH fun p hp => List.mem_cons_of_mem _ (List.mem_append_right _ hp)).dropV fun p hp => List.mem_append_right _ hp⟩
  by_cases hi : i < n
  · refine W.item i s' o _ _ hi hIo hO hXs fun v h' tk o' hv hO' ho' eb => ?_
    have S'' := S'.iter nI (W.fld i o hO) hXI eb ho' (W.clsF _ _ hO')
    have hcls := W.cls _ _ hO'
    refine letOwned (s := { s' with heap := h', toks := tk }) ho' hcls ?_
    obtain ⟨Γ'', as, ex⟩ := turn i Γ' hi hJ
    have rv := hv Z' h' fun p hp => S''.vs p (List.mem_append_left _ hp)
    refine wpAny_mono (as ((I, o') :: (X ++ H)) (V' ++ V) { s' with heap := h', toks := tk } v ⟨ss'.trans ⟨h', tk, rfl⟩, Z', m', S''.addV (V' := [(v, dat i)]) fun p hp => by cases List.mem_singleton.mp hp; exact rv⟩) (fun _ s₃ ⟨sm', S₃⟩ => ?_) fun _ _ x => x
    refine wpAny_mono (ex ((I, o') :: (X ++ H)) (V' ++ V) s₃ S₃) (fun fl s₄ ⟨sm'', ou, hp, ok⟩ => ?_) fun _ _ x => x
    have sm4 : Same s s₄ := sm.trans (Same.trans ⟨h', tk, rfl⟩ (sm'.trans sm''))
    cases fl with
    | next => cases ou <;> first | exact ok.elim | exact ⟨kk - 1, by omega, i + 1, _, o', by omega, hp, sm4, hO', ok⟩
    | cont => cases ou <;> first | exact ok.elim | exact ⟨kk - 1, by omega, i + 1, _, o', by omega, hp, sm4, hO', ok⟩
    | brk => cases ou <;> first | exact ok.elim | exact ⟨sm4, _, hp, out ok⟩
    | ret v => cases ou <;> first | exact ok.elim | exact ⟨sm4, _, hp, ok⟩
  · obtain rfl : i = n := by omega
    refine W.done s' o _ _ hIo hO hXs fun h' tk eb => ?_
    refine wpAny_execs_nil ⟨sm.trans ⟨h', tk, rfl⟩, _, fin Γ' hJ, ?_⟩
    have S'' := S'.iterDone nI (W.fld _ o hO) hXI eb
    exact ⟨ss'.trans ⟨h', tk, rfl⟩, Z', m', (S''.dropH fun p hp => List.mem_append_right _ hp).dropV fun p hp => List.mem_append_right _ hp⟩

theorem xs_while {test : Expr} {body : List Stmt} {pos : Pos} (J : Nat → Tab → Prop) (n : Nat) (h0 : J n Γ)
    (turn : ∀ n Γ', J n Γ' → ∃ b, Cd C A env Γ' test b ∧ (b = true → Ex C A env s₀ Z₀ (inLoop C A env E) Γ' body (turnP (fun Γ'' => ∃ m, m < n ∧ J m Γ'') Post)) ∧ (b = false → Post (.next Γ'))) :
    Xs C A env s₀ Z₀ E Γ (.While test body [] pos) Post := fun H V s S => by
  refine wpAny_While (codeAny_whileLoop (fun n s' => ∃ Γ', J n Γ' ∧ Same s s' ∧ St C A env s₀ Z₀ H V Γ' s') ?_ n ⟨Γ, h0, Same.refl s, S⟩)
  rintro n s' ⟨Γ', hJ, sm, ss, Z, m, S'⟩
  obtain ⟨b, hc, h1, h2⟩ := turn n Γ' hJ
  refine hc.go S'.i fun s₂ k I₂ => ?_
  cases b with
  | true =>
    refine wpAny_mono (h1 rfl H V s₂ ⟨ss.trans k.toSame, Z, m, S'.ext k.ext⟩) (fun fl s₃ ⟨sm', o, hp, ok⟩ => ?_) fun _ _ x => x
    have sm3 : Same s s₃ := sm.trans (k.toSame.trans sm')
    cases fl with
    | next => cases o <;> first | exact ok.elim | (obtain ⟨m', hm, hJ'⟩ := hp; exact ⟨m', hm, _, hJ', sm3, ok⟩)
    | cont => cases o <;> first | exact ok.elim | (obtain ⟨m', hm, hJ'⟩ := hp; exact ⟨m', hm, _, hJ', sm3, ok⟩)
    | brk => cases o <;> first | exact ok.elim | exact ⟨sm3, _, hp, ok⟩
    | ret v => cases o <;> first | exact ok.elim | exact ⟨sm3, _, hp, ok⟩
  | false => exact wpAny_execs_nil ⟨sm.trans k.toSame, _, h2 rfl, ss.trans k.toSame, Z, m, S'.ext k.ext⟩
end
end
end

section
set_option autoImplicit false
set_option linter.unusedVariables false
open PySem PyProof.Rows

section
variable {C : Cx} {A : Around} {env : Env} {Γ Γ₁ Γ₂ : Tab} {e e₁ e₂ : Expr} {μ μ₁ μ₂ : Bool} {d : PyData} {s₀ : Shared} {Z₀ : Addr → Prop} {E : Value → Shared → Prop} {Post : Out → Prop}

/-! ## unpacking -/
def AsL (C : Cx) (A : Around) (env : Env) (s₀ : Shared) (Z₀ : Addr → Prop) (E : Value → Shared → Prop) (Γ : Tab) (ts : List Expr) (ds : List PyData) (Γ' : Tab) : Prop :=
  (assignEach ts env).findIdx? (·.1) = none ∧ (assignEach ts env).length = ds.length ∧
  ∀ H V s vs, vs.length = ds.length → St C A env s₀ Z₀ H (vs.zip ds ++ V) Γ s → wpAny C.M A (assignInOrder ((assignEach ts env).map (·.2)) vs) (fun _ s' => Same s s' ∧ St C A env s₀ Z₀ H V Γ' s') E s
theorem assignEach_cons {t : Expr} {ts : List Expr} (h : notStar t = true) : assignEach (t :: ts) env = (false, assign t env) :: assignEach ts env := by
  cases t <;> first | rfl | cases h
theorem asl_nil : AsL C A env s₀ Z₀ E Γ [] [] Γ := ⟨rfl, rfl, fun H V s vs hl S => by
  cases vs with
  | nil => exact assignInOrder_nil ⟨Same.refl s, S⟩
  | cons v vs => cases hl⟩
theorem asl_cons {t : Expr} {ts : List Expr} {ds : List PyData} (h : As C A env s₀ Z₀ E Γ t d Γ₁) (hs : AsL C A env s₀ Z₀ E Γ₁ ts ds Γ₂) (hn : notStar t = true) : AsL C A env s₀ Z₀ E Γ (t :: ts) (d :: ds) Γ₂ := by
  obtain ⟨h1, h2, h3⟩ := hs
  refine ⟨by rw [assignEach_cons hn]; simp [List.findIdx?_cons, h1], by rw [assignEach_cons hn]; simp [h2], fun H V s vs hl S => ?_⟩
  rw [assignEach_cons hn]
  cases vs with
  | nil => cases hl
  | cons v vs =>
    refine assignInOrder_cons (wpAny_mono (h H (vs.zip ds ++ V) s v S) (fun _ s' ⟨sm, S'⟩ => ?_) fun _ _ x => x)
    exact wpAny_mono (h3 H V s' vs (by simpa using hl) S') (fun _ s'' ⟨sm', S''⟩ => ⟨sm.trans sm', S''⟩) fun _ _ x => x

theorem as_tuple {n k : Nat} {ts : List Expr} {ds : List PyData} {p : Pos} (hA : OkA A n) (h : AsL C A env s₀ Z₀ E Γ ts ds Γ₁) : As C A env s₀ Z₀ E Γ (.Tuple ts k p) (.tuple ds) Γ₁ := fun H V s v ⟨ss, Z, m, S⟩ => by
  obtain ⟨h1, h2, h3⟩ := h
  have r := S.vs _ List.mem_cons_self
  cases r with
  | @tuple a vs n _ he z q =>
    have hlen := q.length
    simp only [Array.length_toList] at hlen
    have ht : IsTup s.heap a vs := ⟨_, he, rfl, _, rfl⟩
    refine assign_Tuple_tuple hA.hd ht (by rw [h2, hlen]) h1 fun h' eb => ?_
    have ex : Ext A s.heap h' := .of fun b o e => eb b o (Nat.ne_of_lt (Heap.lt_size e)) e
    have S' := (S.ext ex).addV (V' := vs.toList.zip ds) fun p hp => (zip_mem q p hp).keep ex
    refine wpAny_mono (h3 H V { s with heap := h' } vs.toList (by simpa using hlen) ⟨ss.trans ⟨h', _, rfl⟩, Z, m, S'.dropV fun p hp => ?_⟩) (fun _ s' ⟨sm, S''⟩ => ⟨Same.trans ⟨h', _, rfl⟩ sm, S''⟩) fun _ _ x => x
    rcases List.mem_append.mp hp with hp | hp
    · exact List.mem_append_left _ hp
    · exact List.mem_append_right _ (List.mem_cons_of_mem _ hp)

theorem xs_unpack {k : Nat} {ts : List Expr} {ds : List PyData} {tp pos : Pos} {n : Nat} (hA : OkA A n) (h : Ev C A env Γ e true (.tuple ds)) (has : AsL C A env s₀ Z₀ E Γ ts ds Γ₁)
    (hs : swapsWithSole [.Tuple ts k tp] e pos.line env = pure false) (hw : swappedStores [.Tuple ts k tp] e env = pure none) (hp : Post (.next Γ₁)) : Xs C A env s₀ Z₀ E Γ (.Assign [.Tuple ts k tp] e pos) Post := fun H V s ⟨ss, Z, m, S⟩ =>
  Assign_Tuple (h.go S.i fun v s' kp I' r => wpAny_mono (as_tuple hA has H V s' v ⟨ss.trans kp.toSame, Z, m, (S.ext kp.ext).addV (V' := [(v, .tuple ds)]) fun p hp => by cases List.mem_singleton.mp hp; exact r⟩)
    (fun _ s'' ⟨sm, S''⟩ => ⟨kp.toSame.trans sm, _, hp, S''⟩) fun _ _ x => x) hs hw

/-! ## slices of a list -/
def sliceD (ds : List PyData) (lo hi : Option Int) : List PyData := (ds.drop (lo.elim 0 (clipAt ds.length))).take (hi.elim ds.length (clipAt ds.length) - lo.elim 0 (clipAt ds.length))
/-- an optional bound -/
def EvO (C : Cx) (A : Around) (env : Env) (Γ : Tab) : Option Expr → Option Int → Prop
  | none, none => True
  | some e, some i => ∃ μ, Ev C A env Γ e μ (.int i)
  | _, _ => False
theorem EvO.go {x : Option Expr} {i : Option Int} (h : EvO C A env Γ x i) {s : Shared} {m : Str → Option Value} {Z₀ Z : Addr → Prop} (I : In C A env Z₀ Z Γ m s.heap) {Q : Value → Shared → Prop}
    (k : ∀ v s', Kp A s s' → In C A env Z₀ Z Γ m s'.heap → IsPart v i → Q v s') : wpAny C.M A (evalPart x env) Q E s := by
  cases x with
  | none =>
    cases i with
    | none => exact wpAny_pure (k _ s (Kp.refl s) I .none)
    | some i => exact h.elim
  | some e =>
    cases i with
    | none => exact h.elim
    | some i =>
      obtain ⟨μ, h⟩ := h
      exact h.go I fun v s' kp I' r => by cases r; exact k _ s' kp I' (.int _ _)

theorem ev_slice {lo hi : Option Expr} {i j : Option Int} {p pos : Pos} {ds : List PyData} (h : Ev C A env Γ e μ (.list ds)) (hlo : EvO C A env Γ lo i) (hhi : EvO C A env Γ hi j) (hz : ds.length ≤ sizeLine) :
    Ev C A env Γ (.Subscript e (.Slice lo hi none p) pos) μ (.list (sliceD ds i j)) := fun E s m Z₀ Z I =>
  Subscript_ (h.go I fun v s₁ k₁ I₁ r => wpAny_Slice (hlo.go I₁ fun l s₂ k₂ I₂ pl => hhi.go I₂ fun u s₃ k₃ I₃ pu => by
    rw [evalPart_none]
    refine wpAny_pure ?_
    have r₃ := r.keep (k₂.trans k₃).ext
    cases r₃ with
    | @list a vs n _ he z q =>
      have hlen := q.length
      simp only [Array.length_toList] at hlen
      obtain ⟨ops, ho⟩ := subscripted_ops (.Slice lo hi none p) (.ref a) (.ref s₃.heap.objs.size)
      have hl : (s₃.heap.push { cls := .type "slice", data := .fields #[l, u, .none] }).IsList a vs := ⟨_, Heap.get?_push_of_some _ he, rfl, _, rfl⟩
      refine tail_any (s := { s₃ with heap := s₃.heap.push { cls := .type "slice", data := .fields #[l, u, .none] } }) hl.typeIs slot_list_getitem.lookup (wpAny_getItem_list_slice hl (Heap.IsSliceOf.new ..) pl pu .none (by simp) ?_ (by omega)) ho
      refine ⟨((k₁.trans k₂).trans k₃).trans ((Kp.push s₃ _).trans (Kp.push _ _)), .list (n := 0) (Heap.get?_push_size _ rfl) ?_ ?_⟩
      · exact ((I₃.keep (Ext.push { cls := .type "slice", data := .fields #[l, u, .none] })).sel μ)
      · unfold sliceD
        rw [slicePick_plain, ← hlen]
        exact (((q.drop _).take _).push _).push _))
end
end

section
set_option autoImplicit false
set_option linter.unusedVariables false
open PySem PyProof.Rows

section
variable {C : Cx} {A : Around} {env : Env} {Γ Γ₁ Γ₂ : Tab} {e e₁ e₂ : Expr} {μ μ₁ μ₂ : Bool} {d : PyData} {h₀ : Heap} {Z₀ : Addr → Prop} {E : Value → Shared → Prop} {Post : Out → Prop}

/-! ## names of the module and built-in names -/
def isGlob (env : Env) (x : Str) : Bool := env.kindOf x == some .globalImplicit && !(x == ("__debug__" : Str))
theorem isGlob_spec {x : Str} (h : isGlob env x = true) : env.kindOf x = some .globalImplicit ∧ (x == ("__debug__" : Str)) = false := by
  unfold isGlob at h
  simp only [Bool.and_eq_true, Bool.not_eq_true', beq_iff_eq] at h
  exact h
theorem loadGlob {s : Shared} {m : Str → Option Value} {Z₀ Z : Addr → Prop} {x : Str} {v : Value} {pos : Pos} {Q : Value → Shared → Prop} (I : In C A env Z₀ Z Γ m s.heap) (hx : isGlob env x = true) (hm : C.mg x = some v) (h : Q v s) : wpAny C.M A (eval (.Name x pos) env) Q E s := by
  obtain ⟨h1, h2⟩ := isGlob_spec hx
  exact Calls.Name_function_global I.fn.kind h1 (Calls.loadGlobal_global (by rw [I.fn.glob]; exact I.base.g) hm h) h2
theorem loadBlt {s : Shared} {m : Str → Option Value} {Z₀ Z : Addr → Prop} {x : Str} {v : Value} {pos : Pos} {Q : Value → Shared → Prop} (I : In C A env Z₀ Z Γ m s.heap) (hx : isGlob env x = true) (hm : C.mg x = none) (hb : C.mb x = some v) (h : Q v s) : wpAny C.M A (eval (.Name x pos) env) Q E s := by
  obtain ⟨h1, h2⟩ := isGlob_spec hx
  exact Calls.Name_function_global I.fn.kind h1 (Calls.loadGlobal_builtin (by rw [I.fn.glob]; exact I.base.g) hm (by rw [I.fn.blt]; exact I.base.b) hb h) h2

/-- a datum of the module's top -/
def TopD (C : Cx) (v : Value) (d : PyData) : Prop := ∀ h Z, (∀ a o, C.K.lookup a = some o → h.get? a = some o) → (∀ a, Z a → C.K.lookup a = none) → Rd C.prog C.w Z h v d
theorem In.zsel {m : Str → Option Value} {Z₀ Z : Addr → Prop} {h : Heap} (I : In C A env Z₀ Z Γ m h) (μ : Bool) : Zok C (Mine.sel μ Z) h := by
  cases μ with
  | true => exact I.z
  | false => exact ⟨fun _ q => q.elim, fun _ q => q.elim⟩
theorem ev_glob {x : Str} {v : Value} {pos : Pos} (hx : isGlob env x = true) (hm : C.mg x = some v) (r : TopD C v d) : Ev C A env Γ (.Name x pos) μ d := fun E s m Z₀ Z I =>
  loadGlob I hx hm ⟨Kp.refl s, r _ _ I.base.k (I.zsel μ).k⟩

theorem TopD.none : TopD C .none .none := fun _ _ _ _ => .none
theorem TopD.bool (b : Bool) : TopD C (.bool b) (.bool b) := fun _ _ _ _ => .bool b
theorem TopD.int (i : Int) (t : Tok) : TopD C (.int i t) (.int i) := fun _ _ _ _ => .int i t
theorem TopD.str (x : Str) (t : Tok) (h : PyData.strOk x = true) : TopD C (.str x t) (.str x) := fun _ _ _ _ => .str x t h
def TopDs (C : Cx) (vs : List Value) (ds : List PyData) : Prop := ∀ h Z, (∀ a o, C.K.lookup a = some o → h.get? a = some o) → (∀ a, Z a → C.K.lookup a = none) → Rds C.prog C.w Z h vs ds
theorem TopDs.nil : TopDs C [] [] := fun _ _ _ _ => .nil
theorem TopDs.cons {v : Value} {vs : List Value} {ds : List PyData} (a : TopD C v d) (b : TopDs C vs ds) : TopDs C (v :: vs) (d :: ds) := fun h Z x y => .cons (a h Z x y) (b h Z x y)
theorem TopD.tuple {a : Addr} {vs : Array Value} {n : Nat} {ds : List PyData} (hk : C.K.lookup a = some (tupO vs n)) (r : TopDs C vs.toList ds) : TopD C (.ref a) (.tuple ds) := fun h Z x y =>
  .tuple (x _ _ hk) (fun q => by rw [y _ q] at hk; cases hk) (r h Z x y)
theorem TopD.list {a : Addr} {vs : Array Value} {n : Nat} {ds : List PyData} (hk : C.K.lookup a = some (listO vs n)) (r : TopDs C vs.toList ds) : TopD C (.ref a) (.list ds) := fun h Z x y =>
  .list (x _ _ hk) (fun q => by rw [y _ q] at hk; cases hk) (r h Z x y)

/-! ## calls of the text's own defs -/
/-- what a def gives for these data -/
def FnOk (C : Cx) (k : Nat) (f : Addr) (ds : List PyData) (d : PyData) : Prop :=
  ∀ A E s Z vs, OkA A k → FrOk A s.heap → Base C s.heap → Zok C Z s.heap → Rds C.prog C.w Z s.heap vs ds → wpAny C.M A (call (.ref f) vs []) (fun v s' => Kp A s s' ∧ Rd C.prog C.w Z s'.heap v d) E s

theorem starEach_any {es : List Expr} {pos : Pos} (h : es.all notStar = true) : (backTo pos (starEach es env)).any (·.1) = false := by
  induction es with
  | nil => rfl
  | cons e es ih =>
    simp only [List.all_cons, Bool.and_eq_true] at h
    rw [starEach_cons h.1]
    show (false || (backTo pos (starEach es env)).any (·.1)) = false
    rw [ih h.2]; rfl

theorem Evs.args {a : Expr} {es : List Expr} {ds : List PyData} {f : Value} {pos : Pos} {s : Shared} {m : Str → Option Value} {Z₀ Z : Addr → Prop} {Q : Args → Shared → Prop} (h : Evs C A env Γ (a :: es) μ ds) (hn : notStar a = true) (I : In C A env Z₀ Z Γ m s.heap)
    (k : ∀ vs s', Kp A s s' → In C A env Z₀ Z Γ m s'.heap → Rds C.prog C.w (sel μ Z) s'.heap vs ds → Q ⟨vs, []⟩ s') : wpAny C.M A (evalArgs f true (backTo pos (starEach (a :: es) env)) []) Q E s := by
  have := h.go (E := E) (pos := pos) I (Q := fun vs s' => Q ⟨vs, []⟩ s') k
  rw [starEach_cons hn] at this ⊢
  exact Calls.evalArgs_plain this

theorem ev_call {k : Nat} {x : Str} {f : Addr} {o : Obj} {fd : FuncData} {a : Expr} {es : List Expr} {ds : List PyData} {p pos : Pos} (hA : OkA A k) (hx : isGlob env x = true) (hm : C.mg x = some (.ref f)) (ho : C.K.lookup f = some o) (hf : o.data = .func fd)
    (ha : Evs C A env Γ (a :: es) μ ds) (hn : notStar a = true) (hfn : FnOk C k f ds d) : Ev C A env Γ (.Call (.Name x p) (a :: es) [] pos) μ d := fun E s m Z₀ Z I =>
  Call_Name rfl (loadGlob I hx hm (Calls.callWith_function (ha.args hn I fun vs s' kp I' r => ⟨⟨I'.base.k _ _ ho, hf⟩, by
    rw [List.nil_append]
    exact wpAny_mono (hfn A E s' (sel μ Z) vs hA I'.fr I'.base (I'.zsel μ) r) (fun v s'' ⟨kp', r'⟩ => ⟨kp.trans kp', r'⟩) fun _ _ x => x⟩)))

/-- the names of a call's parameters -/
theorem bindL_not {kindOf : Str → Option NameKind} : ∀ {bs : List (Str × Value)} {m : Str → Option Value} {x : Str}, x ∉ bs.map (·.1) → bindL kindOf bs m x = m x
  | [], _, _, _ => rfl
  | (n, v) :: r, m, x, h => by
    simp only [List.map_cons, List.mem_cons, not_or] at h
    unfold bindL
    rw [bindL_not h.2]
    split
    · simp [h.1]
    · rfl
theorem bindC_not {kindOf : Str → Option NameKind} : ∀ {bs : List (Str × Value)} {m : Str → Option Value} {x : Str}, x ∉ bs.map (·.1) → bindC kindOf bs m x = m x
  | [], _, _, _ => rfl
  | (n, v) :: r, m, x, h => by
    simp only [List.map_cons, List.mem_cons, not_or] at h
    unfold bindC
    rw [bindC_not h.2]
    split
    · rfl
    · simp [h.1]
theorem bindL_at {kindOf : Str → Option NameKind} : ∀ {bs : List (Str × Value)} {m : Str → Option Value} {x : Str} {v : Value}, (bs.map (·.1)).Nodup → kindOf x = some .local → bs.lookup x = some v → bindL kindOf bs m x = some v
  | [], _, _, _, _, _, h => by cases h
  | (n, u) :: r, m, x, v, nd, hk, h => by
    simp only [List.map_cons, List.nodup_cons] at nd
    unfold bindL
    rw [List.lookup_cons] at h
    by_cases hx : x = n
    · subst hx
      simp only [beq_self_eq_true] at h
      cases h
      rw [bindL_not nd.1, if_pos hk]; simp
    · have : (x == n) = false := by simpa using hx
      rw [this] at h
      exact bindL_at nd.2 hk h
theorem bindC_at {kindOf : Str → Option NameKind} : ∀ {bs : List (Str × Value)} {m : Str → Option Value} {x : Str} {v : Value}, (bs.map (·.1)).Nodup → kindOf x ≠ some .local → bs.lookup x = some v → bindC kindOf bs m x = some v
  | [], _, _, _, _, _, h => by cases h
  | (n, u) :: r, m, x, v, nd, hk, h => by
    simp only [List.map_cons, List.nodup_cons] at nd
    unfold bindC
    rw [List.lookup_cons] at h
    by_cases hx : x = n
    · subst hx
      simp only [beq_self_eq_true] at h
      cases h
      rw [bindC_not nd.1, if_neg hk]; simp
    · have : (x == n) = false := by simpa using hx
      rw [this] at h
      exact bindC_at nd.2 hk h

theorem zip_ents {Z : Addr → Prop} {h : Heap} : ∀ {ps : List Str} {vs : List Value} {ds : List PyData} {x : Str} {e : Ent}, Rds C.prog C.w Z h vs ds → (ps.zip (ds.map Ent.fz)).lookup x = some e → ∃ v d, (ps.zip vs).lookup x = some v ∧ e = .fz d ∧ Rd C.prog C.w Z h v d
  | [], _, _, _, _, _, l => by simp at l
  | p :: ps, _, _, x, e, .nil, l => by simp at l
  | p :: ps, _, _, x, e, .cons (v := v) (d := d) a b, l => by
    simp only [List.map_cons, List.zip_cons_cons, List.lookup_cons] at l ⊢
    by_cases hx : x = p
    · have hb : (x == p) = true := by simpa using hx
      rw [hb] at l ⊢
      cases l
      exact ⟨v, d, rfl, rfl, a⟩
    · have hb : (x == p) = false := by simpa using hx
      rw [hb] at l ⊢
      exact zip_ents b l

/-- the fixed facts of a def -/
structure FnDef (C : Cx) (f : Addr) (fd : FuncData) (ps : List Str) (body : List Stmt) : Prop where
  obj : ∃ o, C.K.lookup f = some o ∧ o.data = .func fd
  code : ∀ h, Base C h → h.CodeRec fd.code fd.qualname
  body : fd.body = .stmts body
  clo : fd.closure = []
  glob : fd.globals = mainGlobals
  blt : fd.builtins = builtinsNs
  bind : ∀ vs : List Value, vs.length = ps.length → bindArgs fd ⟨vs, []⟩ = pure (ps.zip vs)
  nd : ps.Nodup
  kinds : (ps.all fun x => fd.scope.names.lookup x == some .local || (fd.scope.names.lookup x == some .cell && ((cellsFrom 0 fd.scope.names []).lookup x).isSome)) = true
  cells : ((cellsFrom 0 fd.scope.names []).all fun p => fd.scope.names.lookup p.1 != some .local) = true
  co : fd.scope.isCoroutine = false
  gen : fd.scope.isGenerator = false
  kind : fd.scope.kind = .function
  acc : fd.scope.names.lookup (".acc" : Str) = none

theorem cellsFrom_keys : ∀ (names : List (Str × NameKind)) (a b : Nat) (acc acc' : List (Str × Addr)), acc.map (·.1) = acc'.map (·.1) → (cellsFrom a names acc).map (·.1) = (cellsFrom b names acc').map (·.1)
  | [], _, _, _, _, h => h
  | (n, k) :: r, a, b, acc, acc', h => by
    unfold cellsFrom
    split
    · exact cellsFrom_keys r _ _ _ _ (by simp [h])
    · exact cellsFrom_keys r _ _ _ _ h
theorem lookup_isSome_iff {α : Type} : ∀ {l : List (Str × α)} {x : Str}, (l.lookup x).isSome = true ↔ x ∈ l.map (·.1)
  | [], x => by simp
  | (k, v) :: r, x => by
    rw [List.lookup_cons]
    by_cases h : x = k
    · have hb : (x == k) = true := by simpa using h
      rw [hb]; simp [h]
    · have hb : (x == k) = false := by simpa using h
      rw [hb]
      show (r.lookup x).isSome = true ↔ _
      rw [lookup_isSome_iff]; simp [h]

/-- behind the call the callee's frame is nobody's -/
theorem Ext.undeeper {A : Around} {env : Env} {h h' : Heap} (x : Ext (A.deeper env) h h') (hn : ∀ L, env.frame = some L → h.get? L = none) : Ext A h h' := fun b o e => by
  rcases x b o e with q | ⟨⟨l, hl, env', he, hf⟩, r⟩
  · exact .inl q
  · refine .inr ⟨?_, r⟩
    have hl' : A.frames.map (env :: ·) = some l := hl
    cases hA : A.frames with
    | none => rw [hA] at hl'; cases hl'
    | some l₀ =>
      rw [hA] at hl'
      cases hl'
      rcases List.mem_cons.mp he with rfl | he
      · rw [hn b hf] at e; cases e
      · exact ⟨l₀, hA, env', he, hf⟩
theorem frOk_call {A : Around} {env : Env} {s s₁ : Shared} {m : Str → Option Value} {A' : Around} (x : FrOk A s.heap) (k : Ext A' s.heap s₁.heap) (ic : s₁.heap.Ns env.locals m) (ifr : ∃ o, s₁.heap.get? env.locals = some o ∧ o.cls = .type "frame") (hf : env.frame = some env.locals) (hk : env.scope.kind = .function) : FrOk (A.deeper env) s₁.heap := by
  obtain ⟨l, hl, hx⟩ := x.keep k
  refine ⟨env :: l, by show A.frames.map (env :: ·) = _; rw [hl]; rfl, fun env' he => ?_⟩
  rcases List.mem_cons.mp he with rfl | he
  · obtain ⟨o, es, ep, ho, hd, _⟩ := ic
    obtain ⟨o', ho', hc'⟩ := ifr
    rw [ho] at ho'; cases ho'
    exact ⟨by rw [hk]; decide, _, o, hf, ho, hc', es, ep, hd⟩
  · exact hx env' he

/-- a call of a def: its frame -/
theorem fn_run {k : Nat} {f : Addr} {fd : FuncData} {ps : List Str} {body : List Stmt} {ds : List PyData} (D : FnDef C f fd ps body) (hlen : ds.length = ps.length) {A : Around} {s : Shared} {Z : Addr → Prop} {vs : List Value} {R : Result → Shared → Prop}
    (hA : OkA A (k + 1)) (hfr : FrOk A s.heap) (B : Base C s.heap) (hz : Zok C Z s.heap) (r : Rds C.prog C.w Z s.heap vs ds)
    (hb : ∀ s₁, (∀ x, Owned (callEnvC fd s.heap.objs.size f) s.heap x) → St C (A.deeper (callEnvC fd s.heap.objs.size f)) (callEnvC fd s.heap.objs.size f) s Z [] [] (ps.zip (ds.map .fz)) s₁ →
      wpAny C.M (A.deeper (callEnvC fd s.heap.objs.size f)) (execs body (callEnvC fd s.heap.objs.size f)) (fun f s' => R (.ok (.ret (match f with | .ret v => v | _ => .none))) s')
        (fun e s' => wpAny C.M (A.deeper (callEnvC fd s.heap.objs.size f)) (leaving (callEnvC fd s.heap.objs.size f) e) (fun _ s'' => R (.error e) s'') (fun e' s'' => R (.error e') s'') s') s₁) :
    codeAny C.M A (.call (.ref f) ⟨vs, []⟩) R s := by
  obtain ⟨o, ho, hd⟩ := D.obj
  have hvl : vs.length = ps.length := by rw [r.length, hlen]
  have hkeys : (ps.zip vs).map (·.1) = ps := by
    rw [← List.unzip_fst, List.unzip_zip (by omega)]
  have hk2 : ∀ (n : Nat) (x : Str), ((cellsFrom n fd.scope.names []).lookup x).isSome = ((cellsFrom 0 fd.scope.names []).lookup x).isSome := fun n x => by
    rw [Bool.eq_iff_iff, lookup_isSome_iff, lookup_isSome_iff, cellsFrom_keys fd.scope.names n 0 [] [] rfl]
  refine callF (by have := hA.dp; omega) (B.k _ _ ho) hd B.lim (D.code _ B) D.body (D.bind vs hvl) D.clo (fun x hx => ?_) (fun s₁ x => ?_) D.co D.gen D.kind
  · have hm : x.1 ∈ ps := by rw [← hkeys]; exact List.mem_map_of_mem hx
    have := List.all_eq_true.mp D.kinds x.1 hm
    simp only [Bool.or_eq_true, Bool.and_eq_true, beq_iff_eq] at this
    rcases this with q | ⟨q, q'⟩
    · exact .inl q
    · exact .inr ⟨q, by rw [hk2]; exact q'⟩
  · obtain ⟨h₁, tk, rfl, keep⟩ := x.c.done
    have hL : (callEnvC fd s.heap.objs.size f).locals = s.heap.objs.size := rfl
    have hnew : ∀ a, s.heap.objs.size ≤ a → s.heap.get? a = none := fun a ha => Heap.get?_none_of_le ha
    have hreZ : ∀ a o, s.heap.get? a = some o → (Z a ∨ (s.heap.get? a = none ∧ ∃ o, h₁.get? a = some o)) → Z a := fun a o e q => q.elim id fun q => by rw [q.1] at e; cases e
    have keepE : Ext (A.deeper (callEnvC fd s.heap.objs.size f)) s.heap h₁ := .of keep
    have S : StW C (A.deeper (callEnvC fd s.heap.objs.size f)) (callEnvC fd s.heap.objs.size f) s.heap Z [] [] (ps.zip (ds.map .fz)) h₁ (fun a => Z a ∨ (s.heap.get? a = none ∧ ∃ o, h₁.get? a = some o))
        (fun y => if (callEnvC fd s.heap.objs.size f).kindOf y = some .local then bindL (callEnvC fd s.heap.objs.size f).kindOf (ps.zip vs) (fun _ => none) y else bindC (callEnvC fd s.heap.objs.size f).kindOf (ps.zip vs) (fun _ => none) y) := by
      have hns := x.c.toInCall.ns
      have zc' : ∀ y c, (callEnvC fd s.heap.objs.size f).cells.lookup y = some c → (Z c ∨ (s.heap.get? c = none ∧ ∃ o, h₁.get? c = some o)) := fun y c hc => by
        have ha := x.c.above y c (mem_of_lookup hc)
        have hn := hnew c (Nat.le_of_lt ha)
        obtain ⟨o, ho, _⟩ := x.c.cell y c hc
        exact .inr ⟨hn, o, ho⟩
      have cd' : ∀ y y' c, (callEnvC fd s.heap.objs.size f).cells.lookup y = some c → (callEnvC fd s.heap.objs.size f).cells.lookup y' = some c → y = y' := fun y y' c hc hc' => name_of_addr x.c.apart (mem_of_lookup hc) (mem_of_lookup hc')
      refine ⟨⟨⟨D.kind, D.glob, D.blt, D.acc⟩, ⟨⟨_, hns, fun y hy => by rw [if_pos hy]⟩, fun y c hc => ?_, fun v q => ?_⟩, fun y e l => ?_, B.keep keepE, ⟨fun a q => ?_, fun a q => ?_⟩, ?_, zc', cd'⟩, B, keepE, fun a q => ⟨.inl q, hz.st a q⟩, .inr ⟨hnew _ (Nat.le_refl _), ?_⟩, hnew _ (Nat.le_refl _), zc', cd', fun p hp => (nomatch hp), fun p hp => (nomatch hp), fun y es a l => ?_⟩
      · have hkl : ¬ (callEnvC fd s.heap.objs.size f).kindOf y = some .local := by
          have hy : y ∈ (cellsFrom 0 fd.scope.names []).map (·.1) := by
            rw [cellsFrom_keys fd.scope.names 0 (s.heap.objs.size + 1) [] [] rfl]
            exact List.mem_map_of_mem (f := (·.1)) (mem_of_lookup hc)
          obtain ⟨p, hp, rfl⟩ := List.mem_map.mp hy
          have := List.all_eq_true.mp D.cells p hp
          intro q
          have q' : fd.scope.names.lookup p.1 = some .local := q
          rw [q'] at this
          exact absurd this (by decide)
        rw [if_neg hkl]
        exact x.c.cell y c hc
      · have hna : (".acc" : Str) ∉ (ps.zip vs).map (·.1) := by
          rw [hkeys]
          intro hin
          have := List.all_eq_true.mp D.kinds _ hin
          rw [D.acc] at this
          simp at this
        have hk : ¬ (callEnvC fd s.heap.objs.size f).kindOf ".acc" = some .local := by
          intro q
          have q' : fd.scope.names.lookup (".acc" : Str) = some .local := q
          rw [D.acc] at q'; cases q'
        rw [if_neg hk, bindC_not hna] at q; cases q
      · obtain ⟨v, d', l', rfl, rd⟩ := zip_ents r l
        have nd : ((ps.zip vs).map (·.1)).Nodup := by rw [hkeys]; exact D.nd
        split
        · rename_i hk
          rw [bindL_at nd hk l']
          exact (rd.reZ hreZ).keep keepE
        · rename_i hk
          rw [bindC_at nd hk l']
          exact (rd.reZ hreZ).keep keepE
      · rcases q with q | q
        · obtain ⟨o, e⟩ := hz.st a q; exact ⟨o, keep _ _ e⟩
        · exact q.2
      · rcases q with q | q
        · exact hz.k a q
        · cases e : C.K.lookup a with
          | none => rfl
          | some o => have := B.k _ _ e; rw [q.1] at this; cases this
      · exact frOk_call (s := s) (s₁ := { s with heap := h₁, toks := tk }) hfr keepE x.c.toInCall.ns x.fr rfl D.kind
      · obtain ⟨o, _, _, ho, _⟩ := hns; exact ⟨o, ho⟩
      · obtain ⟨v, d', l', q, _⟩ := zip_ents r l
        cases q
    exact hb { s with heap := h₁, toks := tk } (fun y c hc => hnew c (Nat.le_of_lt (x.c.above y c (mem_of_lookup hc)))) ⟨⟨h₁, tk, rfl⟩, _, _, S⟩

theorem fn_intro {k : Nat} {f : Addr} {fd : FuncData} {ps : List Str} {body : List Stmt} {ds : List PyData} (D : FnDef C f fd ps body) (hlen : ds.length = ps.length)
    (hb : ∀ A L s₀ Z₀ E, OkA A k → (∀ x, Owned (callEnvC fd L f) s₀.heap x) → (∃ outer, A.frames = some (callEnvC fd L f :: outer)) → Ex C A (callEnvC fd L f) s₀ Z₀ E (ps.zip (ds.map .fz)) body (fun o => o = .ret d)) : FnOk C (k + 1) f ds d := fun A E s Z vs hA hfr B hz r => by
  refine wpAny_call (fn_run D hlen hA hfr B hz r fun s₁ hO S => ?_)
  have hf : ∃ outer, (A.deeper (callEnvC fd s.heap.objs.size f)).frames = some (callEnvC fd s.heap.objs.size f :: outer) := by
    obtain ⟨l, hl, _⟩ := hfr
    exact ⟨l, by show A.frames.map _ = _; rw [hl]; rfl⟩
  refine wpAny_mono (hb (A.deeper (callEnvC fd s.heap.objs.size f)) s.heap.objs.size s Z _ (hA.deeper _) hO hf [] [] s₁ S) (fun fl s' ⟨sm, ou, hp, ok⟩ => ?_) fun _ _ x => x
  subst hp
  cases fl with
  | ret v =>
    obtain ⟨ex, rd⟩ := ok
    obtain ⟨h', tk', rfl⟩ := S.1.trans sm
    exact ⟨⟨⟨h', tk', rfl⟩, ex.undeeper fun L hL => by cases hL; exact Heap.get?_none_of_le (Nat.le_refl _)⟩, rd⟩
  | _ => exact ok.elim
end
end

section
set_option autoImplicit false
set_option linter.unusedVariables false
open PySem PyProof.Rows

section
variable {C : Cx} {A : Around} {env : Env} {Γ Γ₁ Γ₂ : Tab} {e e₁ e₂ : Expr} {μ μ₁ μ₂ : Bool} {d d₁ d₂ : PyData} {h₀ : Heap} {Z₀ : Addr → Prop} {E : Value → Shared → Prop} {Post : Out → Prop}

/-- a built-in name of the text -/
structure Blt (C : Cx) (env : Env) (x : Str) (v : Value) : Prop where
  g : isGlob env x = true
  m : C.mg x = none
  b : C.mb x = some v

/-- a call of a built-in function -/
theorem callBlt {x : Str} {id : String} {a : Expr} {es : List Expr} {ds : List PyData} {p pos : Pos} {s : Shared} {m : Str → Option Value} {Z₀ Z : Addr → Prop} {Q : Value → Shared → Prop} (hb : Blt C env x (.builtin id)) (hn : (a :: es).all notStar = true) (ha : Evs C A env Γ (a :: es) μ ds) (I : In C A env Z₀ Z Γ m s.heap)
    (k : ∀ vs s', Kp A s s' → In C A env Z₀ Z Γ m s'.heap → Rds C.prog C.w (sel μ Z) s'.heap vs ds → wpAny C.M A (call (.builtin id) vs []) Q E s') : wpAny C.M A (eval (.Call (.Name x p) (a :: es) [] pos) env) Q E s := by
  refine Call_Name rfl (loadBlt I hb.g hb.m hb.b (Calls.callWith_builtin (starEach_any hn) (ha.args (by simp only [List.all_cons, Bool.and_eq_true] at hn; exact hn.1) I fun vs s' kp I' r => ?_)))
  rw [List.nil_append]; exact k vs s' kp I' r
/-- a call of a built-in class -/
theorem callTyp {x : Str} {T : String} {a : Expr} {es : List Expr} {ds : List PyData} {p pos : Pos} {s : Shared} {m : Str → Option Value} {Z₀ Z : Addr → Prop} {Q : Value → Shared → Prop} (hb : Blt C env x (.type T)) (hn : (a :: es).all notStar = true) (ha : Evs C A env Γ (a :: es) μ ds) (I : In C A env Z₀ Z Γ m s.heap)
    (k : ∀ vs s', Kp A s s' → In C A env Z₀ Z Γ m s'.heap → Rds C.prog C.w (sel μ Z) s'.heap vs ds → wpAny C.M A (call (.type T) vs []) Q E s') : wpAny C.M A (eval (.Call (.Name x p) (a :: es) [] pos) env) Q E s := by
  refine Call_Name rfl (loadBlt I hb.g hb.m hb.b (PyProof.Rows.callWith_type (starEach_any hn) (ha.args (by simp only [List.all_cons, Bool.and_eq_true] at hn; exact hn.1) I fun vs s' kp I' r => ?_)))
  rw [List.nil_append]; exact k vs s' kp I' r

/-! ## len -/
def lenD : PyData → Option Nat
  | .list ds | .tuple ds => some ds.length
  | .str x => some x.length
  | _ => none
theorem ev_len {x : Str} {p pos : Pos} {n : Nat} (hb : Blt C env x (.builtin "len")) (h : Ev C A env Γ e μ₁ d) (hn : notStar e = true) (hd : lenD d = some n) (hz : n ≤ sizeLine) : Ev C A env Γ (.Call (.Name x p) [e] [] pos) μ (.int n) := fun E s m Z₀ Z I => by
  refine callBlt hb (by simp [hn]) (evs_cons h evs_nil hn) I fun vs s' kp I' r => ?_
  have hz' : (n : Int) < 2 ^ 63 := by
    have : sizeLine = 16777216 := rfl
    omega
  cases r with
  | cons a b =>
    cases b
    cases a with
    | list he z q =>
      cases hd
      have hl := q.length
      simp only [Array.length_toList] at hl
      refine PyProof.Rows.len_list ⟨_, he, rfl, _, rfl⟩ (by rw [hl]; exact hz') ⟨kp.trans (Kp.tok _ _), ?_⟩
      rw [hl]; exact .int _ _
    | tuple he z q =>
      cases hd
      have hl := q.length
      simp only [Array.length_toList] at hl
      refine PyProof.Rows.len_tuple ⟨_, he, rfl, _, rfl⟩ (by rw [hl]; exact hz') ⟨kp.trans (Kp.tok _ _), ?_⟩
      rw [hl]; exact .int _ _
    | str y t hy =>
      cases hd
      exact P.len_str (by omega) ⟨kp.trans (Kp.tok _ _), .int _ _⟩
    | _ => cases hd

/-! ## range -/
theorem Src.congr {n : Nat} {dat dat' : Nat → PyData} (h : Src C A env Γ e n dat) (hd : ∀ i, dat i = dat' i) : Src C A env Γ e n dat' := by
  have : dat = dat' := funext hd
  rw [← this]; exact h
theorem src_range {x : Str} {p pos : Pos} {n : Nat} (hA : A.handled = none) (hb : Blt C env x (.type "range")) (h : Ev C A env Γ e μ (.int n)) (hn : notStar e = true) (hz : n ≤ sizeLine) : Src C A env Γ (.Call (.Name x p) [e] [] pos) n (fun i => .int i) := fun E s m Z₀ Z Q I k => by
  refine callTyp hb (by simp [hn]) (evs_cons h evs_nil hn) I fun vs s' kp I' r => ?_
  have hs : sizeLine = 16777216 := rfl
  cases r with
  | cons a b =>
    cases b
    cases a with
    | int i t =>
      refine call_range_1 ?_
      refine wpAny_pyIter_range (IsRange.new ..) (small_one (by omega) (by omega) (by omega) (by omega)) ?_
      have hsz : Builtin.Range.rangeSize 0 (n : Int) 1 = (n : Int) := by rw [rangeSize_one]; split <;> omega
      rw [hsz]
      have W := wk_range (C := C) (I := (s'.heap.push { cls := .type "range", data := .fields #[.int 0 s'.toks, .int n t, .int 1 (s'.toks + 1)] }).objs.size) hA 0 n
      have hd : (fun i : Nat => PyData.int (0 + (i : Int))) = fun i : Nat => PyData.int i := funext fun i => by rw [Int.zero_add]
      rw [hd] at W
      exact k { s' with heap := s'.heap.push { cls := .type "range", data := .fields #[.int 0 s'.toks, .int n t, .int 1 (s'.toks + 1)] }, toks := s'.toks + 1 + 1 } _ _ _ _ (kp.trans ⟨⟨_, _, rfl⟩, Ext.push _⟩) rfl (by simp) W (fun p hp => nomatch hp) fun p hp => nomatch hp
theorem src_range2 {x : Str} {p pos : Pos} {a b : Int} (hA : A.handled = none) (hb : Blt C env x (.type "range")) (h₁ : Ev C A env Γ e₁ μ (.int a)) (h₂ : Ev C A env Γ e₂ μ (.int b)) (hn₁ : notStar e₁ = true) (hn₂ : notStar e₂ = true) (ha : -1000000 ≤ a ∧ a ≤ 1000000) (hbb : -1000000 ≤ b ∧ b ≤ 1000000) :
    Src C A env Γ (.Call (.Name x p) [e₁, e₂] [] pos) (b - a).toNat (fun i => .int (a + i)) := fun E s m Z₀ Z Q I k => by
  refine callTyp hb (by simp [hn₁, hn₂]) (evs_cons h₁ (evs_cons h₂ evs_nil hn₂) hn₁) I fun vs s' kp I' r => ?_
  cases r with
  | cons q₁ q₂ =>
    cases q₂ with
    | cons q₂ q₃ =>
      cases q₃
      cases q₁ with
      | int i t =>
        cases q₂ with
        | int j u =>
          refine call_range_2 ?_
          refine wpAny_pyIter_range (IsRange.new ..) (small_one (by omega) (by omega) (by omega) (by omega)) ?_
          have hsz : Builtin.Range.rangeSize a b 1 = ((b - a).toNat : Int) := by rw [rangeSize_one]; split <;> omega
          rw [hsz]
          have W := wk_range (C := C) (I := (s'.heap.push { cls := .type "range", data := .fields #[.int a t, .int b u, .int 1 s'.toks] }).objs.size) hA a (b - a).toNat
          exact k { s' with heap := s'.heap.push { cls := .type "range", data := .fields #[.int a t, .int b u, .int 1 s'.toks] }, toks := s'.toks + 1 } _ _ _ _ (kp.trans ⟨⟨_, _, rfl⟩, Ext.push _⟩) rfl (by simp) W (fun p hp => nomatch hp) fun p hp => nomatch hp
end
end

section
set_option autoImplicit false
set_option linter.unusedVariables false
open PySem PyProof.Rows
open Builtin Builtin.Str

/-! ## texts -/
theorem strOk_iff {x : Str} : PyData.strOk x = true ↔ ∀ c ∈ x.cps.toList, c < 0x110000 := by
  unfold PyData.strOk
  rw [← Array.all_toList, List.all_eq_true]
  simp
theorem strOk_empty : PyData.strOk Str.empty = true := by rw [strOk_iff]; intro c hc; exact absurd hc (by simp [Str.empty])
theorem strOk_ofString (x : String) : PyData.strOk (Str.ofString x) = true := by
  rw [strOk_iff, signs_ofString]
  intro c hc
  obtain ⟨ch, _, rfl⟩ := List.mem_map.mp hc
  have := ch.valid
  have h2 : ch.toNat = ch.val.toNat := rfl
  rcases this with h | ⟨_, h⟩
  · have : ch.val.toNat < 0xd800 := h
    omega
  · have : ch.val.toNat < 0x110000 := h
    omega
theorem cps_append (x y : Str) : (x ++ y).cps.toList = x.cps.toList ++ y.cps.toList := by
  rw [Str.cps_append, Array.toList_append]
theorem strOk_join_mem (sep : Str) : ∀ (ts : List Str), PyData.strOk (Str.join sep ts) = true → ∀ t ∈ ts, PyData.strOk t = true
  | [], _, _, h => nomatch h
  | [x], hx, t, h => by cases List.mem_singleton.mp h; exact hx
  | x :: y :: r, hx, t, h => by
    have e : Str.join sep (x :: y :: r) = x ++ sep ++ Str.join sep (y :: r) := rfl
    rw [strOk_iff, e, cps_append, cps_append] at hx
    rcases List.mem_cons.mp h with rfl | h
    · exact strOk_iff.mpr fun c hc => hx c (by simp [hc])
    · exact strOk_join_mem sep (y :: r) (strOk_iff.mpr fun c hc => hx c (by simp [hc])) t h
theorem strOk_join {sep : Str} (hs : PyData.strOk sep = true) : ∀ (ts : List Str), (∀ t ∈ ts, PyData.strOk t = true) → PyData.strOk (Str.join sep ts) = true
  | [], _ => strOk_empty
  | [x], h => h x List.mem_cons_self
  | x :: y :: r, h => by
    have e : Str.join sep (x :: y :: r) = x ++ sep ++ Str.join sep (y :: r) := rfl
    rw [e]
    exact strOk_append (strOk_append (h x List.mem_cons_self) hs) (strOk_join hs (y :: r) fun t ht => h t (List.mem_cons_of_mem _ ht))
theorem strOk_split {x y : Str} (hx : PyData.strOk x = true) : ∀ p ∈ Txt.split x y, PyData.strOk p = true :=
  strOk_join_mem y _ (by rw [StrLaws.join_split]; exact hx)

section
variable {C : Cx} {A : Around} {env : Env} {Γ Γ₁ Γ₂ : Tab} {e e₁ e₂ : Expr} {μ μ₁ μ₂ : Bool} {d d₁ d₂ : PyData}

theorem rds_strs {Z : Addr → Prop} {h : Heap} : ∀ {l : List (Str × Tok)}, (∀ p ∈ l, PyData.strOk p.1 = true) → Rds C.prog C.w Z h (strValues l) ((l.map (·.1)).map .str)
  | [], _ => .nil
  | (x, t) :: r, hl => .cons (.str x t (hl _ List.mem_cons_self)) (rds_strs fun p hp => hl p (List.mem_cons_of_mem _ hp))
theorem rds_strs_inv {Z : Addr → Prop} {h : Heap} : ∀ {vs : List Value} {ts : List Str}, Rds C.prog C.w Z h vs (ts.map .str) → ∃ l, vs = strValues l ∧ l.map (·.1) = ts ∧ ∀ t ∈ ts, PyData.strOk t = true
  | _, [], r => by cases r; exact ⟨[], rfl, rfl, fun _ h => nomatch h⟩
  | _, x :: ts, r => by
    cases r with
    | cons a b =>
      cases a with
      | str _ t hx =>
        obtain ⟨l, rfl, rfl, hl⟩ := rds_strs_inv b
        refine ⟨(x, t) :: l, rfl, rfl, fun u hu => ?_⟩
        rcases List.mem_cons.mp hu with rfl | hu
        · exact hx
        · exact hl u hu

theorem split_op {x y : Str} {t u : Tok} {s : Shared} {E : Value → Shared → Prop} {Q : Value → Shared → Prop} {Z : Addr → Prop} (hx : PyData.strOk x = true) (hy : 1 ≤ y.length) (hz : x.length < sizeLine) (nz : ¬ Z s.heap.objs.size)
    (k : ∀ v s', Kp A s s' → Rd C.prog C.w Z s'.heap v (.list ((Txt.split x y).map .str)) → Q v s') :
    ∃ S, Meets («str.split» ⟨[.str x t, .str y u], []⟩) S ∧ S A (wants Q E) s := by
  have hy' : (y.length == 0) = false := by simp; omega
  have hp : ∀ p ∈ Txt.split x y, PyData.strOk p = true := strOk_split hx
  have mk : ∀ (l : List (Str × Tok)) (tk : Nat), l.map (·.1) = Txt.split x y → Q (.ref s.heap.objs.size) { s with heap := s.heap.push { cls := .type "list", data := .seq (strValues l).toArray }, toks := tk } := fun l tk hl => by
    refine k _ _ ⟨⟨_, _, rfl⟩, Ext.push _⟩ (.list (n := 0) (Heap.get?_push_size _ rfl) nz ?_)
    rw [← hl]
    exact rds_strs fun p hp' => hp _ (by rw [← hl]; exact List.mem_map_of_mem hp')
  cases h1 : (decide (x.length < y.length) || decide (strKind x < strKind y))
  · cases hf : (occurrences x y 0 x.length (x.length + 1)).isEmpty
    · have he : Txt.split x y = partsBetween x (occurrences x y 0 x.length (x.length + 1)) y.length := (if_neg (ne_true_of_eq_false h1)).trans (if_neg (ne_true_of_eq_false hf))
      have hn : (partsBetween x (occurrences x y 0 x.length (x.length + 1)) y.length).length ≤ sizeLine := by
        rw [← he]
        have := split_weight x y hy
        omega
      refine ⟨_, meets_str_split_sep x y t u h1 hy' hf (Nat.le_of_lt hz) hn, ?_⟩
      show wants Q E _ { s with toks := _, heap := s.heap.push { cls := .type "list", data := .seq (strsFrom s.toks (partsBetween x (occurrences x y 0 x.length (x.length + 1)) y.length)).toArray } }
      rw [strsFrom_eq]
      exact mk (numbered s.toks _) _ ((numbered_texts _ _).trans he.symm)
    · exact ⟨_, meets_str_split_not_found x y t u h1 hy' hf, mk [(x, t)] s.toks ((if_neg (ne_true_of_eq_false h1)).trans (if_pos hf)).symm⟩
  · exact ⟨_, meets_str_split_cannot_occur x y t u h1, mk [(x, t)] s.toks (if_pos h1).symm⟩

theorem ev_split {ap cp : Pos} {x y : Str} (h₁ : Ev C A env Γ e₁ μ₁ (.str x)) (h₂ : Ev C A env Γ e₂ μ₂ (.str y)) (hb : attributeBase e₁ "split" env (eval e₁ env) = eval e₁ env) (hn : notStar e₂ = true) (hline : (ap.endLine == cp.line) = true) (hy : 1 ≤ y.length) (hz : x.length < sizeLine) :
    Ev C A env Γ (.Call (.Attribute e₁ "split" ap) [e₂] [] cp) μ (.list ((Txt.split x y).map .str)) := fun E s m Z₀ Z I => by
  refine Call_method1 hb (by rw [starEach_cons hn]; rfl) hline (h₁.go I fun v s₁ k₁ I₁ r₁ => ?_)
  cases r₁ with
  | str _ t hx =>
    refine ⟨"str", _, F.plainAttrs_str, F.slot_str_split, F.type_str_split, typeIs_str _ _ _, (fun _ e => nomatch e), method1_meets F.slot_str_split F.entry_str_split (h₂.go I₁ fun u s₂ k₂ I₂ r₂ => ?_)⟩
    cases r₂ with
    | str _ u _ => exact ⟨typeIs_str _ _ _, F.args_str_split_2 _ _, split_op hx hy hz (I₂.sel μ) fun v s' k r => ⟨(k₁.trans k₂).trans k, r⟩⟩

theorem ev_join {ap cp : Pos} {x : Str} {ts : List Str} (h₁ : Ev C A env Γ e₁ μ₁ (.str x)) (h₂ : Ev C A env Γ e₂ μ₂ (.list (ts.map .str))) (hb : attributeBase e₁ "join" env (eval e₁ env) = eval e₁ env) (hn : notStar e₂ = true) (hline : (ap.endLine == cp.line) = true)
    (hz : (ts.map (·.length)).sum + ts.length * x.length ≤ 16777216) : Ev C A env Γ (.Call (.Attribute e₁ "join" ap) [e₂] [] cp) μ (.str (Str.join x ts)) := fun E s m Z₀ Z I => by
  refine Call_method1 hb (by rw [starEach_cons hn]; rfl) hline (h₁.go I fun v s₁ k₁ I₁ r₁ => ?_)
  cases r₁ with
  | str _ t hx =>
    refine SB.join (h₂.go I₁ fun u s₂ k₂ I₂ r₂ => ?_)
    cases r₂ with
    | @list a vs n _ he z q =>
      obtain ⟨l, hv, hl, hok⟩ := rds_strs_inv q
      refine ⟨a, l, rfl, ?_, ts, hl, joinOk_of hz, fun t' k => ⟨(k₁.trans k₂).trans (Kp.tok _ _), ?_⟩⟩
      · rw [← hv]; exact ⟨_, he, rfl, _, rfl⟩
      · show Rd _ _ _ _ (.str (glued x ts) t') _
        rw [StrLaws.glued_eq_join]
        exact .str _ _ (strOk_join hx ts hok)

theorem ev_starts {ap cp : Pos} {x y : Str} (h₁ : Ev C A env Γ e₁ μ₁ (.str x)) (h₂ : Ev C A env Γ e₂ μ₂ (.str y)) (hb : attributeBase e₁ "startswith" env (eval e₁ env) = eval e₁ env) (hn : notStar e₂ = true) (hline : (ap.endLine == cp.line) = true) :
    Ev C A env Γ (.Call (.Attribute e₁ "startswith" ap) [e₂] [] cp) μ (.bool (Txt.startswith x y)) := fun E s m Z₀ Z I => by
  refine Call_method1 hb (by rw [starEach_cons hn]; rfl) hline (h₁.go I fun v s₁ k₁ I₁ r₁ => ?_)
  cases r₁ with
  | str _ t hx =>
    refine SB.startswith (h₂.go I₁ fun u s₂ k₂ I₂ r₂ => ?_)
    cases r₂ with
    | str _ u _ => exact ⟨y, u, rfl, k₁.trans k₂, .bool _⟩

/-! ## f-strings -/
/-- a part of an f-string gives this text -/
def EvT (C : Cx) (A : Around) (env : Env) (Γ : Tab) (e : Expr) (x : Str) : Prop := Ev C A env Γ e true (.str x)
def EvTs (C : Cx) (A : Around) (env : Env) (Γ : Tab) : List Expr → List Str → Prop
  | [], [] => True
  | e :: es, x :: xs => EvT C A env Γ e x ∧ EvTs C A env Γ es xs
  | _, _ => False
def catAll : Str → List Str → Str
  | acc, [] => acc
  | acc, x :: r => catAll (acc ++ x) r
theorem ev_fstr_go {E : Value → Shared → Prop} {m : Str → Option Value} {Z₀ Z : Addr → Prop} : ∀ {es : List Expr} {xs : List Str} {acc : Str} {s₀ s : Shared}, EvTs C A env Γ es xs → Kp A s₀ s → In C A env Z₀ Z Γ m s.heap → PyData.strOk acc = true → acc.length + (xs.map (·.length)).sum ≤ sizeLine →
    wpAny C.M A (joinParts acc (evalEach es env)) (fun v s' => Kp A s₀ s' ∧ Rd C.prog C.w (sel μ Z) s'.heap v (.str (catAll acc xs))) E s
  | [], [], acc, s₀, s, _, k, I, ha, hz => joinParts_nil ⟨k.trans (Kp.tok _ _), .str _ _ ha⟩ (by simpa using hz)
  | [], _ :: _, _, _, _, h, _, _, _, _ => h.elim
  | _ :: _, [], _, _, _, h, _, _, _, _ => h.elim
  | e :: es, x :: xs, acc, s₀, s, h, k, I, ha, hz => by
    show wpAny C.M A (joinParts acc (eval e env :: evalEach es env)) _ E s
    simp only [List.map_cons, List.sum_cons] at hz
    refine joinParts_cons (h.1.go I fun v s' k' I' r => ?_)
    cases r with
    | str _ t hx =>
      refine ⟨by rw [Str.length_append]; omega, ev_fstr_go h.2 (k.trans k') I' (strOk_append ha hx) (by rw [Str.length_append]; omega)⟩
theorem ev_fstr {e₁ e₂ : Expr} {es : List Expr} {xs : List Str} {pos : Pos} (h : EvTs C A env Γ (e₁ :: e₂ :: es) xs) (hz : (xs.map (·.length)).sum ≤ sizeLine) : Ev C A env Γ (.JoinedStr (e₁ :: e₂ :: es) pos) μ (.str (catAll Str.empty xs)) := fun E s m Z₀ Z I =>
  JoinedStr_many (ev_fstr_go h (Kp.refl s) I strOk_empty (by rw [show Str.empty.length = 0 from by decide, Nat.zero_add]; exact hz))
theorem ev_field_int {i : Int} {pos : Pos} (h : Ev C A env Γ e μ (.int i)) (hi : i.natAbs < 10 ^ 9) : EvT C A env Γ (.FormattedValue e (-1) none pos) (Str.ofString (toString i)) := fun E s m Z₀ Z I => by
  refine PyProof.Rows.FormattedValue_plain (h.go I fun v s' k I' r => ?_)
  cases r with
  | int _ t =>
    refine formatField_int_small ?_ ⟨k.trans (Kp.tok _ _), .str _ _ (strOk_ofString _)⟩
    rcases Nat.eq_zero_or_pos i.natAbs with h0 | h0
    · rw [h0]; decide
    · refine (Nat.log2_lt (by omega)).mpr (Nat.lt_of_lt_of_le hi ?_)
      exact Nat.le_trans (by decide : 10 ^ 9 ≤ 2 ^ 30) (Nat.pow_le_pow_right (n := 2) (i := 30) (j := 1920) (by omega) (by omega))
end
end

section
set_option autoImplicit false
set_option linter.unusedVariables false
open PySem
open Sem (wp)

theorem dropName_cls (name : Str) (o : Obj) : (Obj.dropName name o).cls = o.cls := by
  obtain ⟨c, d, dt, sl⟩ := o
  rw [Obj.dropName_eq]
  cases dt <;> simp only [Obj.dropNameByArray]
  split <;> rfl

/-- a name goes; the class of the namespace's object stays -/
theorem nsDel_cls {M : Model} {A : Around} {E : Value → Shared → Prop} {s : Shared} {a : Addr} {m : Str → Option Value} {name : Str} {Q : Bool → Shared → Prop} (hn : s.heap.Ns a m) (hs : (m name).isSome = true)
    (h : ∀ h' u, h'.Ns a (fun x => if x = name then u else m x) → Heap.SameBut a s.heap h' → (∀ o, s.heap.get? a = some o → ∃ o', h'.get? a = some o' ∧ o'.cls = o.cls) → Q true { s with heap := h' }) :
    wpAny M A (nsDel a name) Q E s := fun Γ p hΓ => by
  obtain ⟨o, es, ep, ho, hd, hk, hm⟩ := id hn
  have hany : es.any (·.refKey) = false := by
    rw [Array.any_eq_false']; intro e he; obtain ⟨n, t, h⟩ := hk e he; simp [DictEntry.refKey, h]
  have hsome : es.any (·.key.isStr name) = true := by
    rw [← hm name] at hs
    simp only [nsFind, findBy, Option.isSome_map, Array.find?_isSome] at hs
    obtain ⟨x, hx, hp⟩ := hs
    obtain ⟨i, hi, rfl⟩ := Array.mem_iff_getElem.mp hx
    exact Array.any_eq_true.mpr ⟨i, hi, hp⟩
  have hhas : nsHas name o = pure true := by
    rw [nsHas_eq]; unfold nsHasByArray; rw [hd]
    show (if (es.any fun x => x.key.isStr name) = true then _ else _) = _
    rw [if_pos hsome]
  have key : ∀ Q' : Bool → Pos → Shared → Prop, wp M Γ (nsDel a name) Q' (fun e _ s' => E e s') p s ↔ Q' true p { s with heap := s.heap.update a (Obj.dropName name) } := by
    intro Q'
    simp only [nsDel, Sem.wp_bind']
    rw [Sem.wp_loadPart_of M Γ _ p s (o := o) _ ho]
    simp only [hhas, Sem.wp_pure', if_true, Sem.wp_bind', Sem.wp_cmd_updatePart]
    simp [ho]
  have q := (key (fun _ _ s' => (∃ u, s'.heap.Ns a (fun x => if x = name then u else m x)) ∧ Heap.SameBut a s.heap s'.heap)).mp (wpAny_nsDel_keeps (E := E) hn (Q := fun _ s' => (∃ u, s'.heap.Ns a (fun x => if x = name then u else m x)) ∧ Heap.SameBut a s.heap s'.heap) (fun h' u h1 h2 => ⟨⟨u, h1⟩, h2⟩) Γ p hΓ)
  obtain ⟨⟨u, q1⟩, q2⟩ := q
  refine (key _).mpr (h _ u q1 q2 fun o' e => ?_)
  exact ⟨_, Heap.get?_update_self _ e (by
    obtain ⟨o₂, es₂, ep₂, ho₂, hd₂, _⟩ := q1
    have hf := (Heap.get?_some_iff.mp ho₂).2
    have hh : s.heap.objs[a]? = some o' := (Heap.get?_some_iff.mp e).1
    have hu : (s.heap.update a (Obj.dropName name)).objs[a]? = some (Obj.dropName name o') := by
      generalize s.heap = hp at hh
      obtain ⟨objs, l⟩ := hp
      simp only [Heap.update, Array.getElem?_modify, if_true]
      simp only at hh
      rw [hh]; rfl
    have hx := (Heap.get?_some_iff.mp ho₂).1
    rw [hu] at hx
    cases hx
    exact hf), dropName_cls _ _⟩
end

section
set_option autoImplicit false
set_option linter.unusedVariables false
set_option maxRecDepth 100000
open PySem PyProof.Rows PySem.W PySem.Builtin PySem.Builtin.Str PySem.Builtin.BaseException PySem.Builtin.Exceptions
open Sem (wp)

abbrev bmE : List Value := [.type "Exception", .type "BaseException", .type "object"]

/-- a class of the text that stands right below Exception, with nothing of its own -/
def ExcAtK (K : List (Addr × Obj)) (x : Addr) : Prop := ∀ h : Heap, (∀ a o, K.lookup a = some o → h.get? a = some o) →
  ∃ nm q N bs hdct sn sub ab col dd k0 k1 k2 k3 k5 mN, h.get? x = some (excClassObj nm q x N bs bmE hdct sn sub ab col dd k0 k1 k2 k3 k5 "Exception.__new__") ∧ h.Ns N mN ∧ mN "__init__" = none ∧ mN "__str__" = none

section
variable {prog : Program} {w : World} {A : Around} {E : Value → Shared → Prop} {h : Heap} {g : Array GenState} {d : Drawn} {tk : Nat} {os : OsState}
  {nm q : Str} {C N e t0 : Addr} {bs bm bmB : List Value} {hdct : Bool} {sn : List Str} {sub : List Value} {ab : Bool} {col : Option Bool} {dd : Option Addr} {k0 k1 k2 k3 k5 : Option Value} {newId : String} {mN : Str → Option Value} {oe : Obj} {vs : Array Value}

theorem bexcArgs_any {M : Model} {items : List Value} {Q : Value × List Value → Shared → Prop} {s : Shared} (he : s.heap.get? e = some oe) (hd : oe.data = .fields vs) (h0 : vs[0]? = some (.ref t0)) (ht : s.heap.TupAt t0 items) (hq : Q (.ref t0, items) s) :
    wpAny M A (bexcArgs (.ref e)) Q E s := by
  obtain ⟨ot, k, hto, _, htd⟩ := ht
  unfold bexcArgs
  refine wpAny_bind (wpAny_field he hd h0 (wpAny_bind (wpAny_seqItems hto htd ?_)))
  have : items.toArray.toList = items := by simp
  show wpAny M A (pure (Value.ref t0, items.toArray.toList)) Q E s
  rw [this]; exact wpAny_pure hq

theorem bexcStr_any {m : Str} {u : Tok} {Q : Fin → Shared → Prop} {s : Shared} (he : s.heap.get? e = some oe) (hd : oe.data = .fields vs) (h0 : vs[0]? = some (.ref t0)) (ht : s.heap.TupAt t0 [.str m u]) (hq : Q (.done (.ret (.str m u))) s) :
    wpAny (model prog w) A (Builtin.«BaseException.__str__» ⟨[.ref e], []⟩) Q E s := by
  unfold Builtin.«BaseException.__str__»
  repeat (first | with_reducible refine bexcArgs_any he hd h0 ht ?_ | wp_step)
  exact hq

theorem check_str_own {M : Model} {Q : Unit → Shared → Prop} (hC : h.get? C = some (excClassObj nm q C N bs bmE hdct sn sub ab col dd k0 k1 k2 k3 k5 newId))
    (hx : h.get? e = some oe) (hc : oe.cls = .ref C) (hq : Q () ⟨h, g, d, tk, os⟩) : wpAny M A (checkBuiltinCall "BaseException.__str__" ⟨[.ref e], []⟩) Q E ⟨h, g, d, tk, os⟩ := by
  have hk : builtinKind "BaseException.__str__" = some .slot := by decide +kernel
  have hsplit : splitId "BaseException.__str__" = some ("BaseException", "__str__") := by decide +kernel
  have hcB : (Value.ref C :: bmE).contains (.type "BaseException") = true := by rw [List.contains_cons, F.excBase_Exception.hasBase, Bool.or_true]
  have ha := F.args_bexc_str (.ref e)
  simp only [checkBuiltinCall, hk, hsplit]
  refine wpAny_bind ?_
  · unfold isInstance
    repeat (first | (with_reducible refine wpAny_loadPart_at hx ?_; rw [hc]) | (with_reducible refine wpAny_isSubtype_exc hC ?_; rw [hcB]) | wp_step)
    exact hq

theorem call_str_own {m : Str} {u : Tok} {Q : Value → Shared → Prop} (hC : h.get? C = some (excClassObj nm q C N bs bmE hdct sn sub ab col dd k0 k1 k2 k3 k5 newId))
    (hx : h.get? e = some oe) (hc : oe.cls = .ref C) (hd : oe.data = .fields vs) (h0 : vs[0]? = some (.ref t0)) (ht : h.TupAt t0 [.str m u]) (hq : Q (.str m u) ⟨h, g, d, tk, os⟩) :
    wpAny (model prog w) A (call (.builtin "BaseException.__str__") [.ref e]) Q E ⟨h, g, d, tk, os⟩ :=
  wpAny_call (codeAny_call_builtin F.excStr_Exception.str.plain F.entry_bexc_str (check_str_own hC hx hc (bexcStr_any hx hd h0 ht hq)))

theorem strOf_own {m : Str} {u : Tok} {Q : Value → Shared → Prop} (hu : A.units < cLine) (hC : h.get? C = some (excClassObj nm q C N bs bmE hdct sn sub ab col dd k0 k1 k2 k3 k5 newId)) (hN : h.Ns N mN) (hms : mN "__str__" = none)
    (hx : h.get? e = some oe) (hc : oe.cls = .ref C) (hd : oe.data = .fields vs) (h0 : vs[0]? = some (.ref t0)) (ht : h.TupAt t0 [.str m u]) (hq : Q (.str m u) ⟨h, g, d, tk, os⟩) :
    wpAny (model prog w) A (Builtin.Str.strOf (.ref e)) Q E ⟨h, g, d, tk, os⟩ := by
  have hbind := F.excStr_Exception.str.bind (.ref e)
  unfold Builtin.Str.strOf callSpecial? specialOf
  repeat (first | with_reducible refine wpAny_cRoomFor hu ?_ | (with_reducible refine wpAny_loadPart_at hx ?_; rw [hc]) | (with_reducible refine wpAny_typeLookup_exc hC hN (B := "Exception") F.excBase_Exception.mroIs F.excStr_Exception.str.lookup ?_; rw [hms]) | with_reducible refine call_str_own hC hx hc hd h0 ht ?_ | wp_step)
  refine codeAny_call_builtin F.excStr_Exception.str.plain F.entry_bexc_str (check_str_own hC hx hc (bexcStr_any hx hd h0 ht ?_))
  repeat (first | with_reducible refine wpAny_isInstance (typeIs_str _ _ _) isSubtype_str_str ?_ | wp_step)
  exact hq

/-- str(e) -/
theorem str_of_own {m : Str} {u : Tok} {Q : Value → Shared → Prop} (hu : A.units + 2 < cLine) (hC : h.get? C = some (excClassObj nm q C N bs bmE hdct sn sub ab col dd k0 k1 k2 k3 k5 newId)) (hN : h.Ns N mN) (hms : mN "__str__" = none)
    (hx : h.get? e = some oe) (hc : oe.cls = .ref C) (hd : oe.data = .fields vs) (h0 : vs[0]? = some (.ref t0)) (ht : h.TupAt t0 [.str m u]) (hq : Q (.str m u) ⟨h, g, d, tk, os⟩) :
    wpAny (model prog w) A (call (.type "str") [.ref e]) Q E ⟨h, g, d, tk, os⟩ :=
  callType_new F.called_str (by decide) (F.typeCall_str_1 _) (F.newCall_str_1 _) (fun obj => F.args_object_init_2 obj _) F.entry_str_new
    (meets_str_new (S := fun A' R s' => A'.units + 1 < cLine ∧ s'.heap = h ∧ R (.ok (.ret (.str m u))) s')
      fun _ _ A' s' _ hq => strOf_own (A := A'.in1) hq.1 (hq.2.1 ▸ hC) (hq.2.1 ▸ hN) hms (hq.2.1 ▸ hx) hc hd h0 (hq.2.1 ▸ ht) hq.2.2)
    ⟨(show A.units + 1 + 1 < cLine from hu), rfl, typeIs_str _ _ _, hq⟩
end
end

section
set_option autoImplicit false
set_option linter.unusedVariables false
open PySem PyProof.Rows PySem.W

def frs (A : Around) : List Addr := (A.frames.getD []).filterMap (·.frame)
theorem mem_frs {A : Around} {b : Addr} : b ∈ frs A ↔ isFrame A b := by
  unfold frs isFrame
  cases h : A.frames with
  | none => simp
  | some l => simp [List.mem_filterMap]
abbrev bas (A : Around) (h₀ : Heap) : Heap := hideAll h₀ (frs A)

section
variable {A : Around} {h₀ h h' : Heap} {x e t : Addr} {msg : Str} {k : Option Value}

theorem bas_stays (x : Ext A h₀ h) : (bas A h₀).StaysIn h := fun b o q => by
  by_cases hb : b ∈ frs A
  · rw [hideAll_none _ hb] at q; cases q
  · rcases x b o (of_hideAll _ q) with r | ⟨f, _⟩
    · exact r
    · exact absurd (mem_frs.mpr f) hb
theorem frOk_fun {l : List Env} (f : FrOk A h) (hl : A.frames = some l) : h.FunFrames (bas A h₀) l := by
  obtain ⟨l', hl', hx⟩ := f
  rw [hl] at hl'; cases hl'
  have key : ∀ l₁ : List Env, (∀ env ∈ l₁, env ∈ l) → h.FunFrames (bas A h₀) l₁ := by
    intro l₁
    induction l₁ with
    | nil => intro _; trivial
    | cons env r ih =>
      intro hin
      obtain ⟨h1, L, o, h2, h3, h4, es, ep, h5⟩ := hx env (hin env List.mem_cons_self)
      exact ⟨h1, ⟨L, o, h2, hideAll_none _ (mem_frs.mpr ⟨l, hl, env, hin env List.mem_cons_self, h2⟩), h3, fun vs q => by rw [h5] at q; cases q⟩, ih fun e he => hin e (List.mem_cons_of_mem _ he)⟩
  exact key l fun _ h => h
/-- a frame's object bears no fields -/
theorem FrOk.noFields (f : FrOk A h) {b : Addr} (hb : isFrame A b) : ∃ o, h.get? b = some o ∧ o.cls = .type "frame" ∧ ∀ vs, o.data ≠ .fields vs := by
  obtain ⟨l, hl, hx⟩ := f
  obtain ⟨l', hl', env, he, hf⟩ := hb
  rw [hl] at hl'; cases hl'
  obtain ⟨h1, L, o, h2, h3, h4, es, ep, h5⟩ := hx env he
  rw [hf] at h2; cases h2
  exact ⟨o, h3, h4, fun vs q => by rw [h5] at q; cases q⟩
theorem ext_after (x : Ext A h₀ h) (f : FrOk A h) (st : (bas A h₀).StaysIn h') (us : h.UpToSlots h') : Ext A h₀ h' := fun b o e => by
  by_cases hb : b ∈ frs A
  · have hb' := mem_frs.mp hb
    obtain ⟨o', ho', hc', hn'⟩ := f.noFields hb'
    obtain ⟨sl, hs⟩ := us b o' ho' hn'
    rcases x b o e with r | ⟨_, c, sl', r⟩
    · rw [r] at ho'; cases ho'; exact .inr ⟨hb', hc', sl, hs⟩
    · rw [r] at ho'; cases ho'; exact .inr ⟨hb', c, sl, hs⟩
  · exact .inl (st b o (hideAll_get _ e hb))
theorem frOk_after (f : FrOk A h) (us : h.UpToSlots h') : FrOk A h' := by
  obtain ⟨l, hl, hx⟩ := f
  refine ⟨l, hl, fun env he => ?_⟩
  obtain ⟨h1, L, o, h2, h3, h4, es, ep, h5⟩ := hx env he
  obtain ⟨sl, hs⟩ := us L o h3 fun vs q => by rw [h5] at q; cases q
  exact ⟨h1, L, _, h2, hs, h4, es, ep, h5⟩

/-- where the traceback stands: none yet, or its flight -/
def Trc (h₀ : Heap) (x e t : Addr) (h : Heap) : Option Value → Prop
  | none => ∃ oe vs, h.get? e = some oe ∧ oe.cls = .ref x ∧ oe.data = .fields vs ∧ vs[0]? = some (.ref t) ∧ vs[1]? = some .none
  | some fl => h.TracedAtW h₀ e (.ref x) (.ref t) fl

/-- an exception of the class x with this message is on its way -/
structure Fl (A : Around) (h₀ : Heap) (x : Addr) (msg : Str) (e : Addr) (h : Heap) (k : Option Value) : Prop where
  ext : Ext A h₀ h
  fr : FrOk A h
  ne : h₀.get? e = none
  ok : PyData.strOk msg = true
  tr : ∃ t u, h₀.get? t = none ∧ h.TupAt t [.str msg u] ∧ Trc h₀ x e t h k

theorem traced_out {fl : Value} (f : FrOk A h) (q : h.TracedAtW (bas A h₀) e (.ref x) (.ref t) fl) : h.TracedAtW h₀ e (.ref x) (.ref t) fl := by
  obtain ⟨oe, vs, T, oT, ts, he, hcls, hd, h1, hnT, hTe, hT, hdT, h3⟩ := q
  refine ⟨oe, vs, T, oT, ts, he, hcls, hd, h1, ?_, hTe, hT, hdT, h3⟩
  cases q : h₀.get? T with
  | none => rfl
  | some o =>
    by_cases hb : T ∈ frs A
    · obtain ⟨o', ho', _, hn'⟩ := f.noFields (mem_frs.mp hb)
      rw [hT] at ho'; cases ho'; exact absurd hdT (hn' ts)
    · rw [hideAll_get _ q hb] at hnT; cases hnT
theorem fresh_bas {b : Addr} (q : h₀.get? b = none) : (bas A h₀).get? b = none := by
  cases r : (bas A h₀).get? b with
  | none => rfl
  | some o => rw [of_hideAll _ r] at q; cases q
theorem traced_in {fl : Value} (q : h.TracedAtW h₀ e (.ref x) (.ref t) fl) : h.TracedAtW (bas A h₀) e (.ref x) (.ref t) fl := by
  obtain ⟨oe, vs, T, oT, ts, he, hcls, hd, h1, hnT, hTe, hT, hdT, h3⟩ := q
  exact ⟨oe, vs, T, oT, ts, he, hcls, hd, h1, fresh_bas hnT, hTe, hT, hdT, h3⟩
end

section
variable {M : Model} {A : Around} {E : Value → Shared → Prop} {s : Shared} {h₀ : Heap} {x e L : Addr} {msg : Str} {k : Option Value} {env : Env} {outer : List Env} {Q : Unit → Shared → Prop}

theorem Fl.note (F : Fl A h₀ x msg e s.heap k) (hfr : A.frames = some (env :: outer)) (hf : env.frame = some L) (hk : k = none ∨ k = some .none ∨ k = some (rawInt L))
    (hQ : ∀ h', Fl A h₀ x msg e h' (some (rawInt L)) → Q () { s with heap := h' }) : wpAny M A (noteFrame (.ref e) env) Q E s := by
  obtain ⟨ext, fr, ne, ok, t, u, nt, tup, tr⟩ := F
  have fin : ∀ h', Heap.NotedW (bas A h₀) (env :: outer) e (.ref x) (.ref t) (rawInt L) s.heap h' → Q () { s with heap := h' } := fun h' ⟨x1, x2, x3, x4⟩ => by
    have fr' := frOk_after fr x4
    exact hQ h' ⟨ext_after ext fr x1 x4, fr', ne, ok, t, u, nt, tup.of_slots x4, traced_out fr' x3⟩
  rcases hk with rfl | rfl | rfl
  · obtain ⟨oe, vs, he, hc, hd, h0, h1⟩ := tr
    unfold noteFrame
    simp only [hf]
    refine wpAny_bind (wpAny_field he hd h1 ?_)
    rw [if_neg (by decide)]
    exact wpAny_entryW hfr (frOk_fun fr hfr) hf he (bas_stays ext) (fresh_bas ne) hd (Array.getElem?_eq_some_iff.mp h1).1 h0 (hc ▸ fin)
  · exact wpAny_noteFrame_onW hfr (frOk_fun fr hfr) hf (traced_in (A := A) tr) (bas_stays ext) (fresh_bas ne) fin
  · exact wpAny_noteFrame_againW hf (traced_in (A := A) tr) (hQ s.heap ⟨ext, fr, ne, ok, t, u, nt, tup, tr⟩)

theorem Fl.flight {fl : Value} (f : Option Addr) (F : Fl A h₀ x msg e s.heap (some fl)) (hQ : ∀ h', Fl A h₀ x msg e h' (some (f.elim .none fun f => rawInt f)) → Q () { s with heap := h' }) :
    wpAny M A (setFlight (.ref e) f) Q E s := by
  obtain ⟨ext, fr, ne, ok, t, u, nt, tup, tr⟩ := F
  obtain ⟨oe, vs, T, oT, ts, he, hcls, hd, h1, hnT, hTe, hT, hdT, h3⟩ := tr
  have hsz3 : 3 < ts.size := (Array.getElem?_eq_some_iff.mp h3).1
  have other : ∀ b, b ≠ T → (s.heap.update T (Obj.mapFields (·.setIfInBounds 3 (f.elim Value.none fun f => rawInt f)))).get? b = s.heap.get? b :=
    fun b hb => Heap.get?_update_other _ _ (Ne.symm hb)
  have noRecord : ∀ b o, s.heap.get? b = some o → (∀ vs, o.data ≠ .fields vs) → b ≠ T := fun b o hb hnf q => by
    rw [q, hT] at hb; injection hb with hb; subst hb; exact hnf ts hdT
  have us : s.heap.UpToSlots (s.heap.update T (Obj.mapFields (·.setIfInBounds 3 (f.elim Value.none fun f => rawInt f)))) := fun b o hb hn => ⟨o.slots, (other b (noRecord b o hb hn)).trans hb⟩
  unfold setFlight
  refine wpAny_bind (wpAny_field he hd h1 ?_)
  rw [if_pos (show (Value.ref T != Value.none) = true from by simp)]
  refine wpAny_setField hT hdT hsz3 (hQ _ ⟨ext_after ext fr (fun b o hbo => (other b ?_).trans (bas_stays ext b o hbo)) us, frOk_after fr us, ne, ok, t, u, nt, tup.of_slots us, ?_⟩)
  · rintro rfl
    rw [fresh_bas hnT] at hbo; cases hbo
  · exact ⟨oe, vs, T, _, _, (other e (Ne.symm hTe)).trans he, hcls, hd, h1, hnT, hTe, Heap.get?_update_self _ hT (Obj.isFreed_of_fields (Obj.data_mapFields hdT _)), Obj.data_mapFields hdT _, by simp [hsz3]⟩

/-- what a raising statement leaves -/
def Ef (A : Around) (L : Addr) (s₀ : Shared) (x : Addr) (msg : Str) : Value → Shared → Prop :=
  fun ev s' => ∃ e k, ev = .ref e ∧ Same s₀ s' ∧ Fl A s₀.heap x msg e s'.heap k ∧ (k = none ∨ k = some .none ∨ k = some (rawInt L))
theorem Ef.pass {C : Cx} {s₀ : Shared} (hfr : A.frames = some (env :: outer)) (hf : env.frame = some L) {ev : Value} {s' : Shared} (h : Ef A L s₀ x msg ev s') : inLoop C A env (Ef A L s₀ x msg) ev s' := by
  obtain ⟨e, k, rfl, sm, F, hk⟩ := h
  refine F.note hfr hf hk fun h₁ F₁ => ?_
  obtain ⟨_, _, _, _, t, u, nt, tup, oe, vs, T, oT, ts, he, hcls, hd, h1, _⟩ := id F₁
  show wpAny _ _ _ _ _ _
  refine wpAny_bind (wpAny_field (s := { s' with heap := h₁ }) he hd h1 ?_)
  rw [if_neg (by simp)]
  rw [hf]
  exact F₁.flight (s := { s' with heap := h₁ }) (some L) fun h₂ F₂ => ⟨e, _, rfl, sm.trans ⟨h₂, _, rfl⟩, F₂, .inr (.inr rfl)⟩
end
end

section
set_option autoImplicit false
set_option linter.unusedVariables false
open PySem PyProof.Rows PySem.W

section
variable {C : Cx} {A : Around} {env : Env} {Γ Γ₁ Γ₂ : Tab} {e e₁ e₂ : Expr} {μ μ₁ μ₂ : Bool} {d : PyData} {s₀ : Shared} {Z₀ : Addr → Prop} {E : Value → Shared → Prop} {Post : Out → Prop} {x L : Addr} {msg : Str}

/-- raise X(text) -/
theorem xs_raise {k : Nat} {X : Str} {a : Expr} {np cpos pos : Pos} (hA : OkA A k) (hX : isGlob env X = true) (hm : C.mg X = some (.ref x)) (hx : ExcAtK C.K x) (ha : Ev C A env Γ a true (.str msg)) (hn : notStar a = true)
    (hE : ∀ ev s', Ef A L s₀ x msg ev s' → E ev s') : Xs C A env s₀ Z₀ E Γ (.Raise (some (.Call (.Name X np) [a] [] cpos)) none pos) Post := fun H V s ⟨ss, Z, m, S⟩ => by
  obtain ⟨nm, q, N, bs, hdct, sn, sub, ab, col, dd, k0, k1, k2, k3, k5, mN, hC, hN, hni, _⟩ := hx s.heap S.i.base.k
  refine wpAny_Raise_call_subT (C := x) (nm := nm) (q := q) (N := N) (bs := bs) (bm := bmE) (hdct := hdct) (sn := sn) (sub := sub) (ab := ab) (col := col) (dd := dd) (k0 := k0) (k1 := k1) (k2 := k2) (k3 := k3) (k5 := k5)
    F.excBase_Exception (mN := mN) (by decide) hA.hd (by rw [starEach_cons hn]; rfl) hni (loadGlob S.i hX hm ⟨rfl, ?_⟩)
  refine Evs.args (μ := true) (ds := [.str msg]) (evs_cons ha evs_nil hn) hn S.i fun vs s₂ kp I₂ r => ⟨rfl, ?_, ?_, kp.ext.ns hN, .base, fun h' e hx => ?_⟩
  · rw [show (Args.pos ⟨vs, []⟩) = vs from rfl, r.length]; show 1 ≤ sizeLine; decide
  · exact kp.ext.at hC (by show Value.type "type" ≠ _; decide)
  · cases r with
    | cons r₁ r₂ =>
      cases r₂
      cases r₁ with
      | str _ u hs =>
        refine hE _ _ ⟨e, none, rfl, ss.trans (kp.toSame.trans ⟨h', _, rfl⟩), ⟨(S.keep.trans kp.ext).trans (.of hx.keeps), (S.i.fr.keep kp.ext).keep (A' := A) (.of hx.keeps), ?_, hs, ?_⟩, .inl rfl⟩
        · cases q : s₀.heap.get? e with
          | none => rfl
          | some o => obtain ⟨o', q', _⟩ := (S.keep.trans kp.ext).stays q; rw [hx.new] at q'; cases q'
        · obtain ⟨t, he, htn, ht⟩ := hx.there
          refine ⟨t, u, ?_, ⟨_, _, ht, rfl, rfl⟩, _, _, he, rfl, rfl, rfl, rfl⟩
          cases q : s₀.heap.get? t with
          | none => rfl
          | some o => obtain ⟨o', q', _⟩ := (S.keep.trans kp.ext).stays q; rw [htn] at q'; cases q'

/-- the def raises for these data -/
def FnRz (C : Cx) (k : Nat) (f : Addr) (ds : List PyData) (x : Addr) (msg : Str) : Prop :=
  ∀ A E s Z vs, OkA A k → FrOk A s.heap → Base C s.heap → Zok C Z s.heap → Rds C.prog C.w Z s.heap vs ds →
    (∀ e s', Same s s' → Fl A s.heap x msg e s'.heap (some .none) → E (.ref e) s') → wpAny C.M A (call (.ref f) vs []) (fun _ _ => False) E s

theorem FrOk.undeeper {h : Heap} (x : FrOk (A.deeper env) h) : FrOk A h := by
  obtain ⟨l, hl, hx⟩ := x
  have hl' : A.frames.map (env :: ·) = some l := hl
  cases hA : A.frames with
  | none => rw [hA] at hl'; cases hl'
  | some l₀ =>
    rw [hA] at hl'; cases hl'
    exact ⟨l₀, hA, fun e he => hx e (List.mem_cons_of_mem _ he)⟩

theorem fnRz_intro {k : Nat} {f : Addr} {fd : FuncData} {ps : List Str} {body : List Stmt} {ds : List PyData} (D : FnDef C f fd ps body) (hlen : ds.length = ps.length)
    (hb : ∀ A L s₀ Z₀, OkA A k → (∀ x, Owned (callEnvC fd L f) s₀.heap x) → (∃ outer, A.frames = some (callEnvC fd L f :: outer)) → Ex C A (callEnvC fd L f) s₀ Z₀ (Ef A L s₀ x msg) (ps.zip (ds.map .fz)) body (fun _ => False)) : FnRz C (k + 1) f ds x msg := fun A E s Z vs hA hfr B hz r hE => by
  refine wpAny_call (fn_run D hlen hA hfr B hz r fun s₁ hO S => ?_)
  have hf : ∃ outer, (A.deeper (callEnvC fd s.heap.objs.size f)).frames = some (callEnvC fd s.heap.objs.size f :: outer) := by
    obtain ⟨l, hl, _⟩ := hfr
    exact ⟨l, by show A.frames.map _ = _; rw [hl]; rfl⟩
  refine wpAny_mono (hb (A.deeper (callEnvC fd s.heap.objs.size f)) s.heap.objs.size s Z (hA.deeper _) hO hf [] [] s₁ S) (fun fl s' ⟨_, _, hp, _⟩ => hp.elim) fun ev s' h => ?_
  obtain ⟨e, k, rfl, sm, F, hk⟩ := h
  obtain ⟨outer, hfr'⟩ := hf
  unfold leaving
  refine wpAny_bind (F.note hfr' rfl hk fun h₁ F₁ => F₁.flight (s := { s' with heap := h₁ }) none fun h₂ F₂ => ?_)
  refine hE e _ (sm.trans ⟨h₂, _, rfl⟩) ⟨F₂.ext.undeeper fun L hL => by cases hL; exact Heap.get?_none_of_le (Nat.le_refl _), F₂.fr.undeeper, F₂.ne, F₂.ok, F₂.tr⟩

/-- a call that raises -/
theorem call_rz {k : Nat} {X : Str} {f : Addr} {o : Obj} {fd : FuncData} {a : Expr} {es : List Expr} {ds : List PyData} {p pos : Pos} {s : Shared} {m : Str → Option Value} {Z : Addr → Prop} {Q : Value → Shared → Prop} (hA : OkA A k) (hx : isGlob env X = true) (hm : C.mg X = some (.ref f)) (ho : C.K.lookup f = some o) (hf : o.data = .func fd)
    (ha : Evs C A env Γ (a :: es) μ ds) (hn : notStar a = true) (hfn : FnRz C k f ds x msg) (I : In C A env Z₀ Z Γ m s.heap)
    (hE : ∀ e s₂ s', Kp A s s₂ → Same s₂ s' → Fl A s₂.heap x msg e s'.heap (some .none) → E (.ref e) s') : wpAny C.M A (eval (.Call (.Name X p) (a :: es) [] pos) env) Q E s :=
  Call_Name rfl (loadGlob I hx hm (Calls.callWith_function (ha.args hn I fun vs s' kp I' r => ⟨⟨I'.base.k _ _ ho, hf⟩, by
    rw [List.nil_append]
    exact wpAny_mono (hfn A E s' (sel μ Z) vs hA I'.fr I'.base (I'.zsel μ) r fun e s'' sm F => hE e s' s'' kp sm F) (fun v s'' q => q.elim) fun _ _ x => x⟩)))

theorem In.mark {h : Heap} {m : Str → Option Value} {Z : Addr → Prop} (hv : Option Value) (I : In C A env Z₀ Z Γ m h) : In C (A.mark hv) env Z₀ Z Γ m h := ⟨I.fn, I.vars, I.ents, I.base, I.z, I.fr, I.zc, I.cd⟩
theorem Ext.mark {h h' : Heap} (hv : Option Value) (x : Ext A h h') : Ext (A.mark hv) h h' := x
theorem Ext.unmark {h h' : Heap} (hv : Option Value) (x : Ext (A.mark hv) h h') : Ext A h h' := x
theorem StW.mark {h₀ h : Heap} {m : Str → Option Value} {Z : Addr → Prop} {H : List (Addr × Obj)} {V : List (Value × PyData)} (hv : Option Value) (S : StW C A env h₀ Z₀ H V Γ h Z m) : StW C (A.mark hv) env h₀ Z₀ H V Γ h Z m :=
  ⟨S.i.mark hv, S.b0, S.keep, S.z0, S.zl, S.nl, S.zc, S.cd, S.hs, S.vs, S.ow⟩
theorem StW.unmark {h₀ h : Heap} {m : Str → Option Value} {Z : Addr → Prop} {H : List (Addr × Obj)} {V : List (Value × PyData)} (hv : Option Value) (S : StW C (A.mark hv) env h₀ Z₀ H V Γ h Z m) : StW C A env h₀ Z₀ H V Γ h Z m :=
  ⟨⟨S.i.fn, S.i.vars, S.i.ents, S.i.base, S.i.z, S.i.fr, S.i.zc, S.i.cd⟩, S.b0, S.keep, S.z0, S.zl, S.nl, S.zc, S.cd, S.hs, S.vs, S.ow⟩
theorem StW.addH {h₀ h : Heap} {m : Str → Option Value} {Z : Addr → Prop} {H H' : List (Addr × Obj)} {V : List (Value × PyData)} (S : StW C A env h₀ Z₀ H V Γ h Z m) (hh : ∀ p ∈ H', h.get? p.1 = some p.2 ∧ ¬ Z p.1 ∧ p.2.cls ≠ .type "frame") : StW C A env h₀ Z₀ (H' ++ H) V Γ h Z m :=
  { S with hs := fun p hp => (List.mem_append.mp hp).elim (hh p) (S.hs p) }

/-- the held exception -/
def IsE (H : List (Addr × Obj)) (x : Addr) (msg : Str) (e : Addr) : Prop :=
  ∃ t oe ot vs u k, (e, oe) ∈ H ∧ (t, ot) ∈ H ∧ oe.cls = .ref x ∧ oe.data = .fields vs ∧ vs[0]? = some (.ref t) ∧ ot.cls = .type "tuple" ∧ ot.data = .seq #[.str msg u] k ∧ PyData.strOk msg = true

/-- the suite of `except X as n` -/
def Su (C : Cx) (A : Around) (env : Env) (n : Str) (x : Addr) (msg : Str) (Γ : Tab) (ss : List Stmt) (Γ' : Tab) : Prop :=
  ∀ E h₀ Z₀ H V Z m s e, StW C A env h₀ Z₀ H V Γ s.heap Z m → (∀ x c, env.cells.lookup x = some c → h₀.get? c = none) → m n = some (.ref e) → IsE H x msg e →
    wpAny C.M A (execs ss env) (fun fl s' => fl = .next ∧ Same s s' ∧ ∃ m', StW C A env h₀ Z₀ H V Γ' s'.heap Z m') E s
theorem su_nil {n : Str} : Su C A env n x msg Γ [] Γ := fun E h₀ Z₀ H V Z m s e S oc hn he => wpAny_execs_nil ⟨rfl, Same.refl s, m, S⟩
theorem su_assign {n y : Str} {rest : List Stmt} {Γ' : Tab} {p pos : Pos} (h : Ev C A env Γ e true d) (hy : isLoc env y = true) (hs : swapsWith e (some (.Name y p)) pos.line env = pure false) (hne : n ≠ y) (hr : Su C A env n x msg ((y, .fz d) :: Γ) rest Γ') :
    Su C A env n x msg Γ (.Assign [.Name y p] e pos :: rest) Γ' := fun E h₀ Z₀ H V Z m s e S oc hn he =>
  wpAny_execs_cons (wpAny_Assign_Name (h.go S.i fun v s' k I' r => (S.ext k.ext).storeFz hy (oc y) r fun h' tk S' =>
    wpAny_mono (hr E h₀ Z₀ H V Z _ { s' with heap := h', toks := tk } e S' oc (by simp [upd, hne, hn]) he) (fun fl s'' ⟨hf, sm, r⟩ => ⟨hf, (k.toSame.trans ⟨h', tk, rfl⟩).trans sm, r⟩) fun _ _ x => x) hs)
theorem su_str {k : Nat} {n y f : Str} {rest : List Stmt} {Γ' : Tab} {p pos q r cp : Pos} (hu : A.units + 200 < cLine) (hx : ExcAtK C.K x) (hb : Blt C env f (.type "str")) (hv : isVar env n = true) (hy : isLoc env y = true) (hs : swapsWith (.Call (.Name f q) [.Name n r] [] cp) (some (.Name y p)) pos.line env = pure false) (hne : n ≠ y)
    (hr : Su C A env n x msg ((y, .fz (.str msg)) :: Γ) rest Γ') :
    Su C A env n x msg Γ (.Assign [.Name y p] (.Call (.Name f q) [.Name n r] [] cp) pos :: rest) Γ' := fun E h₀ Z₀ H V Z m s e S oc hn he => by
  obtain ⟨h1, h2, h3⟩ := isVar_spec hv
  obtain ⟨t, oe, ot, vs, u, kk, hE, hT, hc, hd, h0, htc, htd, hok⟩ := id he
  have gE := (S.hs _ hE).1
  have gT := (S.hs _ hT).1
  obtain ⟨nm, q', N, bs, hdct, sn, sub, ab, col, dd, k0, k1, k2, k3, k5, mN, hC, hN, hni, hstr⟩ := hx s.heap S.i.base.k
  refine wpAny_execs_cons (wpAny_Assign_Name ?_ hs)
  refine Call_Name rfl (loadBlt S.i hb.g hb.m hb.b (PyProof.Rows.callWith_type (starEach_any (by rfl)) ?_))
  refine Calls.evalArgs_plain (Calls.spliced_cons (loadVar S.i h1 hn (Calls.spliced_nil ?_) h2 h3))
  obtain ⟨hp, g, dr, tk, os⟩ := s
  refine str_of_own (by omega) hC hN hstr gE hc hd h0 ⟨ot, kk, gT, htc, htd⟩ ?_
  exact S.storeFz hy (oc y) (.str msg u hok) fun h' tk' S' => wpAny_mono (hr E h₀ Z₀ H V Z _ ⟨h', g, dr, tk', os⟩ e S' oc (by simp [upd, hne, hn]) he) (fun fl s'' ⟨hf, sm, r⟩ => ⟨hf, Same.trans ⟨h', tk', rfl⟩ sm, r⟩) fun _ _ x => x
end
end

section
set_option autoImplicit false
set_option linter.unusedVariables false
open PySem PyProof.Rows PySem.W

section
variable {C : Cx} {A : Around} {env : Env} {Γ Γ₁ Γ₂ : Tab} {e e₁ e₂ : Expr} {μ μ₁ μ₂ : Bool} {d : PyData} {s₀ : Shared} {Z₀ : Addr → Prop} {E : Value → Shared → Prop} {Post : Out → Prop} {x L : Addr} {msg : Str}

def dropT (n : Str) (Γ : Tab) : Tab := Γ.filter fun p => !(p.1 == n)
theorem dropT_eq {n : Str} : ∀ {Γ : Tab}, (dropT n Γ).lookup n = none
  | [] => rfl
  | (k, v) :: r => by
    unfold dropT
    rw [List.filter_cons]
    by_cases h : k = n
    · have : (k == n) = true := by simpa using h
      simp only [this, Bool.not_true]
      exact dropT_eq (Γ := r)
    · have : (k == n) = false := by simpa using h
      have h' : (n == k) = false := by simpa using fun q : n = k => h q.symm
      simp only [this, Bool.not_false, if_true, List.lookup_cons, h']
      exact dropT_eq (Γ := r)
theorem dropT_ne {n y : Str} (hy : y ≠ n) : ∀ {Γ : Tab}, (dropT n Γ).lookup y = Γ.lookup y
  | [] => rfl
  | (k, v) :: r => by
    unfold dropT
    rw [List.filter_cons]
    by_cases h : k = n
    · have : (k == n) = true := by simpa using h
      have h' : (y == k) = false := by subst h; simpa using hy
      simp only [this, Bool.not_true, List.lookup_cons, h']
      exact dropT_ne hy (Γ := r)
    · have : (k == n) = false := by simpa using h
      simp only [this, Bool.not_false, if_true, List.lookup_cons]
      cases y == k with
      | true => rfl
      | false => exact dropT_ne hy (Γ := r)

/-- a name is gone -/
theorem StW.gone {h₀ h h' : Heap} {m : Str → Option Value} {Z : Addr → Prop} {H : List (Addr × Obj)} {V : List (Value × PyData)} {n : Str} {u : Option Value} {ml : Str → Option Value} (S : StW C A env h₀ Z₀ H V Γ h Z m) (hk : env.kindOf n = some .local) (hc : env.cells.lookup n = none)
    (hm : ∀ y, env.kindOf y = some .local → ml y = m y) (hn : h.Ns env.locals ml) (hn' : h'.Ns env.locals (fun y => if y = n then u else ml y)) (sb : Heap.SameBut env.locals h h') (hcls : ∀ o, h.get? env.locals = some o → ∃ o', h'.get? env.locals = some o' ∧ o'.cls = o.cls) :
    StW C A env h₀ Z₀ H V (dropT n Γ) h' Z (fun y => if y = n then u else m y) := by
  obtain ⟨oL, esL, epL, hoL, hdL, _⟩ := id hn
  obtain ⟨oL', esL', epL', hoL', hdL', _⟩ := id hn'
  have n0 : ¬ Z₀ env.locals := fun q => by obtain ⟨_, o, e⟩ := S.z0 _ q; rw [S.nl] at e; cases e
  have kz : ∀ b o, ¬ Z b → h.get? b = some o → h'.get? b = some o := fun b o nz e => (sb.2 b (by rintro rfl; exact nz S.zl)).trans e
  have keep' : Ext A h₀ h' := S.keep.mutOf S.nl fun b o hb e => (sb.2 b hb).trans e
  have fr' : FrOk A h' := S.i.fr.mut (fun b o hb e => (sb.2 b hb).trans e) fun o₂ es₂ ep₂ e2 _ => by obtain ⟨o₃, q1, q2⟩ := hcls o₂ e2; rw [hoL'] at q1; cases q1; exact ⟨oL', hoL', q2, esL', epL', hdL'⟩
  have hlk : ∀ y en, (dropT n Γ).lookup y = some en → y ≠ n ∧ Γ.lookup y = some en := fun y en l => by
    by_cases hy : y = n
    · subst hy; rw [dropT_eq] at l; cases l
    · exact ⟨hy, by rwa [dropT_ne hy] at l⟩
  refine ⟨⟨S.i.fn, ⟨⟨_, hn', fun y hy => ?_⟩, fun y c hyc => ?_, fun v q => S.i.vars.hid v (by have hx' : n ≠ ".acc" := (by rintro rfl; rw [S.i.fn.acc] at hk; cases hk); simpa [Ne.symm hx'] using q)⟩, fun y en l => ?_, S.b0.keep keep', ⟨fun b z => ?_, S.i.z.k⟩, fr', S.i.zc, S.i.cd⟩, S.b0, keep', S.z0, S.zl, S.nl, S.zc, S.cd, fun p hp => ?_, fun p hp => (S.vs p hp).keepZ kz, fun y ds b l eb => ?_⟩
  · by_cases hyn : y = n <;> simp [hyn, hm y hy]
  · have hyn : y ≠ n := by rintro rfl; rw [hc] at hyc; cases hyc
    simp only [if_neg hyn]
    refine (S.i.vars.cel y c hyc).sameBut sb ?_
    rintro rfl
    obtain ⟨o', ho', hd'⟩ := S.i.vars.cel y _ hyc
    rw [hoL] at ho'; cases ho'; rw [hdL] at hd'; cases hd'
  · obtain ⟨hyn, l⟩ := hlk y en l
    simp only [if_neg hyn]
    refine entOk_mut S.zl n0 sb (fun ds b e1 e2 e3 => ?_) (S.i.ents y en l)
    subst e1 e3
    have := S.i.ents y _ l
    rw [e2] at this
    obtain ⟨b, vs, k, e1, e2, _⟩ := this
    cases e1; rw [hoL] at e2; cases e2; cases hdL
  · by_cases hb : b = env.locals
    · subst hb; exact ⟨_, hoL'⟩
    · obtain ⟨o, e⟩ := S.i.z.st b z
      exact ⟨o, (sb.2 b hb).trans e⟩
  · obtain ⟨e, d⟩ := S.hs p hp
    exact ⟨(sb.2 p.1 fun (q : p.1 = env.locals) => d.1 (by rw [q]; exact S.zl)).trans e, d⟩
  · obtain ⟨hyn, l⟩ := hlk y _ l
    simp only [if_neg hyn] at eb
    obtain ⟨q1, q2⟩ := S.ow y ds b l eb
    refine ⟨q1, fun y' es l' e' => ?_⟩
    obtain ⟨hyn', l'⟩ := hlk y' _ l'
    simp only [if_neg hyn'] at e'
    exact q2 y' es l' e'

/-- a try whose body does not raise -/
theorem xs_try_ok {body : List Stmt} {hd : ExceptHandler} {hs : List ExceptHandler} {pos : Pos} (h : ∀ E', Ex C A env s₀ Z₀ E' Γ body Post) : Xs C A env s₀ Z₀ E Γ (.Try body (hd :: hs) [] [] pos) Post := fun H V s S =>
  wpAny_Try_except (wpAny_mono (h _ H V s S) (fun fl s' q => by
    cases fl with
    | next => exact wpAny_execs_nil q
    | _ => exact q) fun _ _ x => x)

/-- a try whose one statement calls a def that raises -/
theorem xs_try_rz {k : Nat} {X F n g : Str} {f : Addr} {o : Obj} {fd : FuncData} {a : Expr} {es : List Expr} {ds : List PyData} {p p' pos tpos hpos np gp : Pos} {b₀ : Stmt} {suite : List Stmt} {hs : List ExceptHandler} (hA : OkA A k)
    (hfr : ∃ outer, A.frames = some (env :: outer)) (hL : env.frame = some L) (hx : isGlob env F = true) (hm : C.mg F = some (.ref f)) (ho : C.K.lookup f = some o) (hf : o.data = .func fd)
    (ha : Evs C A env Γ (a :: es) μ ds) (hn : notStar a = true) (hfn : FnRz C k f ds x msg)
    (hsw : swapsWith (.Call (.Name F p) (a :: es) [] p') (some (.Name g gp)) pos.line env = pure false)
    (hX : isGlob env X = true) (hmX : C.mg X = some (.ref x)) (hxc : ExcAtK C.K x) (hnl : isLoc env n = true) (hO : ∀ y, Owned env s₀.heap y) (hkn : env.kindOf n = some .local)
    (hsu : ∀ A', A'.units = A.units → Su C A' env n x msg ((n, .any) :: Γ) (b₀ :: suite) Γ₁) (hp : Post (.next (dropT n Γ₁))) :
    Xs C A env s₀ Z₀ E Γ (.Try [.Assign [.Name g gp] (.Call (.Name F p) (a :: es) [] p') pos] (.ExceptHandler (some (.Name X np)) (some n) (b₀ :: suite) hpos :: hs) [] [] tpos) Post := fun H V s ⟨ss, Z, m, S⟩ => by
  obtain ⟨outer, hfr⟩ := hfr
  have hcn : env.cells.lookup n = none := by
    unfold isLoc at hnl
    rw [hkn] at hnl
    simpa using hnl
  refine wpAny_Try_except (wpAny_execs_cons (wpAny_Assign_Name (call_rz hA hx hm ho hf ha hn hfn S.i fun e s₂ s' kp sm F₀ => ?_) hsw))
  have S₂ := S.ext kp.ext
  refine F₀.note hfr hL (.inr (.inl rfl)) fun h₁ F₁ => ?_
  refine F₁.flight (s := { s' with heap := h₁ }) none fun h₂ F₂ => ?_
  have I₂ := (S₂.i.keep F₂.ext).mark (some (.ref e))
  obtain ⟨nm, q', N, bs, hdct, sn, sub, ab, col, dd, k0, k1, k2, k3, k5, mN, hC, hN, hni, hstr⟩ := hxc h₂ I₂.base.k
  obtain ⟨t, u, nt, tup, oe, vs, T, oT, ts, he, ⟨hcls, h0⟩, hd, h1, _⟩ := F₂.tr
  refine wpAny_handleBy_cons (codeAny_handlers_test (loadGlob (s := { s' with heap := h₂ }) I₂ hX hmX ?_)) (by intro q; cases q)
  refine wpAny_excMatches_sub_self hC he hcls (by decide) (codeAny_handlers_suite_as ?_)
  have F₂' : Fl (A.mark (some (.ref e))) s₂.heap x msg e h₂ (some .none) := ⟨F₂.ext, F₂.fr, F₂.ne, F₂.ok, F₂.tr⟩
  refine F₂'.flight (s := { s' with heap := h₂ }) none fun h₃ F₃ => ?_
  obtain ⟨t, u, nt, tup, oe, vs, T, oT, ts, he, ⟨hcls, h0⟩, hd, h1, _⟩ := F₃.tr
  obtain ⟨ot, kt, hot, hotc, hotd⟩ := tup
  have S₃ : StW C (A.mark (some (.ref e))) env s₀.heap Z₀ ([(e, oe), (t, ot)] ++ H) V Γ h₃ Z m := by
    refine ((S₂.mark (some (.ref e))).ext F₃.ext).addH fun p hp => ?_
    have nz : ∀ b, s₂.heap.get? b = none → ¬ Z b := fun b q z => by obtain ⟨o, q'⟩ := S₂.i.z.st b z; rw [q] at q'; cases q'
    rcases List.mem_cons.mp hp with rfl | hp
    · exact ⟨he, nz _ F₃.ne, by show oe.cls ≠ _; rw [hcls]; intro q; cases q⟩
    · cases List.mem_singleton.mp hp
      exact ⟨hot, nz _ nt, by show ot.cls ≠ _; rw [hotc]; decide⟩
  refine S₃.store (s := { s' with heap := h₃ }) (en := .any) hnl (hO n) (fun h' hk => trivial) (fun ds q => by cases q) fun h₄ tk₄ S₄ => ?_
  refine wpAny_mono (hsu (A.mark (some (.ref e))) rfl _ s₀.heap Z₀ _ V Z _ { s' with heap := h₄, toks := tk₄ } e S₄ hO (by simp [upd]) ⟨t, oe, ot, vs, u, kt, by simp, by simp, hcls, hd, h0, hotc, hotd, F₃.ok⟩) (fun fl s₅ ⟨hfl, sm₅, m₅, S₅⟩ => ?_) fun _ _ x => x
  subst hfl
  have S₆ := S₅.unmark (some (.ref e))
  have ss₅ : Same s s₅ := kp.toSame.trans (sm.trans (Same.trans ⟨h₄, tk₄, rfl⟩ sm₅))
  refine wpAny_bind (wpAny_bindName (S₆.store (en := .fz .none) hnl (hO n) (fun h' hk => .none) (fun ds q => by cases q) fun h₇ tk₇ S₇ => ?_))
  unfold unbindBehindTheSuite
  refine wpAny_onRaise ?_
  unfold unbindName
  refine wpAny_bind (wpAny_point (wpAny_bind ?_))
  unfold deleteName
  have hpk : (env.scope.kind == .class || (env.scope.kind == .module && env.locals != env.globals)) = false := by rw [S.i.fn.kind]; rfl
  simp only [hkn, hpk]
  rw [if_neg (by decide)]
  obtain ⟨ml, hn₇, hm₇⟩ := S₇.i.vars.loc
  have hml : ml n = some .none := by rw [hm₇ n hkn]; simp [upd]
  refine wpAny_bind (nsDel_cls hn₇ (by rw [hml]; rfl) fun h₈ u hn₈ sb₈ hcls₈ => ?_)
  simp only [Bool.not_true, Bool.false_eq_true, if_false]
  refine wpAny_pure (wpAny_point ?_)
  have S₈ := S₇.gone (n := n) hkn hcn hm₇ hn₇ hn₈ sb₈ hcls₈
  have S₉ := (S₈.dropH (H' := H) fun p hp => List.mem_append_right _ hp).sub (Γ' := dropT n Γ₁) fun y en l => by
    by_cases hy : y = n
    · subst hy; rw [dropT_eq] at l; cases l
    · rw [dropT_ne hy] at l ⊢
      rw [lookup_cons_ne hy]; exact l
  exact ⟨ss₅.trans ⟨h₈, tk₇, rfl⟩, _, hp, ss.trans (ss₅.trans ⟨h₈, tk₇, rfl⟩), Z, _, S₉⟩

/-- a def that returns or raises -/
theorem fn_any {k : Nat} {f : Addr} {fd : FuncData} {ps : List Str} {body : List Stmt} {ds : List PyData} (D : FnDef C f fd ps body) (hlen : ds.length = ps.length) {Ret : PyData → Prop} {Rz : Str → Prop}
    (hb : ∀ A L s₀ Z₀ E, OkA A k → (∀ x, Owned (callEnvC fd L f) s₀.heap x) → (∃ outer, A.frames = some (callEnvC fd L f :: outer)) → (∀ msg, Rz msg → ∀ ev s', Ef A L s₀ x msg ev s' → E ev s') →
      (∀ msg, Rz msg → ∀ ev s', Ef A L s₀ x msg ev s' → inLoop C A (callEnvC fd L f) E ev s') → Ex C A (callEnvC fd L f) s₀ Z₀ E (ps.zip (ds.map .fz)) body (fun o => ∃ d, Ret d ∧ o = .ret d)) :
    (∀ d, (∀ d', Ret d' → d' = d) → (∀ msg, ¬ Rz msg) → FnOk C (k + 1) f ds d) ∧ (∀ msg, (∀ d, ¬ Ret d) → (∀ msg', Rz msg' → msg' = msg) → FnRz C (k + 1) f ds x msg) := by
  refine ⟨fun d h1 h2 => fn_intro D hlen fun A L s₀ Z₀ E hA hO hF => ?_, fun msg h1 h2 => fnRz_intro D hlen fun A L s₀ Z₀ hA hO hF => ?_⟩
  · exact (hb A L s₀ Z₀ E hA hO hF (fun m q => (h2 m q).elim) (fun m q => (h2 m q).elim)).mono fun o ⟨d', q, e⟩ => by rw [e, h1 d' q]
  · obtain ⟨outer, hF'⟩ := hF
    exact (hb A L s₀ Z₀ _ hA hO ⟨outer, hF'⟩ (fun m q ev s' r => by rw [h2 m q] at r; exact r) (fun m q ev s' r => by rw [h2 m q] at r; exact Ef.pass hF' rfl r)).mono fun o ⟨d', q, e⟩ => (h1 d' q).elim
end
end

section
set_option autoImplicit false
set_option linter.unusedVariables false
open PySem PyProof.Rows PySem.W

section
variable {C : Cx} {A : Around} {env : Env} {Γ Γ₁ Γ₂ : Tab} {e e₁ e₂ : Expr} {μ μ₁ μ₂ : Bool} {d d₁ d₂ : PyData} {s₀ : Shared} {Z₀ : Addr → Prop} {E : Value → Shared → Prop} {Post : Out → Prop} {x L : Addr} {msg : Str}

def isNoneD : PyData → Bool
  | .none => true
  | _ => false
/-- `is` among None, True, False -/
def isD (op : CmpOp) (d₁ d₂ : PyData) : Option Bool :=
  match op, d₁, d₂ with
  | .Is, .bool a, .bool b => some (a == b)
  | .IsNot, .bool a, .bool b => some (!(a == b))
  | .Is, d, .none => some (isNoneD d)
  | .IsNot, d, .none => some (!isNoneD d)
  | _, _, _ => none
theorem beq_vbool (a b : Bool) : (Value.bool a == Value.bool b) = (a == b) := by cases a <;> cases b <;> rfl
theorem is_op {op : CmpOp} {s : Shared} {v₁ v₂ : Value} {Z₁ Z₂ : Addr → Prop} {Q : Value → Shared → Prop} {b : Bool} (r₁ : Rd C.prog C.w Z₁ s.heap v₁ d₁) (r₂ : Rd C.prog C.w Z₂ s.heap v₂ d₂)
    (hd : isD op d₁ d₂ = some b) (k : Q (.bool b) s) : wpAny C.M A (compareOp op v₁ v₂) Q E s := by
  unfold isD at hd
  split at hd
  · cases r₁ with | bool a => cases r₂ with | bool b' => cases hd; exact wpAny_is_plain rfl (by rw [beq_vbool]; exact k)
  · cases r₁ with | bool a => cases r₂ with | bool b' => cases hd; exact wpAny_isNot_plain rfl (by rw [beq_vbool]; exact k)
  · cases r₂; cases hd; cases r₁ <;> exact wpAny_is_plain rfl k
  · cases r₂; cases hd; cases r₁ <;> exact wpAny_isNot_plain rfl k
  · cases hd
theorem cd_is {op : CmpOp} {pos : Pos} {b : Bool} (h₁ : Ev C A env Γ e₁ μ₁ d₁) (h₂ : Ev C A env Γ e₂ μ₂ d₂) (hd : isD op d₁ d₂ = some b) (hm : behindInMarks op e₂ = false) : Cd C A env Γ (.Compare e₁ [op] [e₂] pos) b := fun E s m Z₀ Z I =>
  wpAny_isTrue_Compare1 (h₁.go2 h₂ I fun _ _ s' k I' r₁ r₂ => is_op r₁ r₂ hd (wpAny_truthy_bool ⟨k, rfl⟩)) hm
theorem ev_is {op : CmpOp} {pos : Pos} {b : Bool} (h₁ : Ev C A env Γ e₁ μ₁ d₁) (h₂ : Ev C A env Γ e₂ μ₂ d₂) (hd : isD op d₁ d₂ = some b) (hm : behindInMarks op e₂ = false) : Ev C A env Γ (.Compare e₁ [op] [e₂] pos) μ (.bool b) := fun E s m Z₀ Z I =>
  wpAny_Compare1 (h₁.go2 h₂ I fun _ _ s' k I' r₁ r₂ => is_op r₁ r₂ hd ⟨k, .bool b⟩) hm

def tyD : PyData → String
  | .none => "NoneType"
  | .bool _ => "bool"
  | .int _ => "int"
  | .str _ => "str"
  | .list _ => "list"
  | .tuple _ => "tuple"
  | .dict _ => "dict"
theorem Rd.ty {Z : Addr → Prop} {s : Shared} {v : Value} (r : Rd C.prog C.w Z s.heap v d) : s.TypeIs v (tyD d) := by
  cases r with
  | none => exact rfl
  | bool b => exact rfl
  | int i t => exact rfl
  | str x t _ => exact typeIs_str _ _ _
  | list e _ _ => exact ⟨_, e, rfl⟩
  | tuple e _ _ => exact ⟨_, e, rfl⟩
  | dict e _ _ k _ =>
    obtain ⟨es, ep, hx, _⟩ := k
    exact ⟨_, e, hx.1⟩
def isT (op : CmpOp) (S T : String) : Option Bool :=
  match op with
  | .Is => some (Value.type S == Value.type T)
  | .IsNot => some (!(Value.type S == Value.type T))
  | _ => none
/-- type(e) is T -/
theorem cd_type {op : CmpOp} {f t : Str} {T : String} {p q cp pos : Pos} {b : Bool} (hf : Blt C env f (.type "type")) (ht : Blt C env t (.type T)) (h : Ev C A env Γ e μ d) (hn : notStar e = true) (hd : isT op (tyD d) T = some b) :
    Cd C A env Γ (.Compare (.Call (.Name f p) [e] [] cp) [op] [.Name t q] pos) b := fun E s m Z₀ Z I => by
  have hm : behindInMarks op (.Name t q) = false := by cases op <;> rfl
  refine wpAny_isTrue_Compare1 (callTyp hf (by simp [hn]) (evs_cons h evs_nil hn) I fun vs s' kp I' r => ?_) hm
  cases r with
  | cons r₁ r₂ =>
    cases r₂
    refine call_type_of r₁.ty (by cases d <;> rfl) (loadBlt I' ht.g ht.m ht.b ?_)
    cases op <;> cases hd
    · exact wpAny_is_plain rfl (wpAny_truthy_bool ⟨kp, rfl⟩)
    · exact wpAny_isNot_plain rfl (wpAny_truthy_bool ⟨kp, rfl⟩)
end
end

section
set_option autoImplicit false
set_option linter.unusedVariables false
open PySem PyProof.Rows PySem.W

/-- what stands behind a clause's tests -/
def innerK (elt : Expr) (gens : List Comprehension) (scope : Scope) (pos : Pos) (dep : Nat) (it acc : Value) (env : Env) : Sem Fin :=
  match gens[dep + 1]? with
  | some g' => do
    let x ← eval g'.iter env
    standAt g'.iter.pos
    if (g'.is_async != 0) = true then do
      let x ← foldedIterable g'.iter x
      let l ← holding [x] (if (g'.is_async != 0) = true then asyncIter x else pyIter x)
      let _ ← runOwn (.compStart (.ListComp elt gens scope pos) (dep + 1) l acc env) env
      again (.compLoop (.ListComp elt gens scope pos) dep it acc env)
    else do
      let x ← foldedSetIterable g'.iter env x
      let l ← holding [x] (if (g'.is_async != 0) = true then asyncIter x else pyIter x)
      let _ ← runOwn (.compStart (.ListComp elt gens scope pos) (dep + 1) l acc env) env
      again (.compLoop (.ListComp elt gens scope pos) dep it acc env)
  | none => do
    (do let l ← eval elt env; let _ ← call (.builtin "list.append") [acc, l]; pure ())
    again (.compLoop (.ListComp elt gens scope pos) dep it acc env)

abbrev testsOf (ifs : List Expr) (env : Env) (r : Bool) : Sem Bool :=
  forIn ifs r fun c r => if r = true then do let ok ← isTrue c env (eval c env); pure (ForInStep.yield ok) else pure (ForInStep.yield r)

theorem compTurn_eq {elt target iter : Expr} {ifs : List Expr} {gens : List Comprehension} {scope : Scope} {pos : Pos} {dep : Nat} {it acc : Value} {env : Env} (hg : gens[dep]? = some ⟨target, iter, ifs, 0⟩) :
    compTurn (.ListComp elt gens scope pos) dep it acc env = (standAt iter.pos >>= fun _ => pyNext it >>= fun r => match r with
      | none => pure (.done .next)
      | some v => letOwnedTupleGo target it v >>= fun _ => assign target env v >>= fun _ => testsOf ifs env true >>= fun ok =>
        if ok = true then innerK elt gens scope pos dep it acc env else again (.compLoop (.ListComp elt gens scope pos) dep it acc env)) := by
  unfold compTurn innerK
  simp only [hg, bne_self_eq_false, Bool.false_eq_true, if_false]
  rfl

section
variable {C : Cx} {A : Around} {env cenv : Env} {Γ Γ₁ Γ₂ : Tab} {e e₁ e₂ : Expr} {μ μ₁ μ₂ : Bool} {d d₁ d₂ : PyData} {s₀ : Shared} {Z₀ : Addr → Prop} {E : Value → Shared → Prop}

/-- a clause's tests -/
def Cds (C : Cx) (A : Around) (env : Env) (Γ : Tab) : List Expr → Bool → Prop
  | [], b => b = true
  | c :: cs, b => ∃ b₁, Cd C A env Γ c b₁ ∧ (b₁ = true → Cds C A env Γ cs b) ∧ (b₁ = false → b = false)
theorem tests_false {M : Model} : ∀ {ifs : List Expr} {s : Shared} {Q : Bool → Shared → Prop}, Q false s → wpAny M A (testsOf ifs env false) Q E s
  | [], s, Q, h => wpAny_pure h
  | c :: cs, s, Q, h => by
    unfold testsOf
    rw [List.forIn_cons]
    exact wpAny_bind (wpAny_pure (tests_false h))
theorem Cds.go : ∀ {ifs : List Expr} {b : Bool} (h : Cds C A env Γ ifs b) {s : Shared} {m : Str → Option Value} {Z₀ Z : Addr → Prop} (I : In C A env Z₀ Z Γ m s.heap) {Q : Bool → Shared → Prop}
    (k : ∀ s', Kp A s s' → In C A env Z₀ Z Γ m s'.heap → Q b s'), wpAny C.M A (testsOf ifs env true) Q E s
  | [], b, h, s, m, Z₀, Z, I, Q, k => by cases h; exact wpAny_pure (k s (Kp.refl s) I)
  | c :: cs, b, h, s, m, Z₀, Z, I, Q, k => by
    obtain ⟨b₁, h₁, h2, h3⟩ := h
    unfold testsOf
    rw [List.forIn_cons]
    refine wpAny_bind ?_
    rw [if_pos rfl]
    refine wpAny_bind (h₁.go I fun s' kp I' => wpAny_pure ?_)
    cases b₁ with
    | false => cases h3 rfl; exact tests_false (k s' kp I')
    | true => exact Cds.go (h2 rfl) I' fun s'' kp' I'' => k s'' (kp.trans kp') I''

/-- the inner part of a clause appends these -/
def Inn (C : Cx) (A : Around) (cenv : Env) (s₀ : Shared) (Z₀ : Addr → Prop) (elt : Expr) (gens : List Comprehension) (scope : Scope) (pos : Pos) (dep : Nat) (Γ : Tab) (out : List PyData) : Prop :=
  ∀ (E : Value → Shared → Prop) (Q : Fin → Shared → Prop) H V s ds it, Γ.lookup (".acc" : Str) = some (.own ds) → ds.length + out.length ≤ sizeLine → St C A cenv s₀ Z₀ H V Γ s →
    (∀ s', Same s s' → St C A cenv s₀ Z₀ H V ((".acc", .own (ds ++ out)) :: Γ) s' → wpAny C.M A (again (.compLoop (.ListComp elt gens scope pos) dep it (.ref (cenv.locals - 1)) cenv)) Q E s') →
    wpAny C.M A (innerK elt gens scope pos dep it (.ref (cenv.locals - 1)) cenv) Q E s

theorem inn_emit {elt : Expr} {gens : List Comprehension} {scope : Scope} {pos : Pos} {dep : Nat} (hg : gens[dep + 1]? = none) (h : Ev C A cenv Γ elt true d) : Inn C A cenv s₀ Z₀ elt gens scope pos dep Γ [d] := fun E Q H V s ds it l hsz ⟨ss, Z, m, S⟩ k => by
  unfold innerK
  rw [hg]
  refine wpAny_bind (wpAny_bind (h.go S.i fun v s' kp I' r => ?_))
  have he := S.i.ents _ _ l
  cases hv : m ".acc" with
  | none => rw [hv] at he; exact he.elim
  | some u =>
    obtain ⟨a, items, n, e1, e2, e3, q⟩ := (S.ext kp.ext).append (E := E) (s := s') (Q := fun _ s'' => wpAny C.M A (again (.compLoop (.ListComp elt gens scope pos) dep it (.ref (cenv.locals - 1)) cenv)) Q E s'') l hv (by simp only [List.length_cons, List.length_nil] at hsz; omega) r
      fun a h' _ S' => k { s' with heap := h' } (kp.toSame.trans ⟨h', _, rfl⟩) ⟨ss.trans (kp.toSame.trans ⟨h', _, rfl⟩), _, _, S'⟩
    have e4 := S.i.vars.hid u hv
    rw [e1] at e4; cases e4
    refine wpAny_bind (wpAny_call_entry slot_list_append (T := "list") ⟨_, e3, rfl⟩ entry_list_append ?_ (args_list_append _ _))
    show wpAny _ _ (updateSeq (cenv.locals - 1) (·.push v) >>= fun _ => ret .none) _ _ s'
    exact wpAny_bind (wpAny_updateSeq e3 rfl (wpAny_pure ⟨.none, rfl, wpAny_pure q⟩))

theorem flat_succ (outs : Nat → List PyData) (i : Nat) : (List.range (i + 1)).flatMap outs = (List.range i).flatMap outs ++ outs i := by
  rw [List.range_succ, List.flatMap_append]; simp
theorem flat_le (outs : Nat → List PyData) {i n : Nat} (h : i ≤ n) : ((List.range i).flatMap outs).length ≤ ((List.range n).flatMap outs).length := by
  induction n with
  | zero => have : i = 0 := by omega
            subst this; exact Nat.le_refl _
  | succ n ih =>
    rcases Nat.lt_or_ge i (n + 1) with q | q
    · have := ih (by omega)
      rw [flat_succ, List.length_append]; omega
    · have : i = n + 1 := by omega
      subst this; exact Nat.le_refl _

theorem comp_loop {elt target iter : Expr} {ifs : List Expr} {gens : List Comprehension} {scope : Scope} {pos : Pos} {dep n : Nat} {dat : Nat → PyData} {I : Addr} {X : List (Addr × Obj)} {V' : List (Value × PyData)} {O : Nat → Obj → Prop} {o : Obj} {R : Result → Shared → Prop}
    {H : List (Addr × Obj)} {V : List (Value × PyData)} {s : Shared} {ds₀ : List PyData} (hg : gens[dep]? = some ⟨target, iter, ifs, 0⟩) (W : Wk C A I X V' n dat O) (hO : O 0 o) (outs : Nat → List PyData) (Γc : Tab) (nI : s₀.heap.get? I = none) (hXI : ∀ p ∈ X ++ H, p.1 ≠ I)
    (hsz : ds₀.length + ((List.range n).flatMap outs).length ≤ sizeLine)
    (turn : ∀ i ds E, i < n → ∃ Γ'' b, As C A cenv s₀ Z₀ E ((".acc", .own ds) :: Γc) target (dat i) Γ'' ∧ Γ''.lookup (".acc" : Str) = some (.own ds) ∧ (∀ (x : Str) e, x ≠ ".acc" → Γc.lookup x = some e → Γ''.lookup x = some e) ∧ Cds C A cenv Γ'' ifs b ∧
      (b = false → outs i = []) ∧ (b = true → Inn C A cenv s₀ Z₀ elt gens scope pos dep Γ'' (outs i)))
    (S : St C A cenv s₀ Z₀ ((I, o) :: (X ++ H)) (V' ++ V) ((".acc", .own ds₀) :: Γc) s)
    (fin : ∀ s', Same s s' → St C A cenv s₀ Z₀ H V ((".acc", .own (ds₀ ++ (List.range n).flatMap outs)) :: Γc) s' → R (.ok .next) s') :
    codeAny C.M A (.compLoop (.ListComp elt gens scope pos) dep (.ref I) (.ref (cenv.locals - 1)) cenv) R s := by
  refine codeAny_loop rfl (fun kk s' => ∃ i o, i + kk = n ∧ Same s s' ∧ O i o ∧ St C A cenv s₀ Z₀ ((I, o) :: (X ++ H)) (V' ++ V) ((".acc", .own (ds₀ ++ (List.range i).flatMap outs)) :: Γc) s') ?_ n ⟨0, o, by omega, Same.refl s, hO, by simpa using S⟩
  rintro kk s' ⟨i, o, hik, sm, hO, ss', Z', m', S'⟩
  show wpAny _ A ((compTurn (.ListComp elt gens scope pos) dep (.ref I) (.ref (cenv.locals - 1)) cenv).onRaise (fun x => do noteFrame x cenv; theTreesLotGoes x)) _ _ s'
  refine wpAny_noted ?_
  rw [compTurn_eq hg]
  refine wpAny_bind (wpAny_standAt (wpAny_bind ?_))
  have hIo := (S'.hs _ List.mem_cons_self).1
  have hXs : ∀ p ∈ X, s'.heap.get? p.1 = some p.2 := fun p hp => (S'.hs p (List.mem_cons_of_mem _ (List.mem_append_left _ hp))).1
  by_cases hi : i < n
  · refine W.item i s' o _ _ hi hIo hO hXs fun v h' tk o' hv hO' ho' eb => ?_
    have S'' := S'.iter nI (W.fld i o hO) hXI eb ho' (W.clsF _ _ hO')
    have hcls := W.cls _ _ hO'
    refine wpAny_bind (letOwned (s := { s' with heap := h', toks := tk }) ho' hcls ?_)
    obtain ⟨Γ'', b, as, hacc, hsub, hc, hf, ht⟩ := turn i (ds₀ ++ (List.range i).flatMap outs) _ hi
    have rv := hv Z' h' fun p hp => S''.vs p (List.mem_append_left _ hp)
    refine wpAny_bind (wpAny_mono (as ((I, o') :: (X ++ H)) (V' ++ V) { s' with heap := h', toks := tk } v ⟨ss'.trans ⟨h', tk, rfl⟩, Z', m', S''.addV (V' := [(v, dat i)]) fun p hp => by cases List.mem_singleton.mp hp; exact rv⟩) (fun _ s₃ ⟨sm', S₃⟩ => ?_) fun _ _ x => x)
    obtain ⟨ss₃, Z₃, m₃, S₃⟩ := S₃
    refine wpAny_bind (hc.go S₃.i fun s₄ kp₄ I₄ => ?_)
    have S₄ : St C A cenv s₀ Z₀ ((I, o') :: (X ++ H)) (V' ++ V) Γ'' s₄ := ⟨ss₃.trans kp₄.toSame, _, _, S₃.ext kp₄.ext⟩
    have sm₄ : Same s s₄ := sm.trans (Same.trans ⟨h', tk, rfl⟩ (sm'.trans kp₄.toSame))
    have back : ∀ {s₅ : Shared} {ds : List PyData}, St C A cenv s₀ Z₀ ((I, o') :: (X ++ H)) (V' ++ V) ((".acc", .own ds) :: Γ'') s₅ → St C A cenv s₀ Z₀ ((I, o') :: (X ++ H)) (V' ++ V) ((".acc", .own ds) :: Γc) s₅ := fun ⟨ss, Z, m, S⟩ =>
      ⟨ss, Z, m, S.sub fun x e l => by
        by_cases hx : x = ".acc"
        · subst hx; rw [lookup_cons_eq] at l ⊢; exact l
        · rw [lookup_cons_ne hx] at l ⊢; exact hsub x e hx l⟩
    cases b with
    | false =>
      rw [if_neg (by decide)]
      refine wpAny_pure ⟨rfl, kk - 1, by omega, i + 1, o', by omega, sm₄, hO', ?_⟩
      rw [flat_succ, hf rfl, List.append_nil]
      refine back ?_
      obtain ⟨ss, Z, m, S⟩ := S₄
      exact ⟨ss, Z, m, S.sub fun x e l => by
        by_cases hx : x = ".acc"
        · subst hx; rw [lookup_cons_eq] at l; rw [hacc, l]
        · rwa [lookup_cons_ne hx] at l⟩
    | true =>
      rw [if_pos rfl]
      refine ht rfl _ _ _ _ s₄ _ _ hacc ?_ S₄ fun s₅ sm₅ S₅ => wpAny_pure ⟨rfl, kk - 1, by omega, i + 1, o', by omega, sm₄.trans sm₅, hO', ?_⟩
      · have := flat_le outs (i := i + 1) (n := n) hi
        rw [flat_succ, List.length_append] at this
        rw [List.length_append]; omega
      · rw [flat_succ, ← List.append_assoc]; exact back S₅
  · obtain rfl : i = n := by omega
    refine W.done s' o _ _ hIo hO hXs fun h' tk eb => wpAny_pure (fin _ (sm.trans ⟨h', tk, rfl⟩) ?_)
    have S'' := S'.iterDone nI (W.fld _ o hO) hXI eb
    exact ⟨ss'.trans ⟨h', tk, rfl⟩, Z', m', (S''.dropH fun p hp => List.mem_append_right _ hp).dropV fun p hp => List.mem_append_right _ hp⟩
end
end

section
set_option autoImplicit false
set_option linter.unusedVariables false
open PySem PyProof.Rows PySem.W

/-! ## the names that a comprehension takes from around -/
def freesOf (env : Env) : List (Str × NameKind) → List (Str × Addr) → List (Str × Addr)
  | [], acc => acc
  | (n, k) :: r, acc => if k == .free then freesOf env r ((n, (env.cells.lookup n).getD 0) :: acc) else freesOf env r acc
theorem closureFor_eq {scope : Scope} {env : Env} (h : (scope.names.all fun p => p.2 != .free || (env.cells.lookup p.1).isSome) = true) : closureFor scope env = pure (freesOf env scope.names []) := by
  have key : ∀ (names : List (Str × NameKind)) (acc : List (Str × Addr)), (names.all fun p => p.2 != .free || (env.cells.lookup p.1).isSome) = true →
      (forIn names acc fun x cs => match x with | (name, kind) => if (kind == NameKind.free) = true then (do let a ← cellOf env name; pure (ForInStep.yield ((name, a) :: cs))) else pure (ForInStep.yield cs) : Sem (List (Str × Addr))) = pure (freesOf env names acc) := by
    intro names
    induction names with
    | nil => intro acc _; rfl
    | cons p r ih =>
      intro acc h
      obtain ⟨n, k⟩ := p
      simp only [List.all_cons, Bool.and_eq_true] at h
      have ih' := fun acc => ih acc h.2
      rw [List.forIn_cons]
      unfold freesOf
      dsimp only
      by_cases hk : (k == NameKind.free) = true
      · have hs : (env.cells.lookup n).isSome = true := by
          have := h.1
          simp only [bne, hk, Bool.not_true, Bool.false_or] at this
          exact this
        obtain ⟨c, hc⟩ := Option.isSome_iff_exists.mp hs
        have hcell : cellOf env n = pure c := by unfold cellOf; rw [hc]
        rw [if_pos hk, if_pos hk, hcell, hc]
        exact ih' _
      · rw [if_neg hk, if_neg hk]
        exact ih' _
  unfold closureFor
  show (forIn scope.names ([] : List (Str × Addr)) _ >>= fun cs => pure cs) = _
  rw [key _ _ h]
  rfl
theorem frees_mem {env : Env} : ∀ {names : List (Str × NameKind)} {acc : List (Str × Addr)} {x : Str} {c : Addr}, (names.all fun p => p.2 != .free || (env.cells.lookup p.1).isSome) = true → (x, c) ∈ freesOf env names acc →
    (x, c) ∈ acc ∨ ((x, NameKind.free) ∈ names ∧ env.cells.lookup x = some c)
  | [], _, _, _, _, h => .inl h
  | (n, k) :: r, acc, x, c, hall, h => by
    simp only [List.all_cons, Bool.and_eq_true] at hall
    unfold freesOf at h
    split at h
    · rename_i hk
      have hk' : k = .free := by simpa using hk
      subst hk'
      rcases frees_mem hall.2 h with q | q
      · rcases List.mem_cons.mp q with q | q
        · obtain ⟨rfl, rfl⟩ := Prod.mk.inj q
          refine .inr ⟨List.mem_cons_self, ?_⟩
          have hs : (env.cells.lookup x).isSome = true := by simpa using hall.1
          obtain ⟨c, hc⟩ := Option.isSome_iff_exists.mp hs
          rw [hc]; rfl
        · exact .inl q
      · exact .inr ⟨List.mem_cons_of_mem _ q.1, q.2⟩
    · rcases frees_mem hall.2 h with q | q
      · exact .inl q
      · exact .inr ⟨List.mem_cons_of_mem _ q.1, q.2⟩
theorem cellsFrom_app : ∀ (names : List (Str × NameKind)) (n : Nat) (a b : List (Str × Addr)), cellsFrom n names (a ++ b) = cellsFrom n names a ++ b
  | [], _, _, _ => rfl
  | (x, k) :: r, n, a, b => by
    unfold cellsFrom
    split
    · exact cellsFrom_app r (n + 1) ((x, n) :: a) b
    · exact cellsFrom_app r n a b
theorem cellsFrom_mem : ∀ (names : List (Str × NameKind)) (n : Nat) (acc : List (Str × Addr)) (x : Str) (c : Addr), (x, c) ∈ cellsFrom n names acc → (x, c) ∈ acc ∨ (x, NameKind.cell) ∈ names
  | [], _, _, _, _, h => .inl h
  | (y, k) :: r, n, acc, x, c, h => by
    unfold cellsFrom at h
    split at h
    · rename_i hk
      have hk' : k = .cell := by simpa using hk
      subst hk'
      rcases cellsFrom_mem r _ _ x c h with q | q
      · rcases List.mem_cons.mp q with q | q
        · obtain ⟨rfl, rfl⟩ := Prod.mk.inj q; exact .inr List.mem_cons_self
        · exact .inl q
      · exact .inr (List.mem_cons_of_mem _ q)
    · rcases cellsFrom_mem r _ _ x c h with q | q
      · exact .inl q
      · exact .inr (List.mem_cons_of_mem _ q)
theorem lookup_append {α : Type} {a b : List (Str × α)} {x : Str} {c : α} (h : (a ++ b).lookup x = some c) : a.lookup x = some c ∨ (a.lookup x = none ∧ b.lookup x = some c) := by
  rw [List.lookup_append] at h
  cases q : a.lookup x with
  | none => rw [q] at h; exact .inr ⟨rfl, h⟩
  | some v => rw [q] at h; exact .inl h

/-- the frame of a comprehension -/
def compEnv (scope : Scope) (env : Env) (L : Addr) : Env :=
  { scope := relabel scope env, locals := L, globals := env.globals, cells := cellsFrom (L + 1) scope.names (freesOf env scope.names []), qual := env.qual, func := none, code := env.code, frame := env.frame, builtins := env.builtins }

/-- the fixed facts of a comprehension -/
structure CompDef (scope : Scope) (env : Env) : Prop where
  free : (scope.names.all fun p => p.2 != .free || (env.cells.lookup p.1).isSome) = true
  kind : scope.kind = .function
  fn : (scope.names.all fun p => scope.names.lookup p.1 == some p.2) = true
  acc : scope.names.lookup (".acc" : Str) = none

theorem newCompEnv {M : Model} {A : Around} {E : Value → Shared → Prop} {s : Shared} {scope : Scope} {env : Env} {cl : List (Str × Addr)} {Q : Env → Shared → Prop}
    (h : Q { scope := scope, locals := s.heap.objs.size, globals := env.globals, cells := cellsFrom (s.heap.objs.size + 1) scope.names cl, qual := env.qual, func := none, code := env.code, frame := env.frame, builtins := env.builtins }
      { s with heap := pushCells (s.heap.push { cls := .type "dict", data := .dict #[] }) scope.names }) :
    wpAny M A (newFunctionEnv scope env.globals cl [] env.qual none .none (some env)) Q E s := by
  simp only [newFunctionEnv, Option.isSome_some, if_true]
  refine wpAny_bind (wpAny_alloc (wpAny_bind (wpAny_layCells _ (fun name kind cells => by cases hkc : kind == NameKind.cell <;> simp) _ _ _ _ ?_)))
  have hsz : (s.heap.push { cls := .type "dict", data := .dict #[] }).objs.size = s.heap.objs.size + 1 := Heap.size_push ..
  rw [hsz]
  exact wpAny_bind (wpAny_pure (wpAny_pure h))

theorem relabel_local {scope : Scope} {env : Env} {x : Str} (h : (relabel scope env).names.lookup x = some .local) : scope.names.lookup x = some .local := by
  unfold relabel at h
  simp only at h
  generalize scope.names = names at h ⊢
  induction names with
  | nil => cases h
  | cons p r ih =>
    obtain ⟨n, k⟩ := p
    rw [List.map_cons] at h
    by_cases hx : x = n
    · subst hx
      by_cases hc : (k == NameKind.free && env.scope.kind == .function && env.kindOf x == some .cell) = true
      · simp only [hc, if_true, List.lookup_cons, beq_self_eq_true] at h; cases h
      · simp only [hc, Bool.false_eq_true, if_false, List.lookup_cons, beq_self_eq_true] at h ⊢; exact h
    · have hb : (x == n) = false := by simpa using hx
      simp only [List.lookup_cons, hb]
      refine ih ?_
      by_cases hc : (k == NameKind.free && env.scope.kind == .function && env.kindOf n == some .cell) = true
      · simp only [hc, if_true, List.lookup_cons, hb] at h; exact h
      · simp only [hc, Bool.false_eq_true, if_false, List.lookup_cons, hb] at h; exact h
theorem relabel_none {scope : Scope} {env : Env} {x : Str} (h : scope.names.lookup x = none) : (relabel scope env).names.lookup x = none := by
  unfold relabel
  simp only
  generalize scope.names = names at h ⊢
  induction names with
  | nil => rfl
  | cons p r ih =>
    obtain ⟨n, k⟩ := p
    rw [List.map_cons]
    by_cases hx : x = n
    · subst hx; simp at h
    · have hb : (x == n) = false := by simpa using hx
      simp only [List.lookup_cons, hb] at h
      by_cases hc : (k == NameKind.free && env.scope.kind == .function && env.kindOf n == some .cell) = true
      · simp only [hc, if_true, List.lookup_cons, hb]; exact ih h
      · simp only [hc, Bool.false_eq_true, if_false, List.lookup_cons, hb]; exact ih h

def capE : Ent → Ent
  | .fz d => .fz d
  | .bor d => .bor d
  | .own ds => .bor (.list ds)
  | .any => .any
/-- the captured names' entries -/
def capT (names : List (Str × NameKind)) (Γ : Tab) : Tab := names.filterMap fun p => if p.2 == .free then (Γ.lookup p.1).map fun e => (p.1, capE e) else none
theorem capT_lookup {Γ : Tab} : ∀ {names : List (Str × NameKind)} {x : Str} {e : Ent}, (capT names Γ).lookup x = some e → (x, NameKind.free) ∈ names ∧ ∃ e', Γ.lookup x = some e' ∧ e = capE e'
  | [], _, _, h => by cases h
  | (n, k) :: r, x, e, h => by
    unfold capT at h
    rw [List.filterMap_cons] at h
    have ih := @capT_lookup Γ r x e
    by_cases hk : (k == NameKind.free) = true
    · have hk' : k = .free := by simpa using hk
      subst hk'
      cases hl : Γ.lookup n with
      | none =>
        simp only [hk, if_true, hl, Option.map_none] at h
        exact ⟨List.mem_cons_of_mem _ (ih h).1, (ih h).2⟩
      | some e' =>
        simp only [hk, if_true, hl, Option.map_some, List.lookup_cons] at h
        by_cases hx : x = n
        · subst hx
          simp only [beq_self_eq_true] at h
          cases h
          exact ⟨List.mem_cons_self, e', hl, rfl⟩
        · have hb : (x == n) = false := by simpa using hx
          simp only [hb] at h
          exact ⟨List.mem_cons_of_mem _ (ih h).1, (ih h).2⟩
    · simp only [hk] at h
      exact ⟨List.mem_cons_of_mem _ (ih h).1, (ih h).2⟩
end

section
set_option autoImplicit false
set_option linter.unusedVariables false
open PySem PyProof.Rows PySem.W

section
variable {C : Cx} {A : Around} {env : Env} {Γ : Tab} {μ : Bool} {E : Value → Shared → Prop} {scope : Scope}

theorem CompDef.at {x : Str} {k : NameKind} (D : CompDef scope env) (h : (x, k) ∈ scope.names) : scope.names.lookup x = some k := by
  have := List.all_eq_true.mp D.fn _ h
  simpa using this
theorem compEnv_cells {L : Addr} : (compEnv scope env L).cells = cellsFrom (L + 1) scope.names [] ++ freesOf env scope.names [] := cellsFrom_app scope.names (L + 1) [] _

/-- the cells of a comprehension's frame: its own, or taken from around -/
theorem CompDef.cellAt {L c : Addr} {x : Str} (D : CompDef scope env) (h : (compEnv scope env L).cells.lookup x = some c) :
    ((cellsFrom (L + 1) scope.names []).lookup x = some c ∧ scope.names.lookup x = some .cell) ∨ (env.cells.lookup x = some c ∧ scope.names.lookup x = some .free) := by
  rw [compEnv_cells] at h
  rcases lookup_append h with q | ⟨_, q⟩
  · rcases cellsFrom_mem _ _ _ _ _ (mem_of_lookup q) with r | r
    · cases r
    · exact .inl ⟨q, D.at r⟩
  · rcases frees_mem D.free (mem_of_lookup q) with r | ⟨r, r'⟩
    · cases r
    · exact .inr ⟨r', D.at r⟩

theorem CompDef.kindAcc {L : Addr} (D : CompDef scope env) : (compEnv scope env L).kindOf ".acc" = none := relabel_none D.acc

/-- the frame of a comprehension, before its loop -/
theorem compSt {m : Str → Option Value} {Z₀ Z : Addr → Prop} {s₁ : Shared} {o : Obj} {X : List (Addr × Obj)} {V : List (Value × PyData)} (D : CompDef scope env) (I : In C A env Z₀ Z Γ m s₁.heap) (hof : o.isFreed = false) (hoc : o.cls ≠ .type "frame")
    (hX : ∀ p ∈ X, s₁.heap.get? p.1 = some p.2 ∧ ¬ Z p.1 ∧ p.2.cls ≠ .type "frame") (hV : ∀ p ∈ V, Rd C.prog C.w Z s₁.heap p.1 p.2) :
    St C A (compEnv scope env (s₁.heap.objs.size + 2)) s₁ Z ((s₁.heap.objs.size, o) :: (X ++ [])) (V ++ []) ((".acc", .own []) :: capT scope.names Γ)
      { s₁ with heap := pushCells (((s₁.heap.push o).push (listO #[] 0)).push { cls := .type "dict", data := .dict #[] }) scope.names } := by
  have hk : ∀ b x, s₁.heap.get? b = some x → (pushCells (((s₁.heap.push o).push (listO #[] 0)).push { cls := .type "dict", data := .dict #[] }) scope.names).get? b = some x :=
    fun b x e => pushCells_keeps _ _ _ _ (Heap.get?_push_of_some _ (Heap.get?_push_of_some _ (Heap.get?_push_of_some _ e)))
  have sz1 : (s₁.heap.push o).objs.size = s₁.heap.objs.size + 1 := Heap.size_push ..
  have sz2 : ((s₁.heap.push o).push (listO #[] 0)).objs.size = s₁.heap.objs.size + 2 := by rw [Heap.size_push, sz1]
  have sz3 : (((s₁.heap.push o).push (listO #[] 0)).push { cls := .type "dict", data := .dict #[] }).objs.size = s₁.heap.objs.size + 3 := by rw [Heap.size_push, sz2]
  have gI : (pushCells (((s₁.heap.push o).push (listO #[] 0)).push { cls := .type "dict", data := .dict #[] }) scope.names).get? s₁.heap.objs.size = some o :=
    pushCells_keeps _ _ _ _ (Heap.get?_push_of_some _ (Heap.get?_push_of_some _ (Heap.get?_push_size _ hof)))
  have gA : (pushCells (((s₁.heap.push o).push (listO #[] 0)).push { cls := .type "dict", data := .dict #[] }) scope.names).get? (s₁.heap.objs.size + 1) = some (listO #[] 0) :=
    pushCells_keeps _ _ _ _ (Heap.get?_push_of_some _ (by rw [← sz1]; exact Heap.get?_push_size _ rfl))
  have gL : (((s₁.heap.push o).push (listO #[] 0)).push { cls := .type "dict", data := .dict #[] }).Ns (s₁.heap.objs.size + 2) (fun _ => none) := by
    rw [← sz2]; exact Heap.Ns.new _ (.type "dict")
  have gL' := gL.keeps (pushCells_keeps scope.names _)
  have ok := cellsFrom_ok scope.names (((s₁.heap.push o).push (listO #[] 0)).push { cls := .type "dict", data := .dict #[] }) (s₁.heap.objs.size + 3) [] ⟨fun _ _ hm => (nomatch hm), List.Pairwise.nil⟩ (by rw [sz3]; exact Nat.le_refl _)
  rw [sz3] at ok
  generalize hh : pushCells (((s₁.heap.push o).push (listO #[] 0)).push { cls := .type "dict", data := .dict #[] }) scope.names = h₄ at hk gI gA gL' ok ⊢
  generalize hN : s₁.heap.objs.size = N at *
  have hnew : ∀ a : Nat, N ≤ a → s₁.heap.get? a = none := fun a ha => Heap.get?_none_of_le (by rw [hN]; exact ha)
  have hlt : ∀ (a : Nat) x, s₁.heap.get? a = some x → a < N := fun a x e => hN ▸ Heap.lt_size e
  have ext : Ext A s₁.heap h₄ := .of hk
  let Zc : Addr → Prop := fun (a : Nat) => Z a ∨ (N + 1 ≤ a ∧ ∃ x, h₄.get? a = some x)
  have zlt : ∀ a : Nat, Z a → a < N := fun a z => let ⟨x, e⟩ := I.z.st a z; hlt a x e
  have hre : ∀ (a : Nat) x, s₁.heap.get? a = some x → Zc a → Z a := fun a x e q => q.elim id fun q => by have := hlt a x e; omega
  have hre2 : ∀ a x, s₁.heap.get? a = some x → (Zc a ∧ ¬ Z a) → False := fun a x e q => q.2 (hre a x e q.1)
  refine ⟨⟨h₄, _, rfl⟩, Zc, fun x => if x = ".acc" then some (.ref (N + 1)) else if scope.names.lookup x = some .free then m x else none, ?_⟩
  refine ⟨⟨⟨D.kind, I.fn.glob, I.fn.blt, D.kindAcc⟩, ⟨⟨_, gL', fun x hx => ?_⟩, fun x c hc => ?_, fun v hv => ?_⟩, fun x e l => ?_, I.base.keep ext, ⟨fun a z => ?_, fun a z => ?_⟩, I.fr.keep ext, ?zc, ?cd⟩, I.base, ext, fun a z => ⟨.inl z, I.z.st a z⟩, .inr ⟨by show N + 1 ≤ N + 2; omega, ?_⟩, hnew _ (by show N ≤ N + 2; omega), ?zc, ?cd,
    fun p hp => ?_, fun p hp => ?_, fun x ds a l e => ?_⟩
  case zc =>
    intro x c hc
    rcases D.cellAt hc with ⟨q, _⟩ | ⟨q, _⟩
    · obtain ⟨⟨x', e, _⟩, hlo⟩ := ok.empty _ _ (mem_of_lookup q)
      exact .inr ⟨by omega, x', e⟩
    · exact .inl (I.zc x c q)
  case cd =>
    intro x y c hc hc'
    rcases D.cellAt hc with ⟨q, _⟩ | ⟨q, _⟩ <;> rcases D.cellAt hc' with ⟨q', _⟩ | ⟨q', _⟩
    · exact name_of_addr ok.apart (mem_of_lookup q) (mem_of_lookup q')
    · have h1 := (ok.empty _ _ (mem_of_lookup q)).2
      have h2 := zlt _ (I.zc y c q')
      omega
    · have h1 := (ok.empty _ _ (mem_of_lookup q')).2
      have h2 := zlt _ (I.zc x c q)
      omega
    · exact I.cd x y c q q'
  · have hx' := relabel_local hx
    have hna : x ≠ ".acc" := by rintro rfl; rw [D.acc] at hx'; cases hx'
    rw [if_neg hna, if_neg (by rw [hx']; decide)]
  · rcases D.cellAt hc with ⟨q, hk'⟩ | ⟨q, hk'⟩
    · have hna : x ≠ ".acc" := by rintro rfl; rw [D.acc] at hk'; cases hk'
      rw [if_neg hna, if_neg (by rw [hk']; decide)]
      exact (ok.empty _ _ (mem_of_lookup q)).1
    · have hna : x ≠ ".acc" := by rintro rfl; rw [D.acc] at hk'; cases hk'
      rw [if_neg hna, if_pos hk']
      exact ext.cell (I.vars.cel x c q)
  · simp only [if_true] at hv
    cases hv
    rfl
  · by_cases hx : x = ".acc"
    · subst hx
      rw [lookup_cons_eq] at l; cases l
      simp only [if_true]
      exact ⟨N + 1, #[], 0, rfl, gA, .inr ⟨Nat.le_refl _, _, gA⟩, .nil⟩
    · rw [lookup_cons_ne hx] at l
      obtain ⟨hin, e', hl, rfl⟩ := capT_lookup l
      rw [if_neg hx, if_pos (D.at hin)]
      have := I.ents x e' hl
      cases hv : m x with
      | none => rw [hv] at this; exact this.elim
      | some v =>
        rw [hv] at this
        cases e' with
        | fz d => exact (Rd.reZ hre this).keep ext
        | bor d => exact (Rd.reZ (Z' := fun a => Zc a ∧ ¬ Z a) (fun a x e q => (hre2 a x e q).elim) this).keep ext
        | own ds =>
          obtain ⟨a, vs, n, rfl, e, z, r⟩ := this
          exact .list (ext.at e listO_cls) (fun q => q.2 z) ((r.reZ (Z' := fun a => Zc a ∧ ¬ Z a) fun a x e q => (hre2 a x e q).elim).keep ext)
        | any => trivial
  · rcases z with z | z
    · obtain ⟨x, e⟩ := I.z.st a z; exact ⟨x, hk _ _ e⟩
    · exact z.2
  · rcases z with z | z
    · exact I.z.k a z
    · cases e : C.K.lookup a with
      | none => rfl
      | some x => have := hlt _ _ (I.base.k _ _ e); omega
  · obtain ⟨x, _, _, e, _⟩ := gL'; exact ⟨x, e⟩
  · rw [List.append_nil] at hp
    rcases List.mem_cons.mp hp with rfl | hp
    · exact ⟨gI, fun q => q.elim (fun z => by have := zlt _ z; simp at this) fun q => by have := q.1; simp at this; omega, hoc⟩
    · obtain ⟨e, nz, c⟩ := hX p hp
      exact ⟨hk _ _ e, fun q => nz (hre _ _ e q), c⟩
  · rw [List.append_nil] at hp
    exact (Rd.reZ hre (hV p hp)).keep ext
  · have key : ∀ (y : Str) es, List.lookup y (((".acc" : Str), Ent.own []) :: capT scope.names Γ) = some (.own es) → y = ".acc" := fun y es l => by
      by_cases hy : y = ".acc"
      · exact hy
      · rw [lookup_cons_ne hy] at l
        obtain ⟨_, e', _, q⟩ := capT_lookup l
        cases e' <;> cases q
    have hx := key x ds l
    subst hx
    simp only [if_true] at e
    cases e
    exact ⟨hnew _ (Nat.le_succ _), fun y es l' e' => key y es l'⟩
end
end

section
set_option autoImplicit false
set_option linter.unusedVariables false
open PySem PyProof.Rows PySem.W

section
variable {C : Cx} {A : Around} {env : Env} {Γ : Tab} {μ : Bool} {E : Value → Shared → Prop} {scope : Scope}

/-- what a turn of a comprehension shows -/
def Turn (C : Cx) (A : Around) (scope : Scope) (env : Env) (Γc : Tab) (target : Expr) (ifs : List Expr) (elt : Expr) (gens : List Comprehension) (pos : Pos) (dep : Nat) (L : Addr) (s₀ : Shared) (Z₀ : Addr → Prop) (d : PyData) (out : List PyData) : Prop :=
  ∀ ds E, ∃ Γ'' b, As C A (compEnv scope env L) s₀ Z₀ E ((".acc", .own ds) :: Γc) target d Γ'' ∧ Γ''.lookup (".acc" : Str) = some (.own ds) ∧ (∀ (x : Str) e, x ≠ ".acc" → Γc.lookup x = some e → Γ''.lookup x = some e) ∧
    Cds C A (compEnv scope env L) Γ'' ifs b ∧ (b = false → out = []) ∧ (b = true → Inn C A (compEnv scope env L) s₀ Z₀ elt gens scope pos dep Γ'' out)
/-- the cells of the comprehension's own names are its own -/
abbrev OwnC (scope : Scope) (env : Env) (L : Addr) (s₀ : Shared) : Prop := ∀ x : Str, (scope.names.lookup x == some .free) = false → Owned (compEnv scope env L) s₀.heap x

theorem comp_run {use : Option (Value → Sem Unit)} {elt target iter : Expr} {ifs : List Expr} {gens : List Comprehension} {pos p : Pos} {n : Nat} {dat : Nat → PyData} {s : Shared} {m : Str → Option Value} {Z₀ Z : Addr → Prop} {Q : Value → Shared → Prop} (D : CompDef scope env)
    (src : Src C A env Γ iter n dat) (hs : ∀ x, foldedSetIterable iter env x = pure x) (outs : Nat → List PyData) (hsz : ((List.range n).flatMap outs).length ≤ sizeLine)
    (turn : ∀ L s₀ Z₀ i, OwnC scope env L s₀ → i < n → Turn C A scope env (capT scope.names Γ) target ifs elt (⟨target, iter, ifs, 0⟩ :: gens) pos 0 L s₀ Z₀ (dat i) (outs i))
    (I : In C A env Z₀ Z Γ m s.heap)
    (k : ∀ acc L s' vs j ml, Same s s' → Ext A s.heap s'.heap → s.heap.get? acc = none → s.heap.get? L = none → acc ≠ L → s'.heap.Ns L ml → s'.heap.get? acc = some (listO vs j) →
      Rds C.prog C.w (fun a => Z a ∨ a = L ∨ a = acc) s'.heap vs.toList ((List.range n).flatMap outs) → compPost C.M A E use Q (.ref acc) L (.ok .next) s') :
    wpAny C.M A (comprehension (.ListComp elt (⟨target, iter, ifs, 0⟩ :: gens) scope pos) scope env p (newList []) false (eval iter env) use) Q E s := by
  refine wpAny_comprehension_free (g := ⟨target, iter, ifs, 0⟩) (gs := gens) rfl hs (closureFor_eq D.free) D.kind (fun x hx hl => by have := D.at (x := x.1) (k := x.2) hx; rwa [hl] at this) (src E s m Z₀ Z _ I fun s₁ X V O o kp hof hO W hX hV => ?_)
  have sz1 : (s₁.heap.push o).objs.size = s₁.heap.objs.size + 1 := Heap.size_push ..
  have sz2 : ((s₁.heap.push o).push (listO #[] 0)).objs.size = s₁.heap.objs.size + 2 := by rw [Heap.size_push, sz1]
  refine wpAny_newList (newCompEnv ?_) (by decide)
  show codeAny C.M A (.compStart _ 0 (.ref s₁.heap.objs.size) (.ref (s₁.heap.push o).objs.size) (compEnv scope env ((s₁.heap.push o).push (listO #[] 0)).objs.size)) (compPost C.M A E use Q (.ref (s₁.heap.push o).objs.size) ((s₁.heap.push o).push (listO #[] 0)).objs.size)
    { s₁ with heap := pushCells (((s₁.heap.push o).push (listO #[] 0)).push { cls := .type "dict", data := .dict #[] }) scope.names }
  rw [sz1, sz2]
  have S := compSt (Γ := Γ) D (I.keep kp.ext) hof (W.clsF _ _ hO) hX hV
  have hnone : ∀ a : Nat, s₁.heap.objs.size ≤ a → s₁.heap.get? a = none := fun a ha => Heap.get?_none_of_le ha
  have hnone0 : ∀ a : Nat, s₁.heap.objs.size ≤ a → s.heap.get? a = none := fun a ha => by
    cases q : s.heap.get? a with
    | none => rfl
    | some x => obtain ⟨x', q', _⟩ := kp.ext.stays q; rw [hnone a ha] at q'; cases q'
  have hXI : ∀ p ∈ X ++ ([] : List (Addr × Obj)), p.1 ≠ s₁.heap.objs.size := fun p hp q => by
    rw [List.append_nil] at hp
    have e := (hX p hp).1
    rw [q, hnone _ (Nat.le_refl _)] at e; cases e
  have own : OwnC scope env (s₁.heap.objs.size + 2) s₁ := fun x hx c hc => by
    rcases D.cellAt hc with ⟨q, _⟩ | ⟨q, hk⟩
    · have ok := cellsFrom_ok scope.names (((s₁.heap.push o).push (listO #[] 0)).push { cls := .type "dict", data := .dict #[] }) (s₁.heap.objs.size + 3) [] ⟨fun _ _ hm => (nomatch hm), List.Pairwise.nil⟩ (by rw [Heap.size_push, sz2]; exact Nat.le_refl _)
      rw [Heap.size_push, sz2] at ok
      exact hnone c (by have h : (s₁.heap.objs.size + 3 : Nat) ≤ c := (ok.empty _ _ (mem_of_lookup q)).2; omega)
    · rw [hk] at hx; exact absurd hx (by decide)
  have loop := comp_loop (elt := elt) (gens := ⟨target, iter, ifs, 0⟩ :: gens) (scope := scope) (pos := pos) (dep := 0) (R := compPost C.M A E use Q (.ref (s₁.heap.objs.size + 1)) (s₁.heap.objs.size + 2)) (hg := rfl) W hO outs (capT scope.names Γ) (hnone _ (Nat.le_refl _)) hXI (by simpa using hsz)
    (fun i ds E hi => turn _ s₁ Z i own hi ds E) S (fun s' sm S' => by
      obtain ⟨_, Z', m', S'⟩ := S'
      obtain ⟨ml, hn, _⟩ := S'.i.vars.loc
      have he := S'.i.ents _ _ lookup_cons_eq
      cases hv : m' ".acc" with
      | none => rw [hv] at he; exact he.elim
      | some u =>
        have hu := S'.i.vars.hid u hv
        rw [hv] at he
        obtain ⟨a, vs, k', e1, e2, z, r⟩ := he
        rw [e1] at hu
        have ha : a = s₁.heap.objs.size + 1 := by cases hu; rfl
        subst ha
        rw [List.nil_append] at r
        refine k _ _ s' vs k' ml (kp.toSame.trans (Same.trans ⟨_, _, rfl⟩ sm)) (kp.ext.trans S'.keep) (hnone0 _ (Nat.le_succ _)) (hnone0 _ (by omega)) (fun q => by have : s₁.heap.objs.size + 1 = s₁.heap.objs.size + 2 := q; omega) hn e2 (r.reZ fun b x _ q => ?_)
        rcases q with q | rfl | rfl
        · exact (S'.z0 b q).1
        · exact S'.zl
        · exact z)
  refine codeAny_compStart_list loop (W.self 0 _ o _ _ ?_ hO loop)
  have := (S.2.choose_spec.choose_spec.hs _ List.mem_cons_self).1
  exact this

theorem ev_comp {elt target iter : Expr} {ifs : List Expr} {gens : List Comprehension} {pos : Pos} {n : Nat} {dat : Nat → PyData} (D : CompDef scope env)
    (src : Src C A env Γ iter n dat) (hs : ∀ x, foldedSetIterable iter env x = pure x) (outs : Nat → List PyData) (hsz : ((List.range n).flatMap outs).length ≤ sizeLine)
    (turn : ∀ L s₀ Z₀ i, OwnC scope env L s₀ → i < n → Turn C A scope env (capT scope.names Γ) target ifs elt (⟨target, iter, ifs, 0⟩ :: gens) pos 0 L s₀ Z₀ (dat i) (outs i)) :
    Ev C A env Γ (.ListComp elt (⟨target, iter, ifs, 0⟩ :: gens) scope pos) μ (.list ((List.range n).flatMap outs)) := fun E s m Z₀ Z I => by
  rw [eval_ListComp]
  refine comp_run (use := none) D src hs outs hsz turn I fun acc L s' vs k ml sm ex na nl hne hn ha r => ⟨ml, hn, fun h' sb => ?_⟩
  refine ⟨⟨sm.trans ⟨h', _, rfl⟩, ex.mutOf nl fun b o hb e => (sb.2 b hb).trans e⟩, ?_⟩
  have hz : ¬ sel μ Z acc := fun q => by
    cases μ with
    | true => obtain ⟨x, e⟩ := I.z.st acc q; rw [na] at e; cases e
    | false => exact q
  refine .list ((sb.2 acc hne).trans ha) hz ?_
  have r' : Rds C.prog C.w (fun a => Z a ∨ a = L ∨ a = acc) h' vs.toList ((List.range n).flatMap outs) := r.keepZ fun b o nz e => (sb.2 b (by rintro rfl; exact nz (.inr (.inl rfl)))).trans e
  refine r'.reZ fun a x _ q => ?_
  cases μ with
  | true => exact .inl q
  | false => exact q.elim

/-- a comprehension in a comprehension's clauses -/
theorem codeAny_compStart_gen {M : Model} {prog : Program} {w : World} {R : Result → Shared → Prop} {s : Shared} {elt target iter : Expr} {ifs : List Expr} {gens : List Comprehension} {pos : Pos} {dep : Nat} {it acc : Value} {cenv : Env} (hg : gens[dep]? = some ⟨target, iter, ifs, 0⟩)
    (h0 : codeAny (model prog w) A (.compLoop (.ListComp elt gens scope pos) dep it acc cenv) R s)
    (h : wpAny (model prog w) A (pyIter it) (fun it' s' => codeAny (model prog w) A (.compLoop (.ListComp elt gens scope pos) dep it' acc cenv) R s') (notedBy (model prog w) A cenv fun x s' => R (.error x) s') s) :
    codeAny (model prog w) A (.compStart (.ListComp elt gens scope pos) dep it acc cenv) R s := by
  refine codeAny_of_tree ?_
  show wpAny _ _ ((compStart (.ListComp elt gens scope pos) dep it acc cenv).onRaise (fun x => do noteFrame x cenv; standAt theWindowsPlace)) _ _ s
  refine wpAny_notedAt ?_
  unfold compStart
  have hc : (clausesOf (.ListComp elt gens scope pos))[dep]? = some ⟨target, iter, ifs, 0⟩ := hg
  rw [hc]
  show wpAny _ _ (ask >>= _) _ _ s
  refine wpAny_bind (wpAny_askSetting (wpAny_ite ?_))
  split
  · first
      | exact wpAny_bind (wpAny_pure (wpAny_pure (And.intro rfl h0)))
      | exact wpAny_pure (And.intro rfl h0)
  · first
      | exact wpAny_bind (wpAny_rule (wpAny_bind (wpAny_standAt (wpAny_bind (wpAny_mono h (fun it' s' h' => wpAny_pure (And.intro rfl h')) fun _ _ x => x)))))
      | (refine wpAny_bind (wpAny_rule ?_); show wpAny _ _ (standAt iter.pos >>= _) _ _ s; exact wpAny_bind (wpAny_standAt (wpAny_bind (wpAny_mono h (fun it' s' h' => wpAny_pure (And.intro rfl h')) fun _ _ x => x))))

theorem inn_nest {elt target iter : Expr} {ifs : List Expr} {gens : List Comprehension} {pos : Pos} {dep n : Nat} {dat : Nat → PyData} {L : Addr} {s₀ : Shared} {Z₀ : Addr → Prop} (hg : gens[dep + 1]? = some ⟨target, iter, ifs, 0⟩) (src : Src C A (compEnv scope env L) Γ iter n dat) (hs : ∀ x, foldedSetIterable iter (compEnv scope env L) x = pure x) (outs : Nat → List PyData)
    (Γc : Tab) (hc : ∀ (x : Str) e, x ≠ ".acc" → Γc.lookup x = some e → Γ.lookup x = some e) (hc' : ∀ (x : Str) e, x ≠ ".acc" → Γ.lookup x = some e → Γc.lookup x = some e)
    (turn : ∀ i, i < n → Turn C A scope env Γc target ifs elt gens pos (dep + 1) L s₀ Z₀ (dat i) (outs i)) :
    Inn C A (compEnv scope env L) s₀ Z₀ elt gens scope pos dep Γ ((List.range n).flatMap outs) := fun E Q H V s ds it l hsz ⟨ss, Z, m, S⟩ k => by
  unfold innerK
  rw [hg]
  simp only [bne_self_eq_false, Bool.false_eq_true, if_false]
  refine wpAny_bind (wpAny_mono (src E s m Z₀ Z (fun v s' => wpAny C.M A (runOwn (.compStart (.ListComp elt gens scope pos) (dep + 1) v (.ref ((compEnv scope env L).locals - 1)) (compEnv scope env L)) (compEnv scope env L)) (fun _ s'' => wpAny C.M A (again (.compLoop (.ListComp elt gens scope pos) dep it (.ref ((compEnv scope env L).locals - 1)) (compEnv scope env L))) Q E s'') E s') S.i ?_) (fun v s' q => ?_) fun _ _ x => x)
  · intro s₁ X V' O o kp hof hO W hX hV
    have hnone : ∀ a : Nat, s₁.heap.objs.size ≤ a → s₁.heap.get? a = none := fun a ha => Heap.get?_none_of_le ha
    have S₁ := S.ext kp.ext
    have nI : s₀.heap.get? s₁.heap.objs.size = none := by
      cases e : s₀.heap.get? s₁.heap.objs.size with
      | none => rfl
      | some x => obtain ⟨o', q, _⟩ := S₁.keep.stays e; rw [hnone _ (Nat.le_refl _)] at q; cases q
    have hXI : ∀ p ∈ X ++ H, p.1 ≠ s₁.heap.objs.size := fun p hp q => by
      have e : s₁.heap.get? p.1 = some p.2 := (List.mem_append.mp hp).elim (fun hp => (hX p hp).1) fun hp => (S₁.hs p hp).1
      rw [q, hnone _ (Nat.le_refl _)] at e; cases e
    have S₂ : St C A (compEnv scope env L) s₀ Z₀ ((s₁.heap.objs.size, o) :: (X ++ H)) (V' ++ V) ((".acc", .own ds) :: Γc) { s₁ with heap := s₁.heap.push o } := by
      refine ⟨ss.trans (kp.toSame.trans ⟨_, _, rfl⟩), Z, m, ?_⟩
      have S₂ := ((S₁.ext (Ext.push o)).addV (V' := V') fun p hp => (hV p hp).push o).sub (Γ' := (".acc", .own ds) :: Γc) fun x e lx => by
        by_cases hx : x = ".acc"
        · subst hx; rw [lookup_cons_eq] at lx; rw [l, lx]
        · rw [lookup_cons_ne hx] at lx; exact hc x e hx lx
      refine { S₂ with hs := fun p hp => ?_ }
      rcases List.mem_cons.mp hp with rfl | hp
      · exact ⟨Heap.get?_push_size _ hof, S₁.i.z.fresh, W.clsF _ _ hO⟩
      · rcases List.mem_append.mp hp with hp | hp
        · exact ⟨Heap.get?_push_of_some _ (hX p hp).1, (hX p hp).2⟩
        · exact S₂.hs p hp
    refine wpAny_runOwn (h := none) ?_
    have loop := comp_loop (elt := elt) (gens := gens) (scope := scope) (pos := pos) (dep := dep + 1) (R := fun r s' => match r with
        | .ok f => wpAny C.M A (again (.compLoop (.ListComp elt gens scope pos) dep it (.ref ((compEnv scope env L).locals - 1)) (compEnv scope env L))) Q E s'
        | .error e => cameBackBy C.M A (compEnv scope env L) E e s') (hg := hg) W hO outs Γc nI hXI hsz (fun i ds E hi => turn i hi ds E) S₂ (fun s' sm S' => by
      refine k s' (kp.toSame.trans (Same.trans ⟨_, _, rfl⟩ sm)) ?_
      obtain ⟨ss', Z', m', S'⟩ := S'
      exact ⟨ss', Z', m', S'.sub fun x e lx => by
        by_cases hx : x = ".acc"
        · subst hx; rw [lookup_cons_eq] at lx ⊢; exact lx
        · rw [lookup_cons_ne hx] at lx ⊢; exact hc' x e hx lx⟩)
    exact codeAny_compStart_gen (M := C.M) hg loop (W.self 0 _ o _ _ (Heap.get?_push_size _ hof) hO loop)
  · exact wpAny_bind (wpAny_standAt (wpAny_bind (wpAny_of_eq (hs v) (wpAny_bind (wpAny_holding (wpAny_mono q (fun v s' q => wpAny_bind q) fun _ _ x => x))))))
end
end

section
set_option autoImplicit false
set_option linter.unusedVariables false
open PySem PyProof.Rows PySem.W

section
variable {C : Cx} {A : Around} {env : Env} {Γ : Tab} {e e₁ e₂ : Expr} {μ : Bool} {d d₁ d₂ : PyData} {s₀ : Shared} {Z₀ : Addr → Prop} {E : Value → Shared → Prop}

theorem Ev.cast {d' : PyData} (h : Ev C A env Γ e μ d) (q : d = d') : Ev C A env Γ e μ d' := q ▸ h
theorem Cd.cast {b b' : Bool} (h : Cd C A env Γ e b) (q : b = b') : Cd C A env Γ e b' := q ▸ h
theorem Src.cast {n n' : Nat} {dat dat' : Nat → PyData} (h : Src C A env Γ e n dat) (q : n = n') (q' : dat = dat') : Src C A env Γ e n' dat' := q ▸ q' ▸ h

/-- small enough to be compared -/
def DOk (d : PyData) (n : Nat) : Prop := noDict d = true ∧ d.depth ≤ n
theorem DOk.flat (hf : flat d = true) : DOk d 0 := by
  cases d with
  | none => exact ⟨by simp [noDict], by simp [PyData.depth]⟩
  | bool b => exact ⟨by simp [noDict], by simp [PyData.depth]⟩
  | int i => exact ⟨by simp [noDict], by simp [PyData.depth]⟩
  | str s => exact ⟨by simp [noDict], by simp [PyData.depth]⟩
  | list xs => cases hf
  | tuple xs => cases hf
  | dict xs => cases hf
theorem marks_of {op : CmpOp} {e : Expr} (h : (op == .In || op == .NotIn) = false) : behindInMarks op e = false := by
  cases e <;> first | rfl | simp [behindInMarks, h]
theorem dOk_all {xs : List PyData} {n : Nat} (h : ∀ x ∈ xs, DOk x n) : noDict.noDicts xs = true ∧ PyData.depthAll xs ≤ n := by
  induction xs with
  | nil => exact ⟨by simp [noDict.noDicts], by simp [PyData.depthAll]⟩
  | cons x xs ih =>
    obtain ⟨h1, h2⟩ := h x List.mem_cons_self
    obtain ⟨i1, i2⟩ := ih fun y hy => h y (List.mem_cons_of_mem _ hy)
    refine ⟨by simp [noDict.noDicts, h1, i1], ?_⟩
    simp only [PyData.depthAll]; omega
theorem DOk.list {xs : List PyData} {n : Nat} (h : ∀ x ∈ xs, DOk x n) : DOk (.list xs) (n + 1) :=
  let ⟨a, b⟩ := dOk_all h; ⟨by simpa [noDict] using a, by simp only [PyData.depth]; omega⟩
theorem DOk.tuple {xs : List PyData} {n : Nat} (h : ∀ x ∈ xs, DOk x n) : DOk (.tuple xs) (n + 1) :=
  let ⟨a, b⟩ := dOk_all h; ⟨by simpa [noDict] using a, by simp only [PyData.depth]; omega⟩
theorem DOk.mono {n k : Nat} (h : DOk d n) (hk : n ≤ k) : DOk d k := ⟨h.1, by have := h.2; omega⟩

theorem eqv_int (a b : Int) : PyData.eqv (.int a) (.int b) = (a == b) := by first | rfl | (unfold PyData.eqv; rfl) | simp [PyData.eqv]
theorem eqv_bool (a b : Bool) : PyData.eqv (.bool a) (.bool b) = (a == b) := by cases a <;> cases b <;> decide
theorem eqv_str (a b : Str) : PyData.eqv (.str a) (.str b) = (a == b) := by first | rfl | simp [PyData.eqv]

theorem cmp_room {k : Nat} (n₁ : DOk d₁ k) (n₂ : DOk d₂ 100) (hk : k ≤ 100) : (noDict d₁ && noDict d₂ && decide (min d₁.depth d₂.depth ≤ 100)) = true := by
  have := n₁.2
  simp only [n₁.1, n₂.1, Bool.true_and, decide_eq_true_eq]; omega
/-! ## rules with the don't-cares set -/
theorem c_eq {n k : Nat} {pos : Pos} (hA : OkA A n) (h₁ : Ev C A env Γ e₁ false d₁) (h₂ : Ev C A env Γ e₂ false d₂) (n₁ : DOk d₁ k) (n₂ : DOk d₂ 100) (hk : k ≤ 100) : Cd C A env Γ (.Compare e₁ [.Eq] [e₂] pos) (PyData.eqv d₁ d₂) :=
  cd_cmp hA h₁ h₂ (if_pos (cmp_room n₁ n₂ hk)) (marks_of rfl)
theorem c_ne {n k : Nat} {pos : Pos} (hA : OkA A n) (h₁ : Ev C A env Γ e₁ false d₁) (h₂ : Ev C A env Γ e₂ false d₂) (n₁ : DOk d₁ k) (n₂ : DOk d₂ 100) (hk : k ≤ 100) : Cd C A env Γ (.Compare e₁ [.NotEq] [e₂] pos) (!PyData.eqv d₁ d₂) :=
  cd_cmp hA h₁ h₂ (if_pos (cmp_room n₁ n₂ hk)) (marks_of rfl)
theorem c_eqS {n : Nat} {pos : Pos} {a b : Str} (hA : OkA A n) (h₁ : Ev C A env Γ e₁ false (.str a)) (h₂ : Ev C A env Γ e₂ false (.str b)) : Cd C A env Γ (.Compare e₁ [.Eq] [e₂] pos) (a == b) :=
  (c_eq hA h₁ h₂ (DOk.flat rfl) ((DOk.flat rfl).mono (by omega)) (by omega)).cast (eqv_str a b)
theorem c_neS {n : Nat} {pos : Pos} {a b : Str} (hA : OkA A n) (h₁ : Ev C A env Γ e₁ false (.str a)) (h₂ : Ev C A env Γ e₂ false (.str b)) : Cd C A env Γ (.Compare e₁ [.NotEq] [e₂] pos) (!(a == b)) :=
  (c_ne hA h₁ h₂ (DOk.flat rfl) ((DOk.flat rfl).mono (by omega)) (by omega)).cast (by rw [eqv_str])
theorem c_eqI {n : Nat} {pos : Pos} {a b : Int} (hA : OkA A n) (h₁ : Ev C A env Γ e₁ false (.int a)) (h₂ : Ev C A env Γ e₂ false (.int b)) : Cd C A env Γ (.Compare e₁ [.Eq] [e₂] pos) (a == b) :=
  (c_eq hA h₁ h₂ (DOk.flat rfl) ((DOk.flat rfl).mono (by omega)) (by omega)).cast (eqv_int a b)
theorem c_neI {n : Nat} {pos : Pos} {a b : Int} (hA : OkA A n) (h₁ : Ev C A env Γ e₁ false (.int a)) (h₂ : Ev C A env Γ e₂ false (.int b)) : Cd C A env Γ (.Compare e₁ [.NotEq] [e₂] pos) (!(a == b)) :=
  (c_ne hA h₁ h₂ (DOk.flat rfl) ((DOk.flat rfl).mono (by omega)) (by omega)).cast (by rw [eqv_int])
theorem c_neB {n : Nat} {pos : Pos} {a b : Bool} (hA : OkA A n) (h₁ : Ev C A env Γ e₁ false (.bool a)) (h₂ : Ev C A env Γ e₂ false (.bool b)) : Cd C A env Γ (.Compare e₁ [.NotEq] [e₂] pos) (!(a == b)) :=
  (c_ne hA h₁ h₂ (DOk.flat rfl) ((DOk.flat rfl).mono (by omega)) (by omega)).cast (by rw [eqv_bool])
theorem c_lt {n : Nat} {pos : Pos} {a b : Int} (hA : OkA A n) (h₁ : Ev C A env Γ e₁ false (.int a)) (h₂ : Ev C A env Γ e₂ false (.int b)) : Cd C A env Γ (.Compare e₁ [.Lt] [e₂] pos) (decide (a < b)) := cd_cmp hA h₁ h₂ rfl (marks_of rfl)
theorem c_gt {n : Nat} {pos : Pos} {a b : Int} (hA : OkA A n) (h₁ : Ev C A env Γ e₁ false (.int a)) (h₂ : Ev C A env Γ e₂ false (.int b)) : Cd C A env Γ (.Compare e₁ [.Gt] [e₂] pos) (decide (b < a)) := cd_cmp hA h₁ h₂ rfl (marks_of rfl)
theorem c_ge {n : Nat} {pos : Pos} {a b : Int} (hA : OkA A n) (h₁ : Ev C A env Γ e₁ false (.int a)) (h₂ : Ev C A env Γ e₂ false (.int b)) : Cd C A env Γ (.Compare e₁ [.GtE] [e₂] pos) (decide (b ≤ a)) := cd_cmp hA h₁ h₂ rfl (marks_of rfl)
theorem c_le {n : Nat} {pos : Pos} {a b : Int} (hA : OkA A n) (h₁ : Ev C A env Γ e₁ false (.int a)) (h₂ : Ev C A env Γ e₂ false (.int b)) : Cd C A env Γ (.Compare e₁ [.LtE] [e₂] pos) (decide (a ≤ b)) := cd_cmp hA h₁ h₂ rfl (marks_of rfl)
/-- y in x -/
def hasSub (y x : Str) : Bool := !(Builtin.Str.occurrences x y 0 x.length 1).isEmpty
theorem c_inS {n : Nat} {pos : Pos} {a b : Str} (hA : OkA A n) (h₁ : Ev C A env Γ e₁ false (.str a)) (h₂ : Ev C A env Γ e₂ false (.str b)) (hm : behindInMarks .In e₂ = false) : Cd C A env Γ (.Compare e₁ [.In] [e₂] pos) (hasSub a b) := cd_cmp hA h₁ h₂ rfl hm
theorem e_mod {pos : Pos} {a b : Int} (h₁ : Ev C A env Γ e₁ false (.int a)) (h₂ : Ev C A env Γ e₂ false (.int b)) (hb : b ≠ 0) : Ev C A env Γ (.BinOp e₁ .Mod e₂ pos) μ (.int (a.fmod b)) := ev_mod h₁ h₂ hb
theorem e_sub {pos : Pos} {a b : Int} (h₁ : Ev C A env Γ e₁ false (.int a)) (h₂ : Ev C A env Γ e₂ false (.int b)) : Ev C A env Γ (.BinOp e₁ .Sub e₂ pos) μ (.int (a - b)) := ev_sub h₁ h₂
theorem e_neg {pos : Pos} {a : Int} (h : Ev C A env Γ e false (.int a)) : Ev C A env Γ (.UnaryOp .USub e pos) μ (.int (-a)) := ev_neg h
theorem e_addI {pos : Pos} {a b : Int} (h₁ : Ev C A env Γ e₁ false (.int a)) (h₂ : Ev C A env Γ e₂ false (.int b)) : Ev C A env Γ (.BinOp e₁ .Add e₂ pos) μ (.int (a + b)) := (ev_add h₁ h₂ rfl trivial).ofFlat rfl
theorem e_addS {pos : Pos} {a b : Str} (h₁ : Ev C A env Γ e₁ false (.str a)) (h₂ : Ev C A env Γ e₂ false (.str b)) (hz : a.length + b.length ≤ sizeLine) : Ev C A env Γ (.BinOp e₁ .Add e₂ pos) μ (.str (a ++ b)) := (ev_add h₁ h₂ rfl hz).ofFlat rfl
theorem e_addL {pos : Pos} {a b : List PyData} (h₁ : Ev C A env Γ e₁ μ (.list a)) (h₂ : Ev C A env Γ e₂ μ (.list b)) (hz : a.length + b.length ≤ sizeLine) : Ev C A env Γ (.BinOp e₁ .Add e₂ pos) μ (.list (a ++ b)) := ev_add h₁ h₂ rfl hz
theorem e_len {x : Str} {p pos : Pos} {n : Nat} (hb : Blt C env x (.builtin "len")) (h : Ev C A env Γ e false d) (hn : notStar e = true) (hd : lenD d = some n) (hz : n ≤ sizeLine) : Ev C A env Γ (.Call (.Name x p) [e] [] pos) μ (.int n) := ev_len hb h hn hd hz
theorem e_item {pos : Pos} {ds : List PyData} {k : Int} (h₁ : Ev C A env Γ e₁ μ d₁) (h₂ : Ev C A env Γ e₂ false (.int k)) (hd : itemsD d₁ = some ds) (h0 : 0 ≤ k) (hk : k < 2 ^ 63) (hx : ds[k.toNat]? = some d) : Ev C A env Γ (.Subscript e₁ e₂ pos) μ d := ev_item h₁ h₂ hd h0 hk hx
theorem e_split {ap cp : Pos} {x y : Str} (h₁ : Ev C A env Γ e₁ false (.str x)) (h₂ : Ev C A env Γ e₂ false (.str y)) (hb : attributeBase e₁ "split" env (eval e₁ env) = eval e₁ env) (hn : notStar e₂ = true) (hline : (ap.endLine == cp.line) = true) (hy : 1 ≤ y.length) (hz : x.length < sizeLine) :
    Ev C A env Γ (.Call (.Attribute e₁ "split" ap) [e₂] [] cp) μ (.list ((Txt.split x y).map .str)) := ev_split h₁ h₂ hb hn hline hy hz
theorem e_join {ap cp : Pos} {x : Str} {ts : List Str} (h₁ : Ev C A env Γ e₁ false (.str x)) (h₂ : Ev C A env Γ e₂ false (.list (ts.map .str))) (hb : attributeBase e₁ "join" env (eval e₁ env) = eval e₁ env) (hn : notStar e₂ = true) (hline : (ap.endLine == cp.line) = true)
    (hz : (ts.map (·.length)).sum + ts.length * x.length ≤ 16777216) : Ev C A env Γ (.Call (.Attribute e₁ "join" ap) [e₂] [] cp) μ (.str (Str.join x ts)) := ev_join h₁ h₂ hb hn hline hz
theorem e_starts {ap cp : Pos} {x y : Str} (h₁ : Ev C A env Γ e₁ false (.str x)) (h₂ : Ev C A env Γ e₂ false (.str y)) (hb : attributeBase e₁ "startswith" env (eval e₁ env) = eval e₁ env) (hn : notStar e₂ = true) (hline : (ap.endLine == cp.line) = true) :
    Ev C A env Γ (.Call (.Attribute e₁ "startswith" ap) [e₂] [] cp) μ (.bool (Txt.startswith x y)) := ev_starts h₁ h₂ hb hn hline
theorem c_bool {b : Bool} (h : Ev C A env Γ e false (.bool b)) (he : ∀ whole : Sem Value, isTrue e env whole = (do let v ← whole; standAt e.pos; holding [v] (truthy v))) : Cd C A env Γ e b := cd_bool h he
theorem c_is {op : CmpOp} {pos : Pos} {b : Bool} (h₁ : Ev C A env Γ e₁ false d₁) (h₂ : Ev C A env Γ e₂ false d₂) (hd : isD op d₁ d₂ = some b) (hm : behindInMarks op e₂ = false) : Cd C A env Γ (.Compare e₁ [op] [e₂] pos) b := cd_is h₁ h₂ hd hm
theorem c_type {op : CmpOp} {f t : Str} {T : String} {p q cp pos : Pos} {b : Bool} (hf : Blt C env f (.type "type")) (ht : Blt C env t (.type T)) (h : Ev C A env Γ e false d) (hn : notStar e = true) (hd : isT op (tyD d) T = some b) :
    Cd C A env Γ (.Compare (.Call (.Name f p) [e] [] cp) [op] [.Name t q] pos) b := cd_type hf ht h hn hd
theorem s_range {x : Str} {p pos : Pos} {n : Nat} (hA : A.handled = none) (hb : Blt C env x (.type "range")) (h : Ev C A env Γ e false (.int n)) (hn : notStar e = true) (hz : n ≤ sizeLine) : Src C A env Γ (.Call (.Name x p) [e] [] pos) n (fun i => .int i) := src_range hA hb h hn hz
theorem o_none : EvO C A env Γ none none := trivial
theorem o_some {i : Int} (h : Ev C A env Γ e false (.int i)) : EvO C A env Γ (some e) (some i) := ⟨false, h⟩
end
end

section
set_option autoImplicit false
set_option linter.unusedVariables false
open PySem PyProof.Rows PySem.W

theorem flat_get {α : Type} (f : α → List PyData) (l : List α) : (List.range l.length).flatMap (fun i => (l[i]?).elim [] f) = l.flatMap f := by
  induction l with
  | nil => rfl
  | cons a l ih =>
    rw [List.length_cons, List.range_succ_eq_map, List.flatMap_cons, List.flatMap_map, List.flatMap_cons]
    congr 1
theorem flat_one {α : Type} (f : α → PyData) (l : List α) : l.flatMap (fun a => [f a]) = l.map f := by
  induction l with
  | nil => rfl
  | cons a l ih => simp [ih]
theorem flat_if {α : Type} (p : α → Bool) (f : α → PyData) (l : List α) : l.flatMap (fun a => if p a then [f a] else []) = (l.filter p).map f := by
  induction l with
  | nil => rfl
  | cons a l ih =>
    rw [List.flatMap_cons, ih, List.filter_cons]
    cases p a <;> simp
theorem getD_map {α : Type} (f : α → PyData) {l : List α} {i : Nat} (h : i < l.length) : (l.map f).getD i .none = f l[i] := by
  rw [List.getD_eq_getElem?_getD, List.getElem?_map, List.getElem?_eq_getElem h]; rfl
theorem all_take_succ {α : Type} (p : α → Bool) {l : List α} {i : Nat} (h : i < l.length) : (l.take (i + 1)).all p = ((l.take i).all p && p l[i]) := by
  rw [List.take_add_one, List.getElem?_eq_getElem h, List.all_append]; simp
theorem all_false_of {α : Type} (p : α → Bool) {l : List α} {i : Nat} (h : i < l.length) (hp : p l[i] = false) : l.all p = false := by
  rw [List.all_eq_false]
  exact ⟨l[i], List.getElem_mem h, by simp [hp]⟩

section
variable {C : Cx} {A : Around} {scope : Scope} {env : Env} {Γ Γc : Tab} {target elt : Expr} {ifs : List Expr} {gens : List Comprehension} {pos : Pos} {dep : Nat} {L : Addr} {s₀ : Shared} {Z₀ : Addr → Prop} {d d₁ d₂ : PyData} {out : List PyData} {μ : Bool}

theorem turn_name {y : Str} {p : Pos} (b : Bool) (hy : isLoc (compEnv scope env L) y = true) (hO : Owned (compEnv scope env L) s₀.heap y) (hn : Γc.lookup y = none) (hna : (y == (".acc" : Str)) = false)
    (hc : ∀ ds, Cds C A (compEnv scope env L) ((y, .fz d) :: (".acc", .own ds) :: Γc) ifs b) (hf : b = false → out = [])
    (ht : ∀ ds, b = true → Inn C A (compEnv scope env L) s₀ Z₀ elt gens scope pos dep ((y, .fz d) :: (".acc", .own ds) :: Γc) out) :
    Turn C A scope env Γc (.Name y p) ifs elt gens pos dep L s₀ Z₀ d out := fun ds E => by
  have hna' : (".acc" : Str) ≠ y := by intro q; rw [q] at hna; simp at hna
  refine ⟨_, b, as_name hy hO, ?_, fun x e hx l => ?_, hc ds, hf, ht ds⟩
  · rw [lookup_cons_ne hna', lookup_cons_eq]
  · have hxy : x ≠ y := by rintro rfl; rw [hn] at l; cases l
    rw [lookup_cons_ne hxy, lookup_cons_ne hx]; exact l

theorem turn_pair {y z : Str} {p q r : Pos} {k n : Nat} (b : Bool) (hA : OkA A n) (hy : isLoc (compEnv scope env L) y = true) (hz : isLoc (compEnv scope env L) z = true) (hOy : Owned (compEnv scope env L) s₀.heap y) (hOz : Owned (compEnv scope env L) s₀.heap z)
    (hn : Γc.lookup y = none) (hn' : Γc.lookup z = none) (hna : (y == (".acc" : Str)) = false) (hnz : (z == (".acc" : Str)) = false)
    (hc : ∀ ds, Cds C A (compEnv scope env L) ((z, .fz d₂) :: (y, .fz d₁) :: (".acc", .own ds) :: Γc) ifs b) (hf : b = false → out = [])
    (ht : ∀ ds, b = true → Inn C A (compEnv scope env L) s₀ Z₀ elt gens scope pos dep ((z, .fz d₂) :: (y, .fz d₁) :: (".acc", .own ds) :: Γc) out) :
    Turn C A scope env Γc (.Tuple [.Name y p, .Name z q] k r) ifs elt gens pos dep L s₀ Z₀ (.tuple [d₁, d₂]) out := fun ds E => by
  have hna' : (".acc" : Str) ≠ y := by intro q; rw [q] at hna; simp at hna
  have hnz' : (".acc" : Str) ≠ z := by intro q; rw [q] at hnz; simp at hnz
  refine ⟨_, b, as_tuple hA (asl_cons (as_name hy hOy) (asl_cons (as_name hz hOz) asl_nil rfl) rfl), ?_, fun x e hx l => ?_, hc ds, hf, ht ds⟩
  · rw [lookup_cons_ne hnz', lookup_cons_ne hna', lookup_cons_eq]
  · have hxy : x ≠ y := by rintro rfl; rw [hn] at l; cases l
    have hxz : x ≠ z := by rintro rfl; rw [hn'] at l; cases l
    rw [lookup_cons_ne hxz, lookup_cons_ne hxy, lookup_cons_ne hx]; exact l

/-- a comprehension over a list: what it gives -/
theorem e_comp {α : Type} {iter : Expr} (l : List α) (dat : α → PyData) (f : α → List PyData) (D : CompDef scope env) (src : Src C A env Γ iter l.length (fun i => (l.map dat).getD i .none)) (hs : ∀ x, foldedSetIterable iter env x = pure x) (hsz : (l.flatMap f).length ≤ sizeLine)
    (turn : ∀ L s₀ Z₀ a, OwnC scope env L s₀ → a ∈ l → Turn C A scope env (capT scope.names Γ) target ifs elt (⟨target, iter, ifs, 0⟩ :: gens) pos 0 L s₀ Z₀ (dat a) (f a)) :
    Ev C A env Γ (.ListComp elt (⟨target, iter, ifs, 0⟩ :: gens) scope pos) μ (.list (l.flatMap f)) := by
  have := ev_comp (μ := μ) (elt := elt) (target := target) (ifs := ifs) (gens := gens) (pos := pos) D src hs (fun i => (l[i]?).elim [] f) (by rw [flat_get]; exact hsz) fun L s₀ Z₀ i own hi => by
    rw [getD_map dat hi, List.getElem?_eq_getElem hi]
    exact turn L s₀ Z₀ l[i] own (List.getElem_mem hi)
  rwa [flat_get] at this
end

/-- the table holds these entries -/
def Has (Γ Γe : Tab) : Prop := ∀ x e, Γe.lookup x = some e → Γ.lookup x = some e
theorem Has.refl (Γ : Tab) : Has Γ Γ := fun _ _ h => h
theorem Has.nil (Γ : Tab) : Has Γ [] := fun _ _ h => by cases h
theorem Has.add {Γ Γe : Tab} {x : Str} {e : Ent} (h : Γ.lookup x = some e) (hs : Has Γ Γe) : Has Γ ((x, e) :: Γe) := fun y e' l => by
  by_cases hy : y = x
  · subst hy; rw [lookup_cons_eq] at l; rw [h, l]
  · rw [lookup_cons_ne hy] at l; exact hs y e' l
theorem Has.cons {Γ Γe : Tab} {x : Str} {e : Ent} (hs : Has Γ Γe) : Has ((x, e) :: Γ) ((x, e) :: Γe) := fun y e' l => by
  by_cases hy : y = x
  · subst hy; rw [lookup_cons_eq] at l ⊢; exact l
  · rw [lookup_cons_ne hy] at l ⊢; exact hs y e' l
theorem ex_has {C : Cx} {A : Around} {env : Env} {s₀ : Shared} {Z₀ : Addr → Prop} {E : Value → Shared → Prop} {Γ Γe : Tab} {ss : List Stmt} {Post : Out → Prop} (hs : Has Γ Γe) (h : Ex C A env s₀ Z₀ E Γe ss Post) : Ex C A env s₀ Z₀ E Γ ss Post := ex_sub hs h

/-- branches that meet again -/
def joinP (J : Tab → Prop) (Post : Out → Prop) : Out → Prop
  | .next Γ => J Γ
  | o => Post o
theorem ex_join {C : Cx} {A : Around} {env : Env} {s₀ : Shared} {Z₀ : Addr → Prop} {E : Value → Shared → Prop} {Γ : Tab} {st : Stmt} {rest : List Stmt} {Post : Out → Prop} (J : Tab → Prop) (h : Xs C A env s₀ Z₀ E Γ st (joinP J Post)) (hr : ∀ Γ', J Γ' → Ex C A env s₀ Z₀ E Γ' rest Post) :
    Ex C A env s₀ Z₀ E Γ (st :: rest) Post :=
  ex_cons fun H V s S => wpAny_mono (h H V s S) (fun fl s' ⟨sm, o, p, ok⟩ => ⟨sm, o, by cases o <;> first | exact hr _ p | exact p, ok⟩) fun _ _ x => x
end

section
open PySem PySem.W PyProof.Rows
set_option Elab.async false
set_option maxRecDepth 100000
set_option maxHeartbeats 8000000
open_top hd1 for PySem.Challenge.rw_sx_yaugur_1
end

section
set_option autoImplicit false
set_option linter.unusedVariables false
set_option maxRecDepth 100000
open PySem PyProof.Rows PySem.W

theorem fnDef_of {C : Cx} {f : Addr} {o : Obj} {fd : FuncData} {ps : List Str} {body : List Stmt} (ho : C.K.lookup f = some o) (hd : o.data = .func fd) (hc : codeIn C.K fd.code fd.qualname = true) (hb : fd.body = .stmts body) (h1 : fd.closure = []) (h2 : fd.globals = mainGlobals) (h3 : fd.builtins = builtinsNs)
    (h4 : ∀ vs : List Value, vs.length = ps.length → bindArgs fd ⟨vs, []⟩ = pure (ps.zip vs)) (h5 : ps.Nodup)
    (h6 : (ps.all fun x => fd.scope.names.lookup x == some .local || (fd.scope.names.lookup x == some .cell && ((cellsFrom 0 fd.scope.names []).lookup x).isSome)) = true)
    (h7 : ((cellsFrom 0 fd.scope.names []).all fun p => fd.scope.names.lookup p.1 != some .local) = true) (h8 : fd.scope.isCoroutine = false) (h9 : fd.scope.isGenerator = false) (h10 : fd.scope.kind = .function) (h11 : fd.scope.names.lookup (".acc" : Str) = none) : FnDef C f fd ps body :=
  ⟨⟨o, ho, hd⟩, fun h B => codeRec_of B.k hc, hb, h1, h2, h3, h4, h5, h6, h7, h8, h9, h10, h11⟩


noncomputable abbrev C1 (prog : Program) (w : World) (mg mb : Str → Option Value) (P : Params) : Cx := ⟨prog, w, mg, mb, hd1.heap_39 P⟩

structure G1 (prog : Program) (w : World) (mg mb : Str → Option Value) (P : Params) : Prop where
  base : ∃ h, Base (C1 prog w mg mb P) h
  blt : ∀ x : Str, x ≠ "__name__" → mb x = bootBuiltins x

section
variable {prog : Program} {w : World} {mg mb : Str → Option Value} {P : Params}
theorem G1.at (G : G1 prog w mg mb P) {x : Str} {v : Value} (e : nsIn (hd1.heap_39 P) mainGlobals x = some (some v)) : mg x = some v :=
  let ⟨_, B⟩ := G.base; mg_of B.k B.g e
theorem G1.no (G : G1 prog w mg mb P) {x : Str} (e : nsIn (hd1.heap_39 P) mainGlobals x = some none) : mg x = none :=
  let ⟨_, B⟩ := G.base; ns_none_of B.k B.g e
theorem G1.b (G : G1 prog w mg mb P) {env : Env} {x : Str} {v : Value} (h1 : isGlob env x = true) (h2 : nsIn (hd1.heap_39 P) mainGlobals x = some none) (h3 : bootBuiltins x = some v) (h4 : x ≠ "__name__") : Blt (C1 prog w mg mb P) env x v :=
  ⟨h1, G.no h2, (G.blt x h4).trans h3⟩
end
end

section
set_option autoImplicit false
set_option linter.unusedVariables false
set_option maxRecDepth 100000
open PySem PyProof.Rows PySem.W

abbrev Rule := Str × List Str
def sD (l : List Str) : PyData := .list (l.map .str)
def rD (r : Rule) : PyData := .tuple [.str r.1, sD r.2]
def gD (g : List Rule) : PyData := .list (g.map rD)

def symOk (s : Str) : Bool := !(s == "" || (s == "$" || (s == "->" || false))) && !(hasSub " " s || (hasSub "\n" s || false))
def ruleOk (r : Rule) : Bool := (r.1 :: r.2).all symOk
def okG (g : List Rule) : Bool := !(g.length == 0) && g.all ruleOk

section
variable {prog : Program} {w : World} {mg mb : Str → Option Value} {P : Params}
theorem fn_grammar_ok (G : G1 prog w mg mb P) {k : Nat} (g : List Rule) (hg : g.length ≤ 1000) (hr : ∀ r ∈ g, r.2.length ≤ 1000) : FnOk (C1 prog w mg mb P) (k + 1) 34 [gD g] (.bool (okG g)) := by
  refine fn_intro (ps := ["g"]) (fnDef_of rfl rfl rfl rfl rfl rfl rfl (by ((intro vs h; rcases vs with _ | ⟨_, _ | ⟨_, _ | ⟨_, _ | ⟨_, _ | ⟨_, _ | ⟨_, _⟩⟩⟩⟩⟩⟩ <;> first | rfl | (simp at h; done)))) (by decide) rfl rfl rfl rfl rfl rfl) rfl fun A L s₀ Z₀ E hA hO hF => ?_
  have hsz : g.length ≤ sizeLine := Nat.le_trans hg (by decide)
  refine ex_cons (xs_if (c_eqI hA (e_len (n := g.length) (G.b rfl rfl PyProof.Rows.Boot.«len» (by decide)) (ev_var rfl rfl) rfl (by simp [lenD, gD]) hsz) (ev_int 0)) (fun hb => ?_) (fun hb => ?_))
  · refine ex_cons (xs_return (ev_bool false) ?_)
    have : g.length = 0 := by simpa using hb
    show Out.ret _ = Out.ret _
    simp [okG, this]
  · have hne : (g.length == 0) = false := by simpa using hb
    refine ex_nil ?_
    refine ex_cons (xs_for (k := 0) (fun i _ => (g.take i).all ruleOk = true) (src_list hA.hd (ev_var rfl rfl)) (fun _ => rfl) (by simp) (fun i Γ' hi hJ => ?_) (fun Γ' hJ => ?_))
    · have hi' : i < g.length := by simpa using hi
      rw [getD_map rD hi']
      have hr' : g[i].2.length ≤ 1000 := hr _ (List.getElem_mem hi')
      refine ⟨_, as_name rfl (hO _), ?_⟩
      refine ex_cons (xs_for (k := 0) (fun j _ => ((g[i].1 :: g[i].2).take j).all symOk = true)
        (src_list (ds := (g[i].1 :: g[i].2).map .str) hA.hd ((e_addL (ev_list (evs_cons (e_item (ev_var rfl rfl) (ev_int 0) rfl (by decide) (by decide) rfl) evs_nil rfl) (by show 1 ≤ sizeLine; decide)) (e_item (ev_var rfl rfl) (ev_int 1) rfl (by decide) (by decide) rfl) ?_).cast rfl)) (fun _ => rfl) (by simp) (fun j Γ'' hj hJ' => ?_) (fun Γ'' hJ' => ?_))
      · have : sizeLine = 16777216 := rfl
        simp; omega
      · have hj' : j < (g[i].1 :: g[i].2).length := by simpa using hj
        rw [getD_map PyData.str hj']
        refine ⟨_, as_name rfl (hO _), ?_⟩
        have fin : symOk (g[i].1 :: g[i].2)[j] = false → okG g = false := fun q => by
          have h1 : ruleOk g[i] = false := all_false_of symOk hj' q
          have h2 := all_false_of ruleOk hi' h1
          simp [okG, h2]
        refine ex_cons (xs_if (cd_or (c_eqS hA (ev_var rfl rfl) (ev_str _ (strOk_ofString _))) fun _ => cd_or (c_eqS hA (ev_var rfl rfl) (ev_str _ (strOk_ofString _))) fun _ => cd_or (c_eqS hA (ev_var rfl rfl) (ev_str _ (strOk_ofString _))) fun _ => cd_or0) (fun hb1 => ?_) (fun hb1 => ?_))
        · refine ex_cons (xs_return (ev_bool false) ?_)
          show Out.ret _ = Out.ret _
          rw [fin (by unfold symOk; rw [hb1]; rfl)]
        · refine ex_nil ?_
          refine ex_cons (xs_if (cd_or (c_inS hA (ev_str _ (strOk_ofString _)) (ev_var rfl rfl) rfl) fun _ => cd_or (c_inS hA (ev_str _ (strOk_ofString _)) (ev_var rfl rfl) rfl) fun _ => cd_or0) (fun hb2 => ?_) (fun hb2 => ?_))
          · refine ex_cons (xs_return (ev_bool false) ?_)
            show Out.ret _ = Out.ret _
            rw [fin (by unfold symOk; rw [hb1, hb2]; rfl)]
          · refine ex_nil (ex_nil ?_)
            show List.all _ _ = true
            rw [all_take_succ symOk hj', hJ', Bool.true_and]
            unfold symOk; rw [hb1, hb2]; rfl
      · refine ex_nil ?_
        show List.all _ _ = true
        rw [all_take_succ ruleOk hi', hJ, Bool.true_and]
        simpa [ruleOk] using hJ'
    · refine ex_cons (xs_return (ev_bool true) ?_)
      show Out.ret _ = Out.ret _
      have : g.all ruleOk = true := by simpa using hJ
      simp [okG, this, hne]
end
end

section
set_option autoImplicit false
set_option linter.unusedVariables false
set_option maxRecDepth 100000
open PySem PyProof.Rows PySem.W

def lineOf (r : Rule) : Str := Str.join " " (r.1 :: "->" :: r.2)
structure Small (g : List Rule) : Prop where
  len : g.length ≤ 1000
  hd : ∀ r ∈ g, r.1.length ≤ 1000
  bl : ∀ r ∈ g, r.2.length ≤ 1000
  sy : ∀ r ∈ g, ∀ s ∈ r.2, s.length ≤ 1000
theorem sum_le {l : List Str} {n : Nat} (h : ∀ s ∈ l, s.length ≤ n) : (l.map (·.length)).sum ≤ l.length * n := by
  induction l with
  | nil => simp
  | cons a l ih =>
    have h1 := h a List.mem_cons_self
    have h2 := ih fun s hs => h s (List.mem_cons_of_mem _ hs)
    simp only [List.map_cons, List.sum_cons, List.length_cons, Nat.succ_mul]; omega

section
variable {prog : Program} {w : World} {mg mb : Str → Option Value} {P : Params}
theorem fn_grammar_text (G : G1 prog w mg mb P) {k : Nat} (g : List Rule) (hg : Small g) : FnOk (C1 prog w mg mb P) (k + 1) 39 [gD g] (sD (g.map lineOf)) := by
  refine fn_intro (ps := ["g"]) (fnDef_of rfl rfl rfl rfl rfl rfl rfl (by ((intro vs h; rcases vs with _ | ⟨_, _ | ⟨_, _ | ⟨_, _ | ⟨_, _ | ⟨_, _ | ⟨_, _⟩⟩⟩⟩⟩⟩ <;> first | rfl | (simp at h; done)))) (by decide) rfl rfl rfl rfl rfl rfl) rfl fun A L s₀ Z₀ E hA hO hF => ?_
  have hsl : sizeLine = 16777216 := rfl
  have h1 := hg.len
  refine ex_cons (xs_return ((e_comp g rD (fun r => [.str (lineOf r)]) ⟨rfl, rfl, rfl, rfl⟩ ((src_list hA.hd (ev_var rfl rfl)).cast (by simp) rfl) (fun _ => rfl) (by rw [flat_one]; simp; omega) fun L s₀ Z₀ r own hr => ?_).cast ?_) rfl)
  · refine turn_name true rfl (own _ rfl) rfl rfl (fun ds => rfl) (fun q => by cases q) (fun ds _ => inn_emit rfl ?_)
    have hr1 := hg.hd r hr
    have hr2 := hg.bl r hr
    have hr3 := sum_le (hg.sy r hr)
    have hr4 : r.2.length * 1000 ≤ 1000 * 1000 := Nat.mul_le_mul_right _ hr2
    refine e_join (ts := r.1 :: "->" :: r.2) (ev_str _ (strOk_ofString _)) ((e_addL (ev_list (evs_cons (e_item (ev_var rfl rfl) (ev_int 0) rfl (by decide) (by decide) rfl) (evs_cons (ev_str _ (strOk_ofString _)) evs_nil rfl) rfl) (by show 2 ≤ sizeLine; decide)) (e_item (ev_var rfl rfl) (ev_int 1) rfl (by decide) (by decide) rfl) ?_).cast rfl) rfl rfl rfl ?_
    · simp; omega
    · have e1 : (Str.ofString "->").length = 2 := by decide
      have e2 : (Str.ofString " ").length = 1 := by decide
      simp only [List.map_cons, List.sum_cons, List.length_cons, e1, e2]; omega
  · show PyData.list _ = PyData.list _
    rw [flat_one, List.map_map]; rfl
end
end

section
set_option autoImplicit false
set_option linter.unusedVariables false
set_option maxRecDepth 100000
open PySem PyProof.Rows PySem.W

def wordsOf (l : Str) : List Str := Txt.split l " "
def shapeOk (l : Str) : Bool := !(decide ((wordsOf l).length < 2) || (!((wordsOf l)[1]?.getD ("" : Str) == ("->" : Str)) || false))
def parse (l : Str) : Rule := ((wordsOf l)[0]?.getD ("" : Str), (wordsOf l).drop 2)
def msgAt (i : Nat) : Str := catAll Str.empty ["line ", Str.ofString (toString ((i : Int) + 1)), ": the second word is not ->"]
def msgBad : Str := "there is no rule, or a symbol is empty, $ or ->, or holds a newline"
structure SmallL (ls : List Str) : Prop where
  len : ls.length ≤ 30
  ln : ∀ l ∈ ls, l.length ≤ 900

theorem excAt1 {P : Params} : ExcAtK (hd1.heap_39 P) 24 := fun h hk => by
  refine ⟨_, _, _, _, _, _, _, _, _, _, _, _, _, _, _, _, hk 24 _ rfl, .of_isNs (isNs_of_in (K := hd1.heap_39 P) hk (by kernel_rfl)), ?_, ?_⟩
  · exact nsMap_none_of_in (K := hd1.heap_39 P) hk (by kernel_rfl) (by kernel_rfl)
  · exact nsMap_none_of_in (K := hd1.heap_39 P) hk (by kernel_rfl) (by kernel_rfl)
end

section
set_option autoImplicit false
set_option linter.unusedVariables false
set_option maxRecDepth 100000
open PySem PyProof.Rows PySem.W

theorem mem_sum {l : List Str} {s : Str} (h : s ∈ l) : s.length ≤ (l.map (·.length)).sum := by
  induction l with
  | nil => cases h
  | cons a l ih =>
    rcases List.mem_cons.mp h with rfl | h
    · simp only [List.map_cons, List.sum_cons]; omega
    · have := ih h; simp only [List.map_cons, List.sum_cons]; omega
theorem words_small {l : Str} (h : l.length ≤ 900) : (wordsOf l).length ≤ 901 ∧ ∀ s ∈ wordsOf l, s.length ≤ 901 := by
  have := split_weight l " " (by decide)
  unfold wordsOf
  refine ⟨by omega, fun s hs => ?_⟩
  have := mem_sum hs
  omega
theorem get_or {l : List Str} {i : Nat} (h : i < l.length) : l[i]?.getD ("" : Str) = l[i] := by
  rw [List.getElem?_eq_getElem h]; rfl
theorem parse_small {ls : List Str} (h : SmallL ls) : Small (ls.map parse) where
  len := by have := h.len; simp; omega
  hd := fun r hr => by
    obtain ⟨l, hl, rfl⟩ := List.mem_map.mp hr
    obtain ⟨h1, h2⟩ := words_small (h.ln l hl)
    show ((wordsOf l)[0]?.getD ("" : Str)).length ≤ 1000
    cases q : (wordsOf l)[0]? with
    | none => exact (by decide : (("" : Str).length : Nat) ≤ 1000)
    | some x => have := h2 x (List.mem_of_getElem? q); simp only [Option.getD_some]; omega
  bl := fun r hr => by
    obtain ⟨l, hl, rfl⟩ := List.mem_map.mp hr
    obtain ⟨h1, h2⟩ := words_small (h.ln l hl)
    show ((wordsOf l).drop 2).length ≤ 1000
    rw [List.length_drop]; omega
  sy := fun r hr s hs => by
    obtain ⟨l, hl, rfl⟩ := List.mem_map.mp hr
    obtain ⟨h1, h2⟩ := words_small (h.ln l hl)
    have := h2 s (List.mem_of_mem_drop hs); omega
theorem sliceD_from (ds : List PyData) (n : Nat) (h : n ≤ ds.length) : sliceD ds (some (n : Int)) none = ds.drop n := by
  unfold sliceD
  have : (some (n : Int)).elim 0 (clipAt ds.length) = n := by
    show clipAt ds.length (n : Int) = n
    unfold clipAt
    split <;> omega
  rw [this]
  show (ds.drop n).take (ds.length - n) = ds.drop n
  rw [List.take_of_length_le]; rw [List.length_drop]; exact Nat.le_refl _

theorem digits_small : ∀ i : Nat, i < 31 → (Str.ofString (toString ((i : Int) + 1))).length ≤ 10 := by decide +kernel

def RetG (lines : List Str) (d : PyData) : Prop := (∀ l ∈ lines, shapeOk l = true) ∧ okG (lines.map parse) = true ∧ d = gD (lines.map parse)
def RzG (lines : List Str) (msg : Str) : Prop :=
  (∃ i, ∃ h : i < lines.length, (∀ j (hj : j < i), shapeOk (lines[j]'(by omega)) = true) ∧ shapeOk lines[i] = false ∧ msg = msgAt i) ∨ ((∀ l ∈ lines, shapeOk l = true) ∧ okG (lines.map parse) = false ∧ msg = msgBad)
section
variable {prog : Program} {w : World} {mg mb : Str → Option Value} {P : Params}
theorem fn_gft (G : G1 prog w mg mb P) {k : Nat} (lines : List Str) (hs : SmallL lines) :
    (∀ d, (∀ d', RetG lines d' → d' = d) → (∀ msg, ¬ RzG lines msg) → FnOk (C1 prog w mg mb P) (k + 1 + 1) 46 [sD lines] d) ∧ (∀ msg, (∀ d, ¬ RetG lines d) → (∀ msg', RzG lines msg' → msg' = msg) → FnRz (C1 prog w mg mb P) (k + 1 + 1) 46 [sD lines] 24 msg) := by
  refine fn_any (ps := ["lines"]) (fnDef_of rfl rfl rfl rfl rfl rfl rfl (by ((intro vs h; rcases vs with _ | ⟨_, _ | ⟨_, _ | ⟨_, _ | ⟨_, _ | ⟨_, _ | ⟨_, _⟩⟩⟩⟩⟩⟩ <;> first | rfl | (simp at h; done)))) (by decide) rfl rfl rfl rfl rfl rfl) rfl fun A L s₀ Z₀ E hA hO hF hE hE' => ?_
  have hsl : sizeLine = 16777216 := rfl
  have hlen := hs.len
  refine ex_cons (xs_new rfl (hO _) ?_)
  refine ex_cons (xs_for (k := 0) (fun i Γ' => (∀ j (hj : j < i) (hl : j < lines.length), shapeOk lines[j] = true) ∧ Has Γ' [("g", .own ((lines.take i).map fun l => rD (parse l))), ("lines", .fz (sD lines))])
    (s_range (n := lines.length) hA.hd (G.b rfl rfl PyProof.Rows.Boot.«range» (by decide)) (e_len (n := lines.length) (G.b rfl rfl PyProof.Rows.Boot.«len» (by decide)) (ev_var rfl rfl) rfl (by simp [lenD, sD]) (by omega)) rfl (by omega)) (fun _ => rfl) ⟨fun j hj => by omega, Has.refl _⟩ (fun i Γ' hi hJ => ?_) (fun Γ' hJ => ?_))
  · obtain ⟨hJ1, hJ2⟩ := hJ
    refine ⟨_, as_name rfl (hO _), ex_has hJ2.cons ?_⟩
    have hli := hs.ln _ (List.getElem_mem hi)
    obtain ⟨hw1, hw2⟩ := words_small hli
    refine ex_cons (xs_assign (e_split (x := lines[i]) (e_item (ev_var rfl rfl) (ev_var rfl rfl) rfl (by omega) (by omega) (by simp [hi])) (ev_str _ (strOk_ofString _)) rfl rfl rfl (by decide) (by omega)) rfl (hO _) rfl ?_)
    have hshape : shapeOk lines[i] = !(decide (((wordsOf lines[i]).length : Int) < 2) || (!((wordsOf lines[i])[1]?.getD ("" : Str) == ("->" : Str)) || false)) := by
      unfold shapeOk; congr 2; simp only [decide_eq_decide]; omega
    refine ex_cons (xs_if (cd_or (c_lt hA (e_len (n := (wordsOf lines[i]).length) (G.b rfl rfl PyProof.Rows.Boot.«len» (by decide)) (ev_var rfl rfl) rfl (by simp [lenD, wordsOf]) (by omega)) (ev_int 2)) fun hb => cd_or (c_neS hA (e_item (d := .str ((wordsOf lines[i])[1]?.getD ("" : Str))) (ev_var rfl rfl) (ev_int 1) rfl (by decide) (by decide) ?_) (ev_str _ (strOk_ofString _))) fun _ => cd_or0) (fun hb => ?_) (fun hb => ?_))
    · have h2 : 1 < (wordsOf lines[i]).length := by
        have := of_decide_eq_false hb; omega
      show ((wordsOf lines[i]).map PyData.str)[1]? = _
      rw [List.getElem?_map, List.getElem?_eq_getElem h2]; rfl
    · have hbad : shapeOk lines[i] = false := by rw [hshape, hb]; rfl
      refine ex_cons (xs_raise hA rfl (G.at rfl) excAt1 (ev_fstr (xs := ["line ", Str.ofString (toString ((i : Int) + 1)), ": the second word is not ->"]) ⟨ev_str _ (strOk_ofString _), ev_field_int (μ := false) (e_addI (ev_var rfl rfl) (ev_int 1)) (by omega), ev_str _ (strOk_ofString _), trivial⟩ ?_) rfl (hE' _ (.inl ⟨i, hi, fun j hj => hJ1 j hj _, hbad, rfl⟩)))
      have h1 := digits_small i (by omega)
      have h2 : (Str.ofString "line ").length = 5 := by decide
      have h3 : (Str.ofString ": the second word is not ->").length = 27 := by decide
      simp only [List.map_cons, List.map_nil, List.sum_cons, List.sum_nil, h2, h3]; omega
    · have hok : shapeOk lines[i] = true := by rw [hshape, hb]; rfl
      have h2 : 2 ≤ (wordsOf lines[i]).length := by
        have := of_decide_eq_false (Bool.or_eq_false_iff.mp hb).1
        omega
      refine ex_nil ?_
      refine ex_cons (xs_append rfl rfl ?_ (ev_tuple (evs_cons (e_item (d := .str ((wordsOf lines[i])[0]?.getD ("" : Str))) (ev_var rfl rfl) (ev_int 0) rfl (by decide) (by decide) ?_) (evs_cons (ev_slice (ev_var rfl rfl) (o_some (ev_int 2)) o_none ?_) evs_nil rfl) rfl) (by show 2 ≤ sizeLine; decide)) rfl rfl rfl ?_)
      · simp only [List.length_map, List.length_take]; omega
      · have h2 : 0 < (wordsOf lines[i]).length := by omega
        show ((wordsOf lines[i]).map PyData.str)[0]? = _
        rw [List.getElem?_map, List.getElem?_eq_getElem h2]; rfl
      · show ((wordsOf lines[i]).map PyData.str).length ≤ _
        rw [List.length_map]; omega
      · refine ex_nil ⟨fun j hj hl => ?_, Has.add ?_ (Has.add rfl (Has.nil _))⟩
        · rcases Nat.lt_or_ge j i with q | q
          · exact hJ1 j q hl
          · have : j = i := by omega
            subst this; exact hok
        · show some (Ent.own _) = some (Ent.own _)
          congr 2
          rw [List.take_add_one, List.getElem?_eq_getElem hi, List.map_append]
          congr 1
          show [_] = [_]
          congr 1
          unfold rD parse
          have h3 := sliceD_from ((wordsOf lines[i]).map PyData.str) 2 (by rw [List.length_map]; omega)
          show PyData.tuple [PyData.str _, PyData.list (sliceD ((wordsOf lines[i]).map PyData.str) (some ((2 : Nat) : Int)) none)] = _
          rw [h3, ← List.map_drop]; rfl
  · obtain ⟨hJ1, hJ2⟩ := hJ
    have hall : ∀ l ∈ lines, shapeOk l = true := fun l hl => by
      obtain ⟨j, hj, rfl⟩ := List.getElem_of_mem hl
      exact hJ1 j hj hj
    rw [List.take_length] at hJ2
    refine ex_has hJ2 ?_
    have hsm := parse_small hs
    have hgd : PyData.list (lines.map fun l => rD (parse l)) = gD (lines.map parse) := by unfold gD; rw [List.map_map]; rfl
    refine ex_cons (xs_if (cd_not (c_bool (b := okG (lines.map parse)) ((ev_call (μ := false) hA rfl (G.at rfl) rfl rfl (evs_cons ((ev_own rfl rfl).cast hgd) evs_nil rfl) rfl (fn_grammar_ok G _ hsm.len hsm.bl)).ofFlat rfl) (fun _ => rfl))) (fun hb => ?_) (fun hb => ?_))
    · have hbad : okG (lines.map parse) = false := by simpa using hb
      exact ex_cons (xs_raise hA rfl (G.at rfl) excAt1 (ev_str _ (strOk_ofString _)) rfl (hE _ (.inr ⟨hall, hbad, rfl⟩)))
    · have hok : okG (lines.map parse) = true := by simpa using hb
      refine ex_nil (ex_freeze (x := "g") rfl (ex_cons (xs_return (ev_var rfl rfl) ⟨_, ⟨hall, hok, rfl⟩, ?_⟩)))
      rw [hgd]
end
end

section
set_option autoImplicit false
set_option linter.unusedVariables false
set_option maxRecDepth 100000
open PySem PyProof.Rows PySem.W

def goodT : List Str := ["S", "E", "x", "+", "n", "-", ">", "$x", "->>", "\t", "<-", "("]
def stT : List (Str × List Str × Int × Int × Bool) := [("", [""], -1, -1, false), ("$", ["$"], -1, -1, false), ("->", ["->"], -1, -1, false), ("a\nb", ["a\nb"], -1, -1, false), ("\n", ["\n"], -1, -1, false), (" ", ["", ""], 1, -1, false),
  ("a b", ["a", "b"], 1, 0, false), ("$$", ["$$"], 0, 0, true), ("->->", ["->->"], 0, 0, true), ("a\tb", ["a\tb"], 0, 0, true)]
def dmT : List (Str × Str × Int × Str × List Str) := [("", " ->", 0, "", []), ("$", " ->", 0, "", []), ("", "\t ->", 0, "\t", []), ("", " -> ->>", 0, "", ["->>"]), ("->", " ->", 0, "", []), (" ", " ->", 1, "", []), ("", "->", 1, "", []), ("", "", 1, "", []), ("", "  ->", 1, "", []),
  ("", " -> ->", -1, "", []), ("", " -> ", -1, "", []), ("", "\n ->", -1, "", [])]
def stD (r : Str × List Str × Int × Int × Bool) : PyData := .tuple [.str r.1, sD r.2.1, .int r.2.2.1, .int r.2.2.2.1, .bool r.2.2.2.2]
def dmD (r : Str × Str × Int × Str × List Str) : PyData := .tuple [.str r.1, .str r.2.1, .int r.2.2.1, .str r.2.2.2.1, sD r.2.2.2.2]


section
variable {prog : Program} {w : World} {mg mb : Str → Option Value} {P : Params}
theorem top_good : TopD (C1 prog w mg mb P) (.ref 47) (.tuple (goodT.map .str)) := by (repeat (first | exact TopD.none | exact TopD.bool _ | exact TopD.int _ _ | exact TopD.str _ _ (strOk_ofString _) | exact TopDs.nil | refine TopDs.cons ?_ ?_ | refine TopD.tuple rfl ?_ | refine TopD.list rfl ?_))
theorem top_stains : TopD (C1 prog w mg mb P) (.ref 68) (.tuple (stT.map stD)) := by (repeat (first | exact TopD.none | exact TopD.bool _ | exact TopD.int _ _ | exact TopD.str _ _ (strOk_ofString _) | exact TopDs.nil | refine TopDs.cons ?_ ?_ | refine TopD.tuple rfl ?_ | refine TopD.list rfl ?_))
theorem top_damages : TopD (C1 prog w mg mb P) (.ref 93) (.tuple (dmT.map dmD)) := by (repeat (first | exact TopD.none | exact TopD.bool _ | exact TopD.int _ _ | exact TopD.str _ _ (strOk_ofString _) | exact TopDs.nil | refine TopDs.cons ?_ ?_ | refine TopD.tuple rfl ?_ | refine TopD.list rfl ?_))
end
end

section
set_option autoImplicit false
set_option linter.unusedVariables false
set_option maxRecDepth 100000
open PySem PyProof.Rows PySem.W

theorem sliceD_to (ds : List PyData) (j : Int) (h : 0 ≤ j) : sliceD ds none (some j) = ds.take j.toNat := by
  unfold sliceD
  show (ds.drop 0).take (clipAt ds.length j - 0) = ds.take j.toNat
  rw [List.drop_zero, Nat.sub_zero]
  unfold clipAt
  split
  · omega
  · rcases Nat.le_total j.toNat ds.length with q | q
    · congr 1; omega
    · rw [List.take_of_length_le (by omega), List.take_of_length_le (by omega)]

def idx (a : Int) (n : Nat) : Nat := (a.fmod n).toNat
theorem idx_lt (a : Int) {n : Nat} (h : 0 < n) : idx a n < n := by
  unfold idx
  have h1 := Int.fmod_nonneg_of_pos a (b := n) (by omega)
  have h2 := Int.fmod_lt_of_pos a (b := n) (by omega)
  omega
theorem fmod_idx (a : Int) {n : Nat} (h : 0 < n) : a.fmod n = (idx a n : Int) := by
  unfold idx
  have h1 := Int.fmod_nonneg_of_pos a (b := n) (by omega)
  omega
def good (a : Int) : Str := goodT[idx a 12]?.getD ""
def ruleOf (h n a b c : Int) : Rule := (good h, [good a, good b, good c].take (idx n 4))
def lawLine (f : Str) (b : List Str) : Str := b.foldl (fun l s => l ++ " " ++ s) f

section
variable {prog : Program} {w : World} {mg mb : Str → Option Value} {P : Params}

theorem ev_good (G : G1 prog w mg mb P) {A : Around} {env : Env} {Γ : Tab} {e : Expr} {μ : Bool} {p q r : Pos} {c : Nat} {cp : Pos} {a : Int} (hg : isGlob env "_law_GOOD" = true) (h : Ev (C1 prog w mg mb P) A env Γ e false (.int a)) :
    Ev (C1 prog w mg mb P) A env Γ (.Subscript (.Name "_law_GOOD" p) (.BinOp e .Mod (.Constant (.int 12) c cp) q) r) μ (.str (good a)) := by
  have h1 := Int.fmod_nonneg_of_pos a (b := 12) (by omega)
  have h2 := Int.fmod_lt_of_pos a (b := 12) (by omega)
  refine e_item (ev_glob hg (G.at rfl) top_good) (e_mod h (ev_int 12) (by decide)) rfl h1 (by omega) ?_
  have h3 : (a.fmod 12).toNat < goodT.length := by show (a.fmod 12).toNat < 12; omega
  rw [List.getElem?_map, List.getElem?_eq_getElem h3]
  unfold good idx
  show _ = some (PyData.str (goodT[(a.fmod 12).toNat]?.getD ""))
  rw [List.getElem?_eq_getElem h3]; rfl

theorem fn_law_rule (G : G1 prog w mg mb P) {k : Nat} (h n a b c : Int) : FnOk (C1 prog w mg mb P) (k + 1) 100 [.int h, .int n, .int a, .int b, .int c] (rD (ruleOf h n a b c)) := by
  refine fn_intro (ps := ["head", "size", "a", "b", "c"]) (fnDef_of rfl rfl rfl rfl rfl rfl rfl (by ((intro vs h; rcases vs with _ | ⟨_, _ | ⟨_, _ | ⟨_, _ | ⟨_, _ | ⟨_, _ | ⟨_, _⟩⟩⟩⟩⟩⟩ <;> first | rfl | (simp at h; done)))) (by decide) rfl rfl rfl rfl rfl rfl) rfl fun A L s₀ Z₀ E hA hO hF => ?_
  refine ex_cons (xs_assign (ev_list (evs_cons (ev_good G rfl (ev_var rfl rfl)) (evs_cons (ev_good G rfl (ev_var rfl rfl)) (evs_cons (ev_good G rfl (ev_var rfl rfl)) evs_nil rfl) rfl) rfl) (by show 3 ≤ sizeLine; decide)) rfl (hO _) rfl ?_)
  refine ex_cons (xs_return (ev_tuple (evs_cons (ev_good G rfl (ev_var rfl rfl)) (evs_cons (ev_slice (ev_var rfl rfl) o_none (o_some (e_mod (ev_var rfl rfl) (ev_int 4) (by decide))) (by show 3 ≤ sizeLine; decide)) evs_nil rfl) rfl) (by show 2 ≤ sizeLine; decide)) ?_)
  show Out.ret _ = Out.ret _
  have h1 := Int.fmod_nonneg_of_pos n (b := 4) (by omega)
  rw [sliceD_to _ _ h1]
  unfold rD ruleOf sD idx
  show _ = Out.ret (PyData.tuple [PyData.str (good h), PyData.list (([good a, good b, good c].take (n.fmod 4).toNat).map PyData.str)])
  rw [List.map_take]; rfl

theorem lawLine_len (f : Str) (b : List Str) (m : Nat) (hb : ∀ s ∈ b, s.length ≤ m) : (lawLine f b).length ≤ f.length + b.length * (m + 1) := by
  unfold lawLine
  induction b generalizing f with
  | nil => simp
  | cons s b ih =>
    rw [List.foldl_cons]
    have h1 := ih (f ++ " " ++ s) fun s hs => hb s (List.mem_cons_of_mem _ hs)
    have h2 := hb s List.mem_cons_self
    have h3 : (Str.ofString " ").length = 1 := by decide
    rw [Str.length_append, Str.length_append, h3] at h1
    rw [List.length_cons, Nat.succ_mul]; omega

theorem fn_law_line (G : G1 prog w mg mb P) {k : Nat} (f : Str) (b : List Str) (hf : f.length ≤ 1000) (hb : b.length ≤ 1000) (hs : ∀ s ∈ b, s.length ≤ 1000) : FnOk (C1 prog w mg mb P) (k + 1) 107 [.str f, sD b] (.str (lawLine f b)) := by
  refine fn_intro (ps := ["front", "body"]) (fnDef_of rfl rfl rfl rfl rfl rfl rfl (by ((intro vs h; rcases vs with _ | ⟨_, _ | ⟨_, _ | ⟨_, _ | ⟨_, _ | ⟨_, _ | ⟨_, _⟩⟩⟩⟩⟩⟩ <;> first | rfl | (simp at h; done)))) (by decide) rfl rfl rfl rfl rfl rfl) rfl fun A L s₀ Z₀ E hA hO hF => ?_
  have hsl : sizeLine = 16777216 := rfl
  refine ex_cons (xs_assign (ev_var rfl rfl) rfl (hO _) rfl ?_)
  refine ex_cons (xs_for (k := 0) (fun i Γ' => Has Γ' [("line", .fz (.str (lawLine f (b.take i))))]) (src_list (ds := b.map .str) hA.hd (ev_var rfl rfl)) (fun _ => rfl) (Has.add rfl (Has.nil _)) (fun i Γ' hi hJ => ?_) (fun Γ' hJ => ?_))
  · have hi' : i < b.length := by simpa using hi
    rw [getD_map PyData.str hi']
    have h1 := lawLine_len f (b.take i) 1000 fun s hs' => hs s (List.mem_of_mem_take hs')
    have h2 := hs _ (List.getElem_mem hi')
    have h3 : (Str.ofString " ").length = 1 := by decide
    have h4 : (b.take i).length * 1001 ≤ 1000 * 1001 := Nat.mul_le_mul_right _ (by rw [List.length_take]; omega)
    refine ⟨_, as_name rfl (hO _), ex_has hJ.cons ?_⟩
    refine ex_cons (xs_assign (e_addS (e_addS (ev_var rfl rfl) (ev_str _ (strOk_ofString _)) (by omega)) (ev_var rfl rfl) (by rw [Str.length_append]; omega)) rfl (hO _) rfl ?_)
    refine ex_nil (Has.add ?_ (Has.nil _))
    show some (Ent.fz (.str _)) = some (Ent.fz (.str _))
    rw [List.take_add_one, List.getElem?_eq_getElem hi']
    unfold lawLine
    rw [List.foldl_append]; rfl
  · rw [show (b.map PyData.str).length = b.length by simp, List.take_length] at hJ
    exact ex_has hJ (ex_cons (xs_return (ev_var rfl rfl) rfl))
end
end

section
set_option autoImplicit false
set_option linter.unusedVariables false
set_option maxRecDepth 100000
open PySem PyProof.Rows PySem.W

def wordsS (r : Rule) : List Str := r.1 :: r.2
def stainW (ws : List Str) (p : Nat) (parts : List Str) : List Str := ws.take p ++ parts ++ ws.drop (p + 1)
def stWords (at_ place : Int) (parts : List Str) (i : Nat) (r : Rule) : List Str := if ((i : Int) == at_) = true then stainW (wordsS r) (idx place (wordsS r).length) parts else wordsS r
def toRule (ws : List Str) : Rule := (ws[0]?.getD "", ws.drop 1)
def stained (rules : List Rule) (at_ place : Int) (parts : List Str) : List Rule := rules.mapIdx fun i r => toRule (stWords at_ place parts i r)

theorem mapIdx_take {α β : Type} (f : Nat → α → β) {l : List α} {i : Nat} (h : i < l.length) : (l.take (i + 1)).mapIdx f = (l.take i).mapIdx f ++ [f i l[i]] := by
  rw [List.take_add_one, List.getElem?_eq_getElem h]
  show List.mapIdx f (l.take i ++ [l[i]]) = _
  rw [List.mapIdx_append]
  simp only [List.length_take, Nat.min_eq_left (Nat.le_of_lt h)]
  congr 1
  simp
theorem sliceD_from' (ds : List PyData) (n : Int) (h0 : 0 ≤ n) (h : n ≤ ds.length) : sliceD ds (some n) none = ds.drop n.toNat := by
  have := sliceD_from ds n.toNat (by omega)
  rwa [Int.toNat_of_nonneg h0] at this

section
variable {prog : Program} {w : World} {mg mb : Str → Option Value} {P : Params}
theorem fn_law_stained (G : G1 prog w mg mb P) {k : Nat} (rules : List Rule) (at_ place : Int) (parts : List Str) (hn : rules.length ≤ 30) (hb : ∀ r ∈ rules, r.2.length ≤ 100) (hp : 0 < parts.length) (hp' : parts.length ≤ 100) :
    FnOk (C1 prog w mg mb P) (k + 1) 114 [gD rules, .int at_, .int place, sD parts] (gD (stained rules at_ place parts)) := by
  refine fn_intro (ps := ["rules", "at", "place", "parts"]) (fnDef_of rfl rfl rfl rfl rfl rfl rfl (by ((intro vs h; rcases vs with _ | ⟨_, _ | ⟨_, _ | ⟨_, _ | ⟨_, _ | ⟨_, _ | ⟨_, _⟩⟩⟩⟩⟩⟩ <;> first | rfl | (simp at h; done)))) (by decide) rfl rfl rfl rfl rfl rfl) rfl fun A L s₀ Z₀ E hA hO hF => ?_
  have hsl : sizeLine = 16777216 := rfl
  refine ex_cons (xs_new rfl (hO _) ?_)
  refine ex_cons (xs_for (k := 0) (fun i Γ' => Has Γ' [("g", .own (((rules.take i).mapIdx fun i r => toRule (stWords at_ place parts i r)).map rD)), ("rules", .fz (gD rules)), ("at", .fz (.int at_)), ("place", .fz (.int place)), ("parts", .fz (sD parts))])
    (s_range (n := rules.length) hA.hd (G.b rfl rfl PyProof.Rows.Boot.«range» (by decide)) (e_len (n := rules.length) (G.b rfl rfl PyProof.Rows.Boot.«len» (by decide)) (ev_var rfl rfl) rfl (by simp [lenD, gD]) (by omega)) rfl (by omega)) (fun _ => rfl) (Has.refl _) (fun i Γ' hi hJ => ?_) (fun Γ' hJ => ?_))
  · refine ⟨_, as_name rfl (hO _), ex_has hJ.cons ?_⟩
    have hbi := hb _ (List.getElem_mem hi)
    have hri : (rules.map rD)[((i : Int)).toNat]? = some (rD rules[i]) := by simp [hi]
    refine ex_cons (xs_assign ((e_addL (b := rules[i].2.map .str) (ev_list (evs_cons (e_item (e_item (ev_var rfl rfl) (ev_var rfl rfl) rfl (by omega) (by omega) hri) (ev_int 0) rfl (by decide) (by decide) rfl) evs_nil rfl) (by show 1 ≤ sizeLine; decide)) (e_item (e_item (ev_var rfl rfl) (ev_var rfl rfl) rfl (by omega) (by omega) hri) (ev_int 1) rfl (by decide) (by decide) rfl) (by simp; omega)).cast (d' := sD (wordsS rules[i])) rfl) rfl (hO _) rfl ?_)
    have hw : (wordsS rules[i]).length = rules[i].2.length + 1 := rfl
    refine ex_join (fun Γ' => Has Γ' [("words", .fz (sD (stWords at_ place parts i rules[i]))), ("g", .own (((rules.take i).mapIdx fun i r => toRule (stWords at_ place parts i r)).map rD)), ("rules", .fz (gD rules)), ("at", .fz (.int at_)), ("place", .fz (.int place)), ("parts", .fz (sD parts))])
      (xs_if (c_eqI hA (ev_var rfl rfl) (ev_var rfl rfl)) (fun hbb => ?_) (fun hbb => ?_)) (fun Γ' hG => ?_)
    · have h1 := Int.fmod_nonneg_of_pos place (b := (wordsS rules[i]).length) (by omega)
      have h2 := Int.fmod_lt_of_pos place (b := (wordsS rules[i]).length) (by omega)
      refine ex_cons (xs_assign (e_mod (ev_var rfl rfl) (e_len (n := (wordsS rules[i]).length) (G.b rfl rfl PyProof.Rows.Boot.«len» (by decide)) (ev_var rfl rfl) rfl (by simp [lenD, sD]) (by omega)) (by omega)) rfl (hO _) rfl ?_)
      have hlen : ((wordsS rules[i]).map PyData.str).length = (wordsS rules[i]).length := by simp
      refine ex_cons (xs_assign (e_addL (e_addL (ev_slice (ev_var rfl rfl) o_none (o_some (ev_var rfl rfl)) (by rw [hlen]; omega)) (ev_var rfl rfl) ?_) (ev_slice (ev_var rfl rfl) (o_some (e_addI (ev_var rfl rfl) (ev_int 1))) o_none (by rw [hlen]; omega)) ?_) rfl (hO _) rfl ?_)
      · rw [sliceD_to _ _ h1]; simp only [List.length_take, List.length_map]; omega
      · rw [sliceD_to _ _ h1, sliceD_from' _ _ (by omega) (by rw [hlen]; omega)]; simp only [List.length_append, List.length_take, List.length_map, List.length_drop]; omega
      · refine ex_nil (Has.add ?_ (Has.add rfl (Has.add rfl (Has.add rfl (Has.add rfl (Has.add rfl (Has.nil _)))))))
        show some (Ent.fz (.list _)) = some (Ent.fz (.list _))
        rw [sliceD_to _ _ h1, sliceD_from' _ _ (by omega) (by rw [hlen]; omega)]
        unfold stWords stainW idx
        rw [if_pos hbb, List.map_append, List.map_append, List.map_take, List.map_drop]
        congr 5
        omega
    · refine ex_nil (Has.add ?_ (Has.add rfl (Has.add rfl (Has.add rfl (Has.add rfl (Has.add rfl (Has.nil _)))))))
      unfold stWords
      rw [if_neg (by rw [hbb]; decide)]; rfl
    · refine ex_has hG ?_
      have hws : 0 < (stWords at_ place parts i rules[i]).length ∧ (stWords at_ place parts i rules[i]).length ≤ 1000 := by
        unfold stWords stainW
        split
        · simp only [List.length_append, List.length_take, List.length_drop]; omega
        · omega
      generalize hgen : stWords at_ place parts i rules[i] = ws at *
      refine ex_cons (xs_append rfl rfl ?_ (ev_tuple (evs_cons (e_item (d := .str (ws[0]?.getD "")) (ev_var rfl rfl) (ev_int 0) rfl (by decide) (by decide) ?_) (evs_cons (ev_slice (ev_var rfl rfl) (o_some (ev_int 1)) o_none ?_) evs_nil rfl) rfl) (by show 2 ≤ sizeLine; decide)) rfl rfl rfl ?_)
      · simp only [List.length_map, List.length_mapIdx, List.length_take]; omega
      · show (ws.map PyData.str)[0]? = _
        rw [List.getElem?_map, List.getElem?_eq_getElem hws.1]; rfl
      · rw [List.length_map]; omega
      · refine ex_nil (Has.add ?_ (Has.add rfl (Has.add rfl (Has.add rfl (Has.add rfl (Has.nil _))))))
        show some (Ent.own _) = some (Ent.own _)
        rw [mapIdx_take _ hi, List.map_append, hgen]
        congr 3
        show _ = [rD (toRule ws)]
        rw [sliceD_from' _ 1 (by decide) (by rw [List.length_map]; omega), ← List.map_drop]; rfl
  · rw [List.take_length] at hJ
    exact ex_has hJ (ex_freeze (x := "g") rfl (ex_cons (xs_return (ev_var rfl rfl) rfl)))
end
end

section
set_option autoImplicit false
set_option linter.unusedVariables false
set_option maxRecDepth 100000
open PySem PyProof.Rows PySem.W

mutual
theorem eqv_self : ∀ d : PyData, noDict d = true → PyData.eqv d d = true
  | .none, _ => by simp [PyData.eqv]
  | .bool b, _ => by simp [PyData.eqv]
  | .int i, _ => by simp [PyData.eqv]
  | .str s, _ => by simp [PyData.eqv]
  | .list xs, h => by simp only [PyData.eqv]; exact eqvAll_self xs (by simpa [noDict] using h)
  | .tuple xs, h => by simp only [PyData.eqv]; exact eqvAll_self xs (by simpa [noDict] using h)
  | .dict _, h => by simp [noDict] at h
theorem eqvAll_self : ∀ xs : List PyData, noDict.noDicts xs = true → PyData.eqvAll xs xs = true
  | [], _ => by simp [PyData.eqvAll]
  | x :: xs, h => by
    simp only [noDict.noDicts, Bool.and_eq_true] at h
    simp [PyData.eqvAll, eqv_self x h.1, eqvAll_self xs h.2]
end
theorem dOk_str (s : Str) : DOk (.str s) 0 := DOk.flat rfl
theorem dOk_sD (l : List Str) : DOk (sD l) 1 := DOk.list fun x hx => by
  obtain ⟨s, _, rfl⟩ := List.mem_map.mp hx
  exact dOk_str s
theorem dOk_rD (r : Rule) : DOk (rD r) 2 := DOk.tuple fun x hx => by
  rcases List.mem_cons.mp hx with rfl | hx
  · exact (dOk_str _).mono (by omega)
  · cases List.mem_singleton.mp hx; exact dOk_sD _
theorem dOk_gD (g : List Rule) : DOk (gD g) 3 := DOk.list fun x hx => by
  obtain ⟨s, _, rfl⟩ := List.mem_map.mp hx
  exact dOk_rD s
theorem sliceD_all (ds : List PyData) : sliceD ds none none = ds := by
  unfold sliceD
  show (ds.drop 0).take (ds.length - 0) = ds
  simp

section
variable {prog : Program} {w : World} {mg mb : Str → Option Value} {P : Params} {C : Cx} {A : Around} {env : Env} {Γ : Tab} {e₁ e₂ : Expr} {d : PyData}
/-- != of the same data -/
theorem c_neSame {n : Nat} {pos : Pos} {k : Nat} (hA : OkA A n) (h₁ : Ev C A env Γ e₁ false d) (h₂ : Ev C A env Γ e₂ false d) (hd : DOk d k) (hk : k ≤ 100) : Cd C A env Γ (.Compare e₁ [.NotEq] [e₂] pos) false :=
  (c_ne hA h₁ h₂ hd (hd.mono hk) hk).cast (by rw [eqv_self d hd.1]; rfl)

def lineNo (n : Int) : Str := catAll Str.empty ["line ", Str.ofString (toString n), ":"]
theorem fn_reads_bad (G : G1 prog w mg mb P) {k : Nat} (lines : List Str) (number : Int) (due : List Rule) (msg : Str) (hl : SmallL lines) (h0 : number ≠ 0) (hn : number.natAbs ≤ 30) (hdg : (Str.ofString (toString number)).length ≤ 100)
    (hf : FnRz (C1 prog w mg mb P) k 46 [sD lines] 24 msg) (h1 : 0 < number → Txt.startswith msg (lineNo number) = true) (h2 : number < 0 → Txt.startswith msg "line " = false) :
    FnOk (C1 prog w mg mb P) (k + 1) 121 [sD lines, .int number, gD due] (.bool true) := by
  refine fn_intro (ps := ["lines", "number", "due"]) (fnDef_of rfl rfl rfl rfl rfl rfl rfl (by ((intro vs h; rcases vs with _ | ⟨_, _ | ⟨_, _ | ⟨_, _ | ⟨_, _ | ⟨_, _ | ⟨_, _⟩⟩⟩⟩⟩⟩ <;> first | rfl | (simp at h; done)))) (by decide) rfl rfl rfl rfl rfl rfl) rfl fun A L s₀ Z₀ E hA hO hF => ?_
  have hsl : sizeLine = 16777216 := rfl
  have hll := hl.len
  refine ex_cons (xs_assign ((ev_slice (ev_var rfl rfl) o_none o_none (by simp; omega)).cast (d' := sD lines) (by rw [sliceD_all]; rfl)) rfl (hO _) rfl ?_)
  refine ex_cons (xs_assign ev_none rfl (hO _) rfl ?_)
  refine ex_cons (xs_assign (ev_bool _) rfl (hO _) rfl ?_)
  refine ex_cons (xs_assign (ev_str _ (strOk_ofString _)) rfl (hO _) rfl ?_)
  refine ex_cons (xs_try_rz (μ := false) hA hF rfl rfl (G.at rfl) rfl rfl (evs_cons (ev_var rfl rfl) evs_nil rfl) rfl hf rfl rfl (G.at rfl) excAt1 rfl hO rfl (fun A' hu => su_assign (ev_bool _) rfl rfl (by decide) (su_str (k := 0) (by rw [hu]; have := hA.un; omega) excAt1 (G.b rfl rfl PyProof.Rows.Boot.«str» (by decide)) rfl rfl rfl (by decide) su_nil)) ?_)
  refine ex_cons (xs_if (c_neSame hA (ev_var rfl rfl) (ev_var rfl rfl) (dOk_sD _) (by decide)) (fun hb => by cases hb) fun _ => ex_nil ?_)
  refine ex_cons (xs_if ((c_neI hA (ev_var rfl rfl) (ev_int 0)).cast (b' := true) (by simpa using h0)) (fun _ => ?_) fun hb => by cases hb)
  refine ex_cons (xs_if (cd_not (c_bool (ev_var rfl rfl) (fun _ => rfl))) (fun hb => by cases hb) fun _ => ex_nil ?_)
  refine ex_join (fun Γ' => True) (xs_if (c_gt hA (ev_var rfl rfl) (ev_int 0)) (fun hb => ?_) (fun hb => ?_)) (fun Γ' _ => ex_cons (xs_return (ev_bool true) rfl))
  · have hpos : 0 < number := of_decide_eq_true hb
    refine ex_cons (xs_if (cd_not ((c_bool (e_starts (y := lineNo number) (ev_var rfl rfl) (ev_fstr (xs := ["line ", Str.ofString (toString number), ":"]) (by exact ⟨ev_str _ (strOk_ofString _), ev_field_int (μ := false) (ev_var rfl rfl) (by omega), ev_str _ (strOk_ofString _), trivial⟩) (by
      have e2 : (Str.ofString "line ").length = 5 := by decide
      have e3 : (Str.ofString ":").length = 1 := by decide
      simp only [List.map_cons, List.map_nil, List.sum_cons, List.sum_nil, e2, e3]; omega)) rfl rfl rfl) (fun _ => rfl)).cast (h1 hpos))) (fun hb => by cases hb) fun _ => ex_nil (ex_nil trivial))
  · have hneg : number < 0 := by have := of_decide_eq_false hb; omega
    exact ex_cons (xs_if ((c_bool (e_starts (ev_var rfl rfl) (ev_str _ (strOk_ofString _)) rfl rfl rfl) (fun _ => rfl)).cast (h2 hneg)) (fun hb => by cases hb) fun _ => ex_nil (ex_nil trivial))

theorem fn_reads_ok (G : G1 prog w mg mb P) {k : Nat} (lines : List Str) (due : List Rule) (hl : SmallL lines) (hs : Small due) (hf : FnOk (C1 prog w mg mb P) (k + 1) 46 [sD lines] (gD due)) (hok : okG due = true) (ht : due.map lineOf = lines) :
    FnOk (C1 prog w mg mb P) (k + 1 + 1) 121 [sD lines, .int 0, gD due] (.bool true) := by
  refine fn_intro (ps := ["lines", "number", "due"]) (fnDef_of rfl rfl rfl rfl rfl rfl rfl (by ((intro vs h; rcases vs with _ | ⟨_, _ | ⟨_, _ | ⟨_, _ | ⟨_, _ | ⟨_, _ | ⟨_, _⟩⟩⟩⟩⟩⟩ <;> first | rfl | (simp at h; done)))) (by decide) rfl rfl rfl rfl rfl rfl) rfl fun A L s₀ Z₀ E hA hO hF => ?_
  have hsl : sizeLine = 16777216 := rfl
  have hll := hl.len
  refine ex_cons (xs_assign ((ev_slice (ev_var rfl rfl) o_none o_none (by simp; omega)).cast (d' := sD lines) (by rw [sliceD_all]; rfl)) rfl (hO _) rfl ?_)
  refine ex_cons (xs_assign ev_none rfl (hO _) rfl ?_)
  refine ex_cons (xs_assign (ev_bool _) rfl (hO _) rfl ?_)
  refine ex_cons (xs_assign (ev_str _ (strOk_ofString _)) rfl (hO _) rfl ?_)
  refine ex_join (fun Γ' => Has Γ' [("got", .fz (gD due)), ("message", .fz (.str "")), ("refused", .fz (.bool false)), ("kept", .fz (sD lines)), ("lines", .fz (sD lines)), ("number", .fz (.int 0)), ("due", .fz (gD due))])
    (xs_try_ok fun E' => ex_cons (xs_assign (ev_call hA rfl (G.at rfl) rfl rfl (evs_cons (ev_var rfl rfl) evs_nil rfl) rfl hf) rfl (hO _) rfl (ex_nil (Has.add rfl (Has.add rfl (Has.add rfl (Has.add rfl (Has.add rfl (Has.add rfl (Has.add rfl (Has.nil _))))))))))) (fun Γ' hG => ex_has hG ?_)
  refine ex_cons (xs_if (c_neSame hA (ev_var rfl rfl) (ev_var rfl rfl) (dOk_sD _) (by decide)) (fun hb => by cases hb) fun _ => ex_nil ?_)
  refine ex_cons (xs_if ((c_neI hA (ev_var rfl rfl) (ev_int 0)).cast (b' := false) (by decide)) (fun hb => by cases hb) fun _ => ex_nil ?_)
  refine ex_cons (xs_if (c_bool (ev_var rfl rfl) (fun _ => rfl)) (fun hb => by cases hb) fun _ => ex_nil ?_)
  refine ex_cons (xs_if (cd_not (c_type (b := true) (G.b rfl rfl PyProof.Rows.Boot.«type» (by decide)) (G.b rfl rfl PyProof.Rows.Boot.«list» (by decide)) (ev_var rfl rfl) rfl rfl)) (fun hb => by cases hb) fun _ => ex_nil ?_)
  refine ex_cons (xs_for (k := 0) (fun i Γ' => Has Γ' [("got", .fz (gD due)), ("kept", .fz (sD lines)), ("due", .fz (gD due))]) (src_list (ds := due.map rD) hA.hd (ev_var rfl rfl)) (fun _ => rfl) (Has.add rfl (Has.add rfl (Has.add rfl (Has.nil _)))) (fun i Γ' hi hJ => ?_) (fun Γ' hJ => ex_has hJ ?_))
  · rw [getD_map rD (by simpa using hi)]
    refine ⟨_, as_name rfl (hO _), ex_has hJ.cons ?_⟩
    exact ex_cons (xs_if (cd_not (c_type (b := true) (G.b rfl rfl PyProof.Rows.Boot.«type» (by decide)) (G.b rfl rfl PyProof.Rows.Boot.«tuple» (by decide)) (ev_var rfl rfl) rfl rfl)) (fun hb => by cases hb) fun _ => ex_nil (ex_nil (Has.add rfl (Has.add rfl (Has.add rfl (Has.nil _))))))
  · refine ex_cons (xs_if (c_neSame hA (ev_var rfl rfl) (ev_var rfl rfl) (dOk_gD _) (by decide)) (fun hb => by cases hb) fun _ => ex_nil ?_)
    refine ex_cons (xs_if (c_is (b := false) ((ev_call hA rfl (G.at rfl) rfl rfl (evs_cons (ev_var rfl rfl) evs_nil rfl) rfl (fn_grammar_ok G due hs.len hs.bl)).cast (d' := .bool true) (by rw [hok])) (ev_bool true) rfl rfl) (fun hb => by cases hb) fun _ => ex_nil ?_)
    refine ex_cons (xs_if (c_neSame hA ((ev_call hA rfl (G.at rfl) rfl rfl (evs_cons (ev_var rfl rfl) evs_nil rfl) rfl (fn_grammar_text G due hs)).cast (d' := sD lines) (by rw [ht])) (ev_var rfl rfl) (dOk_sD _) (by decide)) (fun hb => by cases hb) fun _ => ex_nil ?_)
    refine ex_cons (xs_if (c_neSame hA (ev_var rfl rfl) (ev_var rfl rfl) (dOk_gD _) (by decide)) (fun hb => by cases hb) fun _ => ex_nil ?_)
    exact ex_cons (xs_return (ev_bool true) rfl)
end
end

section
set_option autoImplicit false
set_option linter.unusedVariables false
set_option maxRecDepth 100000
open PySem PyProof.Rows PySem.W

theorem sp_eq : (" " : Str) = ⟨#[32]⟩ := by decide
abbrev noSp (s : Str) : Prop := (32 : Nat) ∉ s.cps.toList
theorem str_ext {a b : Str} (h : a.cps.toList = b.cps.toList) : a = b := by
  obtain ⟨⟨l⟩⟩ := a
  obtain ⟨⟨l'⟩⟩ := b
  simp only at h
  rw [h]
def jl : List (List Nat) → List Nat
  | [] => []
  | [a] => a
  | a :: b :: r => a ++ 32 :: jl (b :: r)
theorem join_cps : ∀ l : List Str, (Str.join " " l).cps.toList = jl (l.map fun s => s.cps.toList)
  | [] => by decide
  | [a] => rfl
  | a :: b :: r => by
    have ih := join_cps (b :: r)
    have h : Str.join " " (a :: b :: r) = a ++ " " ++ Str.join " " (b :: r) := rfl
    rw [h, sp_eq] at *
    show ((a ++ (⟨#[32]⟩ : Str)) ++ Str.join ⟨#[32]⟩ (b :: r)).cps.toList = _
    rw [Str.cps_append, Str.cps_append]
    simp only [Array.toList_append, List.map_cons, jl]
    rw [ih]
    simp
theorem cut_inj {a b x y : List Nat} (ha : 32 ∉ a) (hb : 32 ∉ b) (h : a ++ 32 :: x = b ++ 32 :: y) : a = b ∧ x = y := by
  induction a generalizing b with
  | nil =>
    cases b with
    | nil => simp at h; exact ⟨rfl, h⟩
    | cons c b => simp at h; exact absurd (h.1 ▸ List.mem_cons_self) hb
  | cons c a ih =>
    cases b with
    | nil => simp at h; exact absurd (h.1 ▸ List.mem_cons_self) ha
    | cons c' b =>
      simp only [List.cons_append, List.cons.injEq] at h
      obtain ⟨rfl, h⟩ := h
      obtain ⟨rfl, h'⟩ := ih (fun q => ha (List.mem_cons_of_mem _ q)) (fun q => hb (List.mem_cons_of_mem _ q)) h
      exact ⟨rfl, h'⟩
theorem jl_inj : ∀ {A B : List (List Nat)}, A ≠ [] → B ≠ [] → (∀ a ∈ A, 32 ∉ a) → (∀ b ∈ B, 32 ∉ b) → jl A = jl B → A = B
  | [], _, h, _, _, _, _ => absurd rfl h
  | _ :: _, [], _, h, _, _, _ => absurd rfl h
  | [a], [b], _, _, _, _, h => by simp only [jl] at h; rw [h]
  | [a], b :: c :: r, _, _, ha, hb, h => by
    simp only [jl] at h
    exact absurd (h ▸ (by simp : 32 ∈ b ++ 32 :: jl (c :: r))) (ha a (by simp))
  | a :: c :: r, [b], _, _, ha, hb, h => by
    simp only [jl] at h
    exact absurd (h ▸ (by simp : 32 ∈ a ++ 32 :: jl (c :: r))) (hb b (by simp))
  | a :: c :: r, b :: c' :: r', _, _, ha, hb, h => by
    simp only [jl] at h
    obtain ⟨rfl, h'⟩ := cut_inj (ha a (by simp)) (hb b (by simp)) h
    have := jl_inj (A := c :: r) (B := c' :: r') (by simp) (by simp) (fun a q => ha a (List.mem_cons_of_mem _ q)) (fun a q => hb a (List.mem_cons_of_mem _ q)) h'
    rw [this]
theorem split_ne (x : Str) : Txt.split x " " ≠ [] := fun h => by
  have := split_weight x " " (by decide)
  have h2 := StrLaws.join_split x " "
  unfold Txt.split at h
  split at h
  · cases h
  · split at h
    · cases h
    · unfold Builtin.Str.partsBetween at h
      simp only [List.map_eq_nil_iff] at h
      rw [List.zip_eq_nil_iff] at h
      rcases h with h | h
      · cases h
      · simp at h
theorem words_join {ws : List Str} (h : ws ≠ []) (hs : ∀ s ∈ ws, noSp s) : wordsOf (Str.join " " ws) = ws := by
  have h1 := StrLaws.join_split (Str.join " " ws) " "
  have h2 : (Str.join " " (Txt.split (Str.join " " ws) " ")).cps.toList = (Str.join " " ws).cps.toList := congrArg (fun s : Str => s.cps.toList) h1
  rw [join_cps, join_cps] at h2
  have h3 := jl_inj (by simpa using split_ne _) (by simpa using h) (fun a ha => by
    obtain ⟨s, hs', rfl⟩ := List.mem_map.mp ha
    rw [sp_eq] at hs'
    exact StrLaws.split_free _ 32 s hs') (fun a ha => by
    obtain ⟨s, hs', rfl⟩ := List.mem_map.mp ha
    exact hs s hs') h2
  unfold wordsOf
  exact (List.map_inj_right fun a b q => str_ext q).mp h3
theorem join_cons {a : Str} {l : List Str} (h : l ≠ []) : Str.join " " (a :: l) = a ++ " " ++ Str.join " " l := by
  cases l with
  | nil => exact absurd rfl h
  | cons b r => rfl
theorem str_assoc (a b c : Str) : a ++ b ++ c = a ++ (b ++ c) := str_ext (by simp [Str.cps_append])
theorem join_app {A B : List Str} (ha : A ≠ []) (hb : B ≠ []) : Str.join " " (A ++ B) = Str.join " " A ++ " " ++ Str.join " " B := by
  induction A with
  | nil => exact absurd rfl ha
  | cons a A ih =>
    cases A with
    | nil => exact join_cons hb
    | cons a' A =>
      rw [List.cons_append, join_cons (by simp), ih (by simp), join_cons (a := a) (l := a' :: A) (by simp)]
      simp only [str_assoc]
/-- a word may be given by its parts -/
theorem join_part {pre parts post : List Str} (h : parts ≠ []) : Str.join " " (pre ++ [Str.join " " parts] ++ post) = Str.join " " (pre ++ parts ++ post) := by
  have key : ∀ post : List Str, Str.join " " (Str.join " " parts :: post) = Str.join " " (parts ++ post) := fun post => by
    cases post with
    | nil => rw [List.append_nil]; rfl
    | cons p post => rw [join_cons (by simp), join_app h (by simp)]
  cases pre with
  | nil => exact key post
  | cons a pre =>
    rw [List.append_assoc, List.append_assoc, join_app (A := a :: pre) (by simp) (by simp), join_app (A := a :: pre) (by simp) (by simp [h])]
    rw [List.singleton_append, key]
theorem lawLine_join (f : Str) : ∀ b : List Str, lawLine f b = Str.join " " (f :: b) := by
  intro b
  unfold lawLine
  induction b generalizing f with
  | nil => rfl
  | cons s b ih =>
    rw [List.foldl_cons, ih]
    cases b with
    | nil => rfl
    | cons s' b => rw [join_cons (by simp), join_cons (a := f) (by simp), join_cons (a := s) (by simp)]; simp only [str_assoc]
theorem line_law (r : Rule) : lawLine (r.1 ++ " ->") r.2 = lineOf r := by
  rw [lawLine_join]
  unfold lineOf
  have h1 : (" ->" : Str) = " " ++ "->" := by decide
  cases h : r.2 with
  | nil => show r.1 ++ (" ->" : Str) = r.1 ++ " " ++ "->"; rw [h1, str_assoc]
  | cons s b => rw [join_cons (by simp), join_cons (a := r.1) (by simp), join_cons (a := "->") (by simp), h1]; simp only [str_assoc]
end

section
set_option autoImplicit false
set_option linter.unusedVariables false
set_option maxRecDepth 100000
open PySem PyProof.Rows PySem.W

structure Good (r : Rule) : Prop where
  h : r.1 ∈ goodT
  b : ∀ s ∈ r.2, s ∈ goodT
  l : r.2.length ≤ 3
theorem good_sym : ∀ s ∈ goodT, noSp s ∧ symOk s = true ∧ s.length ≤ 3 := by decide +kernel
theorem st_facts : ∀ r ∈ stT, r.1 = Str.join " " r.2.1 ∧ r.2.1 ≠ [] ∧ (∀ s ∈ r.2.1, noSp s) ∧ symOk r.1 = r.2.2.2.2 ∧ r.1.length ≤ 4 ∧ (∀ s ∈ r.2.1, s.length ≤ 4) ∧ r.2.1.length ≤ 2 ∧
    r.2.2.2.1 = (if r.2.1.all symOk then 0 else -1) ∧ r.2.2.1 = (if r.2.1.length = 1 then r.2.2.2.1 else 1) ∧ (r.2.1.length = 2 → r.2.1[1]? ≠ some ("->" : Str)) ∧ (r.2.1.length = 1 → r.2.1 = [r.1]) := by decide +kernel
theorem msg_starts : ∀ i < 3, Txt.startswith (msgAt i) (lineNo ((i : Int) + 1)) = true := by decide +kernel
theorem msg_bad : Txt.startswith msgBad "line " = false := by decide +kernel

theorem toRule_cons {ws : List Str} (h : ws ≠ []) : (toRule ws).1 :: (toRule ws).2 = ws := by
  cases ws with
  | nil => exact absurd rfl h
  | cons a r => rfl
theorem ruleOk_to {ws : List Str} (h : ws ≠ []) : ruleOk (toRule ws) = ws.all symOk := by
  unfold ruleOk; rw [toRule_cons h]
theorem wordsS_ne (r : Rule) : wordsS r ≠ [] := by unfold wordsS; simp
theorem stainW_ne {ws parts : List Str} {p : Nat} (h : parts ≠ []) : stainW ws p parts ≠ [] := by unfold stainW; simp [h]
theorem stWords_ne {a place : Int} {parts : List Str} {i : Nat} {r : Rule} (h : parts ≠ []) : stWords a place parts i r ≠ [] := by
  unfold stWords
  split
  · exact stainW_ne h
  · exact wordsS_ne r
theorem Good.word {r : Rule} (h : Good r) : ∀ s ∈ wordsS r, s ∈ goodT := fun s hs => by
  rcases List.mem_cons.mp hs with rfl | hs
  · exact h.h
  · exact h.b s hs
theorem stain_mem {ws parts : List Str} {p : Nat} {s : Str} (h : s ∈ stainW ws p parts) : s ∈ ws ∨ s ∈ parts := by
  unfold stainW at h
  simp only [List.mem_append] at h
  rcases h with (h | h) | h
  · exact .inl (List.mem_of_mem_take h)
  · exact .inr h
  · exact .inl (List.mem_of_mem_drop h)
theorem stWords_mem {a place : Int} {parts : List Str} {i : Nat} {r : Rule} {s : Str} (h : s ∈ stWords a place parts i r) : s ∈ wordsS r ∨ (((i : Int) == a) = true ∧ s ∈ parts) := by
  unfold stWords at h
  split at h
  · rename_i q
    exact (stain_mem h).imp id fun x => ⟨q, x⟩
  · exact .inl h

/-- lines of words without blanks -/
theorem line_free {ws : List Str} (h : ws ≠ []) (hs : ∀ s ∈ ws, noSp s) : shapeOk (lineOf (toRule ws)) = true ∧ parse (lineOf (toRule ws)) = toRule ws := by
  cases ws with
  | nil => exact absurd rfl h
  | cons a r =>
    have hw : wordsOf (lineOf (toRule (a :: r))) = a :: "->" :: r := words_join (by simp) fun s hs' => by
      rcases List.mem_cons.mp hs' with rfl | hs'
      · exact hs _ List.mem_cons_self
      · rcases List.mem_cons.mp hs' with rfl | hs'
        · decide
        · exact hs _ (List.mem_cons_of_mem _ hs')
    unfold shapeOk parse
    rw [hw]
    refine ⟨?_, rfl⟩
    have h2 : (decide ((a :: "->" :: r).length < 2)) = false := by simp
    rw [h2]; rfl
theorem stained_len (rules : List Rule) (a place : Int) (parts : List Str) : (stained rules a place parts).length = rules.length := by unfold stained; simp
theorem stained_get (rules : List Rule) (a place : Int) (parts : List Str) {i : Nat} (h : i < rules.length) (h' : i < (stained rules a place parts).length) : (stained rules a place parts)[i] = toRule (stWords a place parts i rules[i]) := List.getElem_mapIdx ..

theorem okG_stained {rules : List Rule} {a : Nat} {place : Int} {parts : List Str} (hr : ∀ r ∈ rules, Good r) (hp : parts ≠ []) :
    okG (stained rules a place parts) = (!(rules.length == 0) && (if a < rules.length then parts.all symOk else true)) := by
  unfold okG
  rw [stained_len]
  congr 1
  rw [Bool.eq_iff_iff, List.all_eq_true]
  constructor
  · intro h
    split
    · rename_i ha
      have h' : a < (stained rules a place parts).length := by rw [stained_len]; exact ha
      have := h _ (List.getElem_mem h')
      rw [stained_get _ _ _ _ ha, ruleOk_to (stWords_ne hp)] at this
      unfold stWords stainW at this
      rw [if_pos (by simp), List.all_append, List.all_append] at this
      simp only [Bool.and_eq_true] at this
      exact this.1.2
    · rfl
  · intro h r hr'
    obtain ⟨i, hi, rfl⟩ := List.getElem_of_mem hr'
    have hi' : i < rules.length := by rwa [stained_len] at hi
    rw [stained_get _ _ _ _ hi', ruleOk_to (stWords_ne hp), List.all_eq_true]
    intro s hs
    rcases stWords_mem hs with q | ⟨q, q'⟩
    · exact (good_sym s ((hr _ (List.getElem_mem hi')).word s q)).2.1
    · have : i = a := by have := beq_iff_eq.mp q; omega
      subst this
      rw [if_pos hi', List.all_eq_true] at h
      exact h s q'

/-- a body's word, given by its parts -/
theorem line_body {ws parts : List Str} {p : Nat} (hp : 0 < p) (hl : p < ws.length) (h : parts ≠ []) : lineOf (toRule (stainW ws p [Str.join " " parts])) = lineOf (toRule (stainW ws p parts)) := by
  cases ws with
  | nil => simp at hl
  | cons x r =>
    obtain ⟨q, rfl⟩ : ∃ q, p = q + 1 := ⟨p - 1, by omega⟩
    have e : ∀ l : List Str, lineOf (toRule (stainW (x :: r) (q + 1) l)) = Str.join " " ((x :: "->" :: r.take q) ++ l ++ r.drop (q + 1)) := fun l => by
      unfold stainW lineOf toRule
      simp
    rw [e, e, join_part h]
theorem line_head {ws parts : List Str} (h : parts ≠ []) : lineOf (toRule (stainW ws 0 [Str.join " " parts])) = Str.join " " (parts ++ ("->" : Str) :: ws.drop 1) := by
  have e : lineOf (toRule (stainW ws 0 [Str.join " " parts])) = Str.join " " ([] ++ [Str.join " " parts] ++ ("->" : Str) :: ws.drop 1) := by
    unfold stainW lineOf toRule; simp
  rw [e, join_part h]; rfl

section
variable {rules : List Rule} {a : Nat} {place : Int} {st : Str × List Str × Int × Int × Bool}

/-- the lines that the printed grammar shows -/
theorem printed (hr : ∀ r ∈ rules, Good r) (hst : st ∈ stT) (hpl : 0 ≤ place) :
    (∃ h : a < rules.length, idx place (wordsS rules[a]).length = 0 ∧ st.2.1.length = 2 ∧ (∀ j (hj : j < a), shapeOk (lineOf (toRule (stWords a place [st.1] j (rules[j]'(by omega))))) = true) ∧ shapeOk (lineOf (toRule (stWords a place [st.1] a rules[a]))) = false) ∨
    ((∀ h : a < rules.length, ¬ (idx place (wordsS rules[a]).length = 0 ∧ st.2.1.length = 2)) ∧ (stained rules a place [st.1]).map lineOf = (stained rules a place st.2.1).map lineOf ∧ ∀ r ∈ stained rules a place st.2.1, shapeOk (lineOf r) = true ∧ parse (lineOf r) = r) := by
  obtain ⟨f1, f2, f3, f4, f5, f6, f7, f8, f9, f10, f11⟩ := st_facts st hst
  have free : ∀ i (hi : i < rules.length), (i ≠ a) → ∀ l, stWords a place l i rules[i] = wordsS rules[i] := fun i hi hne l => by
    unfold stWords; rw [if_neg (by simp; omega)]
  by_cases hc : ∃ h : a < rules.length, idx place (wordsS rules[a]).length = 0 ∧ st.2.1.length = 2
  · obtain ⟨h, h0, h2⟩ := hc
    refine .inl ⟨h, h0, h2, fun j hj => ?_, ?_⟩
    · rw [free j (by omega) (by omega)]
      exact (line_free (wordsS_ne _) fun s hs => (good_sym s ((hr _ (List.getElem_mem _)).word s hs)).1).1
    · have e : stWords a place [st.1] a rules[a] = stainW (wordsS rules[a]) 0 [st.1] := by unfold stWords; rw [if_pos (by simp), h0]
      rw [e, f1, line_head f2]
      have hw : wordsOf (Str.join " " (st.2.1 ++ ("->" : Str) :: (wordsS rules[a]).drop 1)) = st.2.1 ++ ("->" : Str) :: (wordsS rules[a]).drop 1 := words_join (by simp) fun s hs => by
        rcases List.mem_append.mp hs with hs | hs
        · exact f3 s hs
        · rcases List.mem_cons.mp hs with rfl | hs
          · decide
          · exact (good_sym s ((hr _ (List.getElem_mem h)).word s (List.mem_of_mem_drop hs))).1
      unfold shapeOk
      rw [hw, List.getElem?_append_left (by omega)]
      have h3 := f10 h2
      have h4 : st.2.1[1]? = some st.2.1[1] := List.getElem?_eq_getElem (by omega)
      rw [h4] at h3 ⊢
      have h5 : (st.2.1[1] == ("->" : Str)) = false := by
        rw [beq_eq_false_iff_ne]; intro q; exact h3 (by rw [q])
      simp only [Option.getD_some, h5, Bool.not_false, Bool.true_or, Bool.or_true, Bool.not_true]
  · refine .inr ⟨fun h q => hc ⟨h, q⟩, ?_, ?_⟩
    · refine List.ext_getElem (by simp [stained_len]) fun i h1 h2 => ?_
      have hi : i < rules.length := by simpa [stained_len] using h1
      rw [List.getElem_map, List.getElem_map, stained_get _ _ _ _ hi, stained_get _ _ _ _ hi]
      by_cases hia : i = a
      · subst hia
        unfold stWords
        rw [if_pos (by simp), if_pos (by simp)]
        by_cases hp0 : idx place (wordsS rules[i]).length = 0
        · have hl1 : st.2.1.length = 1 := by
            have : st.2.1.length ≠ 2 := fun q => hc ⟨hi, hp0, q⟩
            have : st.2.1.length ≠ 0 := fun q => f2 (List.length_eq_zero_iff.mp q)
            omega
          rw [f11 hl1]
        · rw [f1]
          exact line_body (by omega) (idx_lt _ (by unfold wordsS; simp)) f2
      · rw [free i hi hia, free i hi hia]
    · intro r hr'
      obtain ⟨i, hi, rfl⟩ := List.getElem_of_mem hr'
      have hi' : i < rules.length := by rwa [stained_len] at hi
      rw [stained_get _ _ _ _ hi']
      refine line_free (stWords_ne f2) fun s hs => ?_
      rcases stWords_mem hs with q | ⟨_, q⟩
      · exact (good_sym s ((hr _ (List.getElem_mem hi')).word s q)).1
      · exact f3 s q
end
end

section
set_option autoImplicit false
set_option linter.unusedVariables false
set_option maxRecDepth 100000
open PySem PyProof.Rows PySem.W

theorem line_small {r : Rule} (h1 : r.1.length ≤ 50) (h2 : r.2.length ≤ 5) (h3 : ∀ s ∈ r.2, s.length ≤ 50) : (lineOf r).length ≤ 900 := by
  have h := StrLaws.join_length_le " " (r.1 :: "->" :: r.2)
  have h4 := sum_le h3
  have e1 : (Str.ofString "->").length = 2 := by decide
  have e2 : (Str.ofString " ").length = 1 := by decide
  simp only [List.map_cons, List.sum_cons, List.length_cons, e1, e2] at h
  unfold lineOf; omega
structure Tiny (g : List Rule) : Prop where
  len : g.length ≤ 3
  hd : ∀ r ∈ g, r.1.length ≤ 50
  bl : ∀ r ∈ g, r.2.length ≤ 5
  sy : ∀ r ∈ g, ∀ s ∈ r.2, s.length ≤ 50
theorem Tiny.small {g : List Rule} (h : Tiny g) : Small g := ⟨by have := h.len; omega, fun r hr => by have := h.hd r hr; omega, fun r hr => by have := h.bl r hr; omega, fun r hr s hs => by have := h.sy r hr s hs; omega⟩
theorem Tiny.lines {g : List Rule} (h : Tiny g) : SmallL (g.map lineOf) := ⟨by have := h.len; simp; omega, fun l hl => by
  obtain ⟨r, hr, rfl⟩ := List.mem_map.mp hl
  exact line_small (h.hd r hr) (h.bl r hr) (h.sy r hr)⟩
theorem stained_tiny {rules : List Rule} {a place : Int} {parts : List Str} (hr : ∀ r ∈ rules, Good r) (hl : rules.length ≤ 3) (hp : parts ≠ []) (hp2 : parts.length ≤ 2) (hs : ∀ s ∈ parts, s.length ≤ 4) : Tiny (stained rules a place parts) := by
  have key : ∀ r ∈ stained rules a place parts, ∃ ws : List Str, ws ≠ [] ∧ r = toRule ws ∧ ws.length ≤ 6 ∧ ∀ s ∈ ws, s.length ≤ 50 := fun r hr' => by
    obtain ⟨i, hi, rfl⟩ := List.getElem_of_mem hr'
    have hi' : i < rules.length := by rwa [stained_len] at hi
    rw [stained_get _ _ _ _ hi']
    have g := hr _ (List.getElem_mem hi')
    refine ⟨_, stWords_ne hp, rfl, ?_, fun s hs' => ?_⟩
    · have := g.l
      unfold stWords stainW wordsS
      split
      · simp only [List.length_append, List.length_take, List.length_drop, List.length_cons]; omega
      · simp only [List.length_cons]; omega
    · rcases stWords_mem hs' with q | ⟨_, q⟩
      · have := (good_sym s (g.word s q)).2.2; omega
      · have := hs s q; omega
  refine ⟨by rw [stained_len]; exact hl, fun r hr' => ?_, fun r hr' => ?_, fun r hr' s hs' => ?_⟩ <;> obtain ⟨ws, h1, rfl, h2, h3⟩ := key r hr'
  · have := toRule_cons h1
    exact h3 _ (by rw [← this]; exact List.mem_cons_self)
  · show (ws.drop 1).length ≤ 5
    rw [List.length_drop]; omega
  · exact h3 s (List.mem_of_mem_drop hs')

section
variable {rules : List Rule} {a : Nat} {place : Int} {st : Str × List Str × Int × Int × Bool}
def nF (rules : List Rule) (a : Nat) (place : Int) (st : Str × List Str × Int × Int × Bool) : Int :=
  if h : a < rules.length then (if idx place (wordsS rules[a]).length = 0 ∧ st.2.1.length = 2 then (a : Int) + 1 else st.2.2.2.1) else if rules.length = 0 then -1 else 0
def fF (rules : List Rule) (a : Nat) (st : Str × List Str × Int × Int × Bool) : Bool := if a < rules.length then st.2.2.2.2 else !(rules.length == 0)

variable {prog : Program} {w : World} {mg mb : Str → Option Value} {P : Params}
theorem reads_printed (G : G1 prog w mg mb P) {k : Nat} (hr : ∀ r ∈ rules, Good r) (hl : rules.length ≤ 3) (ha : a < 3) (hst : st ∈ stT) (hpl : 0 ≤ place) :
    FnOk (C1 prog w mg mb P) (k + 1 + 1 + 1) 121 [sD ((stained rules a place [st.1]).map lineOf), .int (nF rules a place st), gD (stained rules a place st.2.1)] (.bool true) := by
  obtain ⟨f1, f2, f3, f4, f5, f6, f7, f8, f9, f10, f11⟩ := st_facts st hst
  have t1 := stained_tiny (a := a) (place := place) hr hl (by simp : [st.1] ≠ []) (by simp) (fun s hs => by cases List.mem_singleton.mp hs; exact f5)
  have t2 := stained_tiny (a := a) (place := place) hr hl f2 f7 f6
  have hgf := fn_gft G (k := k) _ t1.lines
  rcases printed (a := a) (place := place) hr hst hpl with ⟨h, h0, h2, h3, h4⟩ | ⟨h1, h2, h3⟩
  · have hn : nF rules a place st = (a : Int) + 1 := by unfold nF; rw [dif_pos h, if_pos ⟨h0, h2⟩]
    rw [hn]
    have get : ∀ j (hj : j < rules.length) (hj' : j < ((stained rules a place [st.1]).map lineOf).length), ((stained rules a place [st.1]).map lineOf)[j] = lineOf (toRule (stWords a place [st.1] j rules[j])) := fun j hj hj' => by
      rw [List.getElem_map, stained_get _ _ _ _ hj]
    have hla : a < ((stained rules a place [st.1]).map lineOf).length := by rw [List.length_map, stained_len]; exact h
    have hrz : FnRz (C1 prog w mg mb P) (k + 1 + 1) 46 [sD ((stained rules a place [st.1]).map lineOf)] 24 (msgAt a) := by
      refine hgf.2 _ (fun d q => ?_) fun msg q => ?_
      · have := q.1 _ (List.getElem_mem hla)
        rw [get a h, h4] at this; cases this
      · rcases q with ⟨i, hi, q1, q2, rfl⟩ | ⟨q1, _⟩
        · have hi' : i < rules.length := by rwa [List.length_map, stained_len] at hi
          rw [get i hi'] at q2
          rcases Nat.lt_trichotomy i a with c | c | c
          · rw [h3 i c] at q2; cases q2
          · rw [c]
          · have := q1 a c
            rw [get a h, h4] at this; cases this
        · have := q1 _ (List.getElem_mem hla)
          rw [get a h, h4] at this; cases this
    have hd := digits_small a (by omega)
    exact fn_reads_bad G _ _ _ _ t1.lines (by omega) (by omega) (by omega) hrz (fun _ => msg_starts a ha) (fun q => by omega)
  · have hn : nF rules a place st = if okG (stained rules a place st.2.1) then 0 else -1 := by
      rw [okG_stained hr f2]
      unfold nF
      by_cases h : a < rules.length
      · rw [dif_pos h, if_neg (h1 h), if_pos h, f8]
        have : (rules.length == 0) = false := beq_eq_false_iff_ne.mpr (by omega)
        rw [this]; rfl
      · rw [dif_neg h, if_neg h]
        by_cases h0 : rules.length = 0 <;> simp [h0]
    have hsh : ∀ l ∈ (stained rules a place [st.1]).map lineOf, shapeOk l = true := fun l hl' => by
      rw [h2] at hl'
      obtain ⟨r, hr', rfl⟩ := List.mem_map.mp hl'
      exact (h3 r hr').1
    have hpa : ((stained rules a place [st.1]).map lineOf).map parse = stained rules a place st.2.1 := by
      rw [h2, List.map_map]
      conv => rhs; rw [← List.map_id (stained rules a place st.2.1)]
      exact List.map_congr_left fun r hr' => (h3 r hr').2
    cases hok : okG (stained rules a place st.2.1) with
    | true =>
      rw [hn, hok, if_pos rfl]
      refine fn_reads_ok G _ _ t1.lines t2.small (hgf.1 _ (fun d q => by rw [q.2.2, hpa]) fun msg q => ?_) hok h2.symm
      rcases q with ⟨i, hi, _, q2, _⟩ | ⟨_, q2, _⟩
      · rw [hsh _ (List.getElem_mem hi)] at q2; cases q2
      · rw [hpa, hok] at q2; cases q2
    | false =>
      rw [hn, hok, if_neg (by decide)]
      have hrz : FnRz (C1 prog w mg mb P) (k + 1 + 1) 46 [sD ((stained rules a place [st.1]).map lineOf)] 24 msgBad := by
        refine hgf.2 _ (fun d q => ?_) fun msg q => ?_
        · have := q.2.1; rw [hpa, hok] at this; cases this
        · rcases q with ⟨i, hi, _, q2, _⟩ | ⟨_, _, q3⟩
          · rw [hsh _ (List.getElem_mem hi)] at q2; cases q2
          · exact q3
      exact fn_reads_bad G _ _ _ _ t1.lines (by decide) (by decide) (by decide +kernel) hrz (fun q => absurd q (by decide)) (fun _ => msg_bad)
end
end

section
set_option autoImplicit false
set_option linter.unusedVariables false
set_option maxRecDepth 100000
open PySem PyProof.Rows PySem.W

section
variable {rules : List Rule} {a : Nat} {place : Int} {st : Str × List Str × Int × Int × Bool}
variable {prog : Program} {w : World} {mg mb : Str → Option Value} {P : Params}

theorem fn_law_printed (G : G1 prog w mg mb P) {k : Nat} (hr : ∀ r ∈ rules, Good r) (hl : rules.length ≤ 3) (ha : a < 3) {kd : Nat} (hk : kd < 10) (hst : stT[kd]? = some st) (hpl : 0 ≤ place) :
    FnOk (C1 prog w mg mb P) (k + 1 + 1 + 1 + 1) 128 [gD rules, .int kd, .int a, .int place] (.bool true) := by
  have hst' : st ∈ stT := List.mem_of_getElem? hst
  obtain ⟨f1, f2, f3, f4, f5, f6, f7, f8, f9, f10, f11⟩ := st_facts st hst'
  refine fn_intro (ps := ["rules", "kind", "at", "place"]) (fnDef_of rfl rfl rfl rfl rfl rfl rfl (by ((intro vs h; rcases vs with _ | ⟨_, _ | ⟨_, _ | ⟨_, _ | ⟨_, _ | ⟨_, _ | ⟨_, _⟩⟩⟩⟩⟩⟩ <;> first | rfl | (simp at h; done)))) (by decide) rfl rfl rfl rfl rfl rfl) rfl fun A L s₀ Z₀ E hA hO hF => ?_
  have hsl : sizeLine = 16777216 := rfl
  have hlen : lenD (gD rules) = some rules.length := by simp [lenD, gD]
  refine ex_cons (xs_unpack (Γ₁ := _) hA ((e_item (d := stD st) (ev_glob rfl (G.at rfl) top_stains) (ev_var rfl rfl) rfl (by omega) (by omega) (by show (stT.map stD)[kd]? = _; rw [List.getElem?_map, hst]; rfl))) (asl_cons (as_name rfl (hO _)) (asl_cons (as_name rfl (hO _)) (asl_cons (as_name rfl (hO _)) (asl_cons (as_name rfl (hO _)) (asl_cons (as_name rfl (hO _)) asl_nil rfl) rfl) rfl) rfl) rfl) rfl rfl ?_)
  refine ex_cons (xs_assign (ev_int _) rfl (hO _) rfl ?_)
  refine ex_cons (xs_assign (ev_bool _) rfl (hO _) rfl ?_)
  refine ex_join (fun Γ' => ∃ (n0 : Int) (f0 : Bool), n0 = (if rules.length = 0 then -1 else 0) ∧ f0 = !(rules.length == 0) ∧ Has Γ' [("fit", .fz (.bool f0)), ("number", .fz (.int n0)), ("lawful", .fz (.bool st.2.2.2.2)), ("as_body", .fz (.int st.2.2.2.1)), ("as_head", .fz (.int st.2.2.1)), ("parts", .fz (sD st.2.1)), ("symbol", .fz (.str st.1)), ("rules", .fz (gD rules)), ("at", .fz (.int a)), ("place", .fz (.int place))])
    (xs_if (c_eqI hA (e_len (n := rules.length) (G.b rfl rfl PyProof.Rows.Boot.«len» (by decide)) (ev_var rfl rfl) rfl hlen (by omega)) (ev_int 0)) (fun hb => ?_) (fun hb => ?_)) (fun Γ' hG => ?_)
  · have h0 : rules.length = 0 := by have := beq_iff_eq.mp hb; omega
    refine ex_cons (xs_assign (e_neg (ev_int 1)) rfl (hO _) rfl ?_)
    refine ex_cons (xs_assign (ev_bool _) rfl (hO _) rfl ?_)
    exact ex_nil ⟨-1, false, by rw [if_pos h0], by rw [h0]; rfl, by (repeat (first | exact Has.nil _ | refine Has.add rfl ?_))⟩
  · have h0 : rules.length ≠ 0 := by have := beq_eq_false_iff_ne.mp hb; omega
    exact ex_nil ⟨0, true, by rw [if_neg h0], by rw [beq_eq_false_iff_ne.mpr h0]; rfl, by (repeat (first | exact Has.nil _ | refine Has.add rfl ?_))⟩
  obtain ⟨n0, f0, hn0, hf0, hG⟩ := hG
  refine ex_has hG ?_
  refine ex_join (fun Γ' => Has Γ' [("fit", .fz (.bool (fF rules a st))), ("number", .fz (.int (nF rules a place st))), ("parts", .fz (sD st.2.1)), ("symbol", .fz (.str st.1)), ("rules", .fz (gD rules)), ("at", .fz (.int a)), ("place", .fz (.int place))])
    (xs_if (c_lt hA (ev_var rfl rfl) (e_len (n := rules.length) (G.b rfl rfl PyProof.Rows.Boot.«len» (by decide)) (ev_var rfl rfl) rfl hlen (by omega))) (fun hb => ?_) (fun hb => ?_)) (fun Γ' hG => ?_)
  · have h : a < rules.length := by have := of_decide_eq_true hb; omega
    have hf : fF rules a st = st.2.2.2.2 := by unfold fF; rw [if_pos h]
    have hn : nF rules a place st = if idx place (wordsS rules[a]).length = 0 ∧ st.2.1.length = 2 then (a : Int) + 1 else st.2.2.2.1 := by unfold nF; rw [dif_pos h]
    rw [hf, hn]
    refine ex_cons (xs_assign (ev_var rfl rfl) rfl (hO _) rfl ?_)
    refine ex_cons (xs_assign (ev_var rfl rfl) rfl (hO _) rfl ?_)
    have hw : (wordsS rules[a]).length = 1 + rules[a].2.length := by unfold wordsS; simp; omega
    have hb2 := (hr _ (List.getElem_mem h)).l
    have hri : (rules.map rD)[((a : Int)).toNat]? = some (rD rules[a]) := by simp [h]
    have hix : (place.fmod (1 + (rules[a].2.length : Int)) == 0) = decide (idx place (wordsS rules[a]).length = 0) := by
      have h1 := fmod_idx place (n := (wordsS rules[a]).length) (by omega)
      rw [hw] at h1 ⊢
      have e : ((1 + rules[a].2.length : Nat) : Int) = 1 + (rules[a].2.length : Int) := by omega
      rw [e] at h1
      rw [h1]
      by_cases q : idx place (1 + rules[a].2.length) = 0
      · rw [q]; rfl
      · have : ((idx place (1 + rules[a].2.length) : Int) == 0) = false := beq_eq_false_iff_ne.mpr (by omega)
        rw [this]; simp [q]
    refine ex_join (fun Γ' => Has Γ' [("number", .fz (.int (if idx place (wordsS rules[a]).length = 0 then st.2.2.1 else st.2.2.2.1))), ("fit", .fz (.bool st.2.2.2.2)), ("parts", .fz (sD st.2.1)), ("symbol", .fz (.str st.1)), ("rules", .fz (gD rules)), ("at", .fz (.int a)), ("place", .fz (.int place))])
      (xs_if ((c_eqI hA (e_mod (ev_var rfl rfl) (e_addI (ev_int 1) (e_len (n := rules[a].2.length) (G.b rfl rfl PyProof.Rows.Boot.«len» (by decide)) (e_item (e_item (ev_var rfl rfl) (ev_var rfl rfl) rfl (by omega) (by omega) hri) (ev_int 1) rfl (by decide) (by decide) rfl) rfl (by simp [lenD, sD]) (by omega))) (by omega)) (ev_int 0)).cast hix) (fun hb => ?_) (fun hb => ?_)) (fun Γ' hG => ?_)
    · have q := of_decide_eq_true hb
      rw [if_pos q]
      exact ex_cons (xs_assign (ev_var rfl rfl) rfl (hO _) rfl (ex_nil (by (repeat (first | exact Has.nil _ | refine Has.add rfl ?_)))))
    · have q := of_decide_eq_false hb
      rw [if_neg q]
      exact ex_nil (by (repeat (first | exact Has.nil _ | refine Has.add rfl ?_)))
    refine ex_has hG ?_
    have hab1 : st.2.2.2.1 ≠ 1 := by rw [f8]; split <;> decide
    refine ex_cons (xs_if (c_eqI hA (ev_var rfl rfl) (ev_int 1)) (fun hb => ?_) (fun hb => ?_))
    · have q := beq_iff_eq.mp hb
      have h0 : idx place (wordsS rules[a]).length = 0 ∧ st.2.1.length = 2 := by
        by_cases c : idx place (wordsS rules[a]).length = 0
        · rw [if_pos c, f9] at q
          split at q
          · exact absurd q hab1
          · have : st.2.1.length ≠ 0 := fun q => f2 (List.length_eq_zero_iff.mp q)
            exact ⟨c, by omega⟩
        · rw [if_neg c] at q; exact absurd q hab1
      rw [if_pos h0]
      exact ex_cons (xs_assign (e_addI (ev_var rfl rfl) (ev_int 1)) rfl (hO _) rfl (ex_nil (ex_nil (by (repeat (first | exact Has.nil _ | refine Has.add rfl ?_))))))
    · have q := beq_eq_false_iff_ne.mp hb
      have h0 : ¬ (idx place (wordsS rules[a]).length = 0 ∧ st.2.1.length = 2) := fun ⟨c1, c2⟩ => by
        rw [if_pos c1, f9, if_neg (by omega)] at q; exact q rfl
      have e : (if idx place (wordsS rules[a]).length = 0 then st.2.2.1 else st.2.2.2.1) = st.2.2.2.1 := by
        split
        · rename_i c
          have : st.2.1.length ≠ 0 := fun q => f2 (List.length_eq_zero_iff.mp q)
          rw [f9, if_pos (by have := fun q => h0 ⟨c, q⟩; omega)]
        · rfl
      rw [if_neg h0, e]
      exact ex_nil (ex_nil (by (repeat (first | exact Has.nil _ | refine Has.add rfl ?_))))
  · have h : ¬ a < rules.length := by have := of_decide_eq_false hb; omega
    have hf : fF rules a st = f0 := by unfold fF; rw [if_neg h, hf0]
    have hn : nF rules a place st = n0 := by unfold nF; rw [dif_neg h, hn0]
    rw [hf, hn]
    exact ex_nil (by (repeat (first | exact Has.nil _ | refine Has.add rfl ?_)))
  refine ex_has hG ?_
  have hst1 := fn_law_stained G (k := k + 1 + 1) rules a place [st.1] (by omega) (fun r hr' => by have := (hr r hr').l; omega) (by simp) (by simp)
  have hst2 := fn_law_stained G (k := k + 1 + 1) rules a place st.2.1 (by omega) (fun r hr' => by have := (hr r hr').l; omega) (by have : st.2.1.length ≠ 0 := fun q => f2 (List.length_eq_zero_iff.mp q); omega) (by omega)
  have t1 := stained_tiny (a := a) (place := place) hr hl (by simp : [st.1] ≠ []) (by simp) (fun s hs => by cases List.mem_singleton.mp hs; exact f5)
  have hok : okG (stained rules a place [st.1]) = fF rules a st := by
    rw [okG_stained hr (by simp)]
    unfold fF
    by_cases h : a < rules.length
    · rw [if_pos h, if_pos h]
      have : (rules.length == 0) = false := beq_eq_false_iff_ne.mpr (by omega)
      simp [this, f4]
    · rw [if_neg h, if_neg h, Bool.and_true]
  have hrd := reads_printed G (k := k) hr hl ha hst' hpl
  have hg1 := t1.len
  generalize hgg : stained rules a place [st.1] = g at *
  generalize hdd : stained rules a place st.2.1 = due at *
  refine ex_cons (xs_assign (ev_call hA rfl (G.at rfl) rfl rfl (evs_cons (ev_var rfl rfl) (evs_cons (ev_var rfl rfl) (evs_cons (ev_var rfl rfl) (evs_cons (ev_list (evs_cons (ev_var rfl rfl) evs_nil rfl) (by show 1 ≤ sizeLine; decide)) evs_nil rfl) rfl) rfl) rfl) rfl hst1) rfl (hO _) rfl ?_)
  refine ex_cons (xs_assign (ev_call hA rfl (G.at rfl) rfl rfl (evs_cons (ev_var rfl rfl) (evs_cons (ev_var rfl rfl) (evs_cons (ev_var rfl rfl) (evs_cons (ev_list (evs_cons (ev_var rfl rfl) evs_nil rfl) (by show 1 ≤ sizeLine; decide)) evs_nil rfl) rfl) rfl) rfl) rfl hst1) rfl (hO _) rfl ?_)
  refine ex_cons (xs_new rfl (hO _) ?_)
  refine ex_cons (xs_for (k := 0) (fun i Γ' => Has Γ' [("want", .own (((g.take i).map lineOf).map .str)), ("g", .fz (gD g)), ("twin", .fz (gD g)), ("fit", .fz (.bool (fF rules a st))), ("number", .fz (.int (nF rules a place st))), ("parts", .fz (sD st.2.1)), ("rules", .fz (gD rules)), ("at", .fz (.int a)), ("place", .fz (.int place))])
    (src_list (ds := g.map rD) hA.hd (ev_var rfl rfl)) (fun _ => rfl) (by (repeat (first | exact Has.nil _ | refine Has.add rfl ?_))) (fun i Γ' hi hJ => ?_) (fun Γ' hJ => ?_))
  · have hi' : i < g.length := by simpa using hi
    rw [getD_map rD hi']
    have b1 := t1.hd _ (List.getElem_mem hi')
    have b2 := t1.bl _ (List.getElem_mem hi')
    have b3 := t1.sy _ (List.getElem_mem hi')
    have e1 : (Str.ofString " ->").length = 3 := by decide
    refine ⟨_, as_name rfl (hO _), ex_has hJ.cons ?_⟩
    have hll := fn_law_line G (k := k + 1 + 1) (g[i].1 ++ " ->") g[i].2 (by rw [Str.length_append]; omega) (by omega) (fun s hs => by have := b3 s hs; omega)
    refine ex_cons (xs_append rfl rfl ?_ (ev_call hA rfl (G.at rfl) rfl rfl (evs_cons (e_addS (e_item (ev_var rfl rfl) (ev_int 0) rfl (by decide) (by decide) rfl) (ev_str _ (strOk_ofString _)) (by omega)) (evs_cons (e_item (ev_var rfl rfl) (ev_int 1) rfl (by decide) (by decide) rfl) evs_nil rfl) rfl) rfl hll) rfl rfl rfl ?_)
    · simp only [List.length_map, List.length_take]; omega
    · refine ex_nil (Has.add ?_ (by (repeat (first | exact Has.nil _ | refine Has.add rfl ?_))))
      show some (Ent.own _) = some (Ent.own _)
      rw [List.take_add_one, List.getElem?_eq_getElem hi', List.map_append, List.map_append, line_law]; rfl
  · rw [show (g.map rD).length = g.length by simp, List.take_length] at hJ
    refine ex_has hJ ?_
    have hsm := t1.small
    refine ex_cons (xs_assign (ev_call hA rfl (G.at rfl) rfl rfl (evs_cons (ev_var rfl rfl) evs_nil rfl) rfl (fn_grammar_ok G g hsm.len hsm.bl)) rfl (hO _) rfl ?_)
    refine ex_cons (xs_if (cd_not (c_type (b := true) (G.b rfl rfl PyProof.Rows.Boot.«type» (by decide)) (G.b rfl rfl PyProof.Rows.Boot.«bool» (by decide)) (ev_var rfl rfl) rfl rfl)) (fun hb => by cases hb) fun _ => ex_nil ?_)
    refine ex_cons (xs_if ((c_neB hA (ev_var rfl rfl) (ev_var rfl rfl)).cast (b' := false) (by rw [hok]; simp)) (fun hb => by cases hb) fun _ => ex_nil ?_)
    refine ex_cons (xs_assign (ev_call hA rfl (G.at rfl) rfl rfl (evs_cons (ev_var rfl rfl) evs_nil rfl) rfl (fn_grammar_text G g hsm)) rfl (hO _) rfl ?_)
    refine ex_cons (xs_if (cd_not (c_type (b := true) (G.b rfl rfl PyProof.Rows.Boot.«type» (by decide)) (G.b rfl rfl PyProof.Rows.Boot.«list» (by decide)) (ev_var rfl rfl) rfl rfl)) (fun hb => by cases hb) fun _ => ex_nil ?_)
    refine ex_cons (xs_if (c_neSame hA (ev_var rfl rfl) ((ev_own rfl rfl).cast (d' := sD (g.map lineOf)) rfl) (dOk_sD _) (by decide)) (fun hb => by cases hb) fun _ => ex_nil ?_)
    refine ex_cons (xs_if (c_neSame hA (ev_var rfl rfl) (ev_var rfl rfl) (dOk_gD _) (by decide)) (fun hb => by cases hb) fun _ => ex_nil ?_)
    refine ex_cons (xs_assign (ev_call hA rfl (G.at rfl) rfl rfl (evs_cons (ev_var rfl rfl) (evs_cons (ev_var rfl rfl) (evs_cons (ev_var rfl rfl) (evs_cons (ev_var rfl rfl) evs_nil rfl) rfl) rfl) rfl) rfl hst2) rfl (hO _) rfl ?_)
    refine ex_cons (xs_if (cd_not (c_bool (ev_call hA rfl (G.at rfl) rfl rfl (evs_cons (ev_var rfl rfl) (evs_cons (ev_var rfl rfl) (evs_cons (ev_var rfl rfl) evs_nil rfl) rfl) rfl) rfl hrd) (fun _ => rfl))) (fun hb => by cases hb) fun _ => ex_nil ?_)
    exact ex_cons (xs_return (ev_bool true) rfl)
end
end

section
set_option autoImplicit false
set_option linter.unusedVariables false
set_option maxRecDepth 100000
open PySem PyProof.Rows PySem.W

abbrev Dm := Str × Str × Int × Str × List Str
def dline (d : Dm) (r : Rule) : Str := lawLine (d.1 ++ r.1 ++ d.2.1) r.2
def ddue (d : Dm) (r : Rule) : Rule := (d.1 ++ r.1 ++ d.2.2.2.1, d.2.2.2.2 ++ r.2)
def dOkAt (d : Dm) (h : Str) : Bool :=
  let W := wordsOf (d.1 ++ h ++ d.2.1)
  ((d.2.2.1 == 1 && (W.length == 1 || (decide (2 ≤ W.length) && !(W[1]?.getD ("" : Str) == ("->" : Str))))) ||
   (d.2.2.1 == 0 && (W == (d.1 ++ h ++ d.2.2.2.1) :: ("->" : Str) :: d.2.2.2.2 && symOk (d.1 ++ h ++ d.2.2.2.1) && d.2.2.2.2.all symOk)) ||
   (d.2.2.1 == -1 && (decide (2 ≤ W.length) && W[1]?.getD ("" : Str) == ("->" : Str) && !((W[0]?.getD ("" : Str) :: W.drop 2).all symOk)))) && decide ((d.1 ++ h ++ d.2.1).length ≤ 20) && decide ((d.1 ++ h ++ d.2.2.2.1).length ≤ 20) && decide (d.2.2.2.2.length ≤ 1) && d.2.2.2.2.all (fun s => decide (s.length ≤ 20))
theorem dm_facts : ∀ d ∈ dmT, ∀ h ∈ goodT, dOkAt d h = true := by decide +kernel
theorem good_ne : ∀ h ∈ goodT, h ≠ ("->" : Str) := by decide +kernel

theorem words_front (f : Str) {b : List Str} (hb : ∀ s ∈ b, noSp s) : wordsOf (lawLine f b) = wordsOf f ++ b := by
  have e : f = Str.join " " (wordsOf f) := (StrLaws.join_split f " ").symm
  have hne : wordsOf f ≠ [] := split_ne f
  have h1 : lawLine f b = Str.join " " (wordsOf f ++ b) := by
    rw [lawLine_join]
    have := join_part (pre := []) (parts := wordsOf f) (post := b) hne
    rw [← e] at this
    exact this
  rw [h1]
  refine words_join (by simp [hne]) fun s hs => ?_
  rcases List.mem_append.mp hs with hs | hs
  · unfold wordsOf at hs
    rw [sp_eq] at hs
    exact StrLaws.split_free _ 32 s hs
  · exact hb s hs

theorem verdict {d : Dm} {r : Rule} (hd : d ∈ dmT) (hr : Good r) :
    (d.2.2.1 = 1 ∧ shapeOk (dline d r) = false) ∨ (d.2.2.1 = 0 ∧ shapeOk (dline d r) = true ∧ parse (dline d r) = ddue d r ∧ ruleOk (ddue d r) = true ∧ lineOf (ddue d r) = dline d r) ∨ (d.2.2.1 = -1 ∧ shapeOk (dline d r) = true ∧ ruleOk (parse (dline d r)) = false) := by
  have hb : ∀ s ∈ r.2, noSp s := fun s hs => (good_sym s (hr.b s hs)).1
  have hf := dm_facts d hd r.1 hr.h
  have hw := words_front (d.1 ++ r.1 ++ d.2.1) hb
  unfold dOkAt at hf
  simp only [Bool.and_eq_true, Bool.or_eq_true] at hf
  obtain ⟨⟨⟨⟨hf, _⟩, _⟩, _⟩, _⟩ := hf
  generalize hW : wordsOf (d.1 ++ r.1 ++ d.2.1) = W at hf hw
  rcases hf with (⟨h1, h2⟩ | ⟨h1, h2⟩) | ⟨h1, h2⟩
  · refine .inl ⟨by simpa using h1, ?_⟩
    unfold shapeOk dline
    rw [hw]
    rcases h2 with h2 | ⟨h2, h3⟩
    · have hl : W.length = 1 := by simpa using h2
      rw [List.getElem?_append_right (by omega), hl, List.length_append, hl]
      cases hr2 : r.2 with
      | nil => rfl
      | cons s b =>
        have := good_ne s (hr.b s (by rw [hr2]; exact List.mem_cons_self))
        have e : (s == ("->" : Str)) = false := beq_eq_false_iff_ne.mpr this
        simp [e]
    · have hl : 2 ≤ W.length := of_decide_eq_true h2
      rw [List.getElem?_append_left (by omega), h3]
      simp
  · simp only [beq_iff_eq] at h2
    obtain ⟨⟨h2, h3⟩, h4⟩ := h2
    have hw' : wordsOf (dline d r) = (d.1 ++ r.1 ++ d.2.2.2.1) :: ("->" : Str) :: (d.2.2.2.2 ++ r.2) := by unfold dline; rw [hw, h2]; rfl
    refine .inr (.inl ⟨by simpa using h1, ?_, ?_, ?_, ?_⟩)
    · unfold shapeOk
      rw [hw']
      have h2 : (decide (((d.1 ++ r.1 ++ d.2.2.2.1) :: ("->" : Str) :: (d.2.2.2.2 ++ r.2)).length < 2)) = false := by simp
      rw [h2]; rfl
    · unfold parse; rw [hw']; rfl
    · unfold ruleOk ddue
      simp only [List.all_cons, List.all_append, h3, h4, Bool.true_and]
      rw [List.all_eq_true]
      exact fun s hs => (good_sym s (hr.b s hs)).2.1
    · have := StrLaws.join_split (dline d r) " "
      unfold wordsOf at hw'
      rw [hw'] at this
      exact this
  · simp only [beq_iff_eq] at h2
    obtain ⟨⟨h2, h3⟩, h4⟩ := h2
    have hl : 2 ≤ W.length := of_decide_eq_true h2
    refine .inr (.inr ⟨by simpa using h1, ?_, ?_⟩)
    · unfold shapeOk dline
      rw [hw, List.getElem?_append_left (by omega), h3, List.length_append]
      have : (decide (W.length + r.2.length < 2)) = false := by simp; omega
      rw [this]; simp
    · unfold parse dline ruleOk
      rw [hw, List.getElem?_append_left (by omega), List.drop_append_of_le_length hl]
      rw [List.all_cons] at h4 ⊢
      rw [List.all_append, ← Bool.and_assoc]
      have : (symOk (W[0]?.getD ("" : Str)) && (W.drop 2).all symOk) = false := by simpa only [Bool.not_eq_true'] using h4
      rw [this]; rfl

/-- the number that is due -/
def stepN (v : Int) (i : Nat) (n : Int) : Int :=
  let n' := if v = 1 ∧ n < 1 then (i : Int) + 1 else n
  if v = -1 ∧ n' = 0 then -1 else n'
def numD (rules : List Rule) (dm : Nat → Dm) : Nat → Int
  | 0 => if rules.length = 0 then -1 else 0
  | i + 1 => stepN (dm i).2.2.1 i (numD rules dm i)
theorem numD_spec {rules : List Rule} {dm : Nat → Dm} (hd : ∀ i, dm i ∈ dmT) (h0 : rules.length ≠ 0) : ∀ i,
    (∃ j, j < i ∧ (dm j).2.2.1 = 1 ∧ (∀ m, m < j → (dm m).2.2.1 ≠ 1) ∧ numD rules dm i = (j : Int) + 1) ∨
    ((∀ m, m < i → (dm m).2.2.1 ≠ 1) ∧ (∃ m, m < i ∧ (dm m).2.2.1 = -1) ∧ numD rules dm i = -1) ∨ ((∀ m, m < i → (dm m).2.2.1 = 0) ∧ numD rules dm i = 0) := by
  have hv : ∀ i, (dm i).2.2.1 = 1 ∨ (dm i).2.2.1 = 0 ∨ (dm i).2.2.1 = -1 := fun i => by
    have : ∀ d ∈ dmT, d.2.2.1 = 1 ∨ d.2.2.1 = 0 ∨ d.2.2.1 = -1 := by decide
    exact this _ (hd i)
  intro i
  induction i with
  | zero => exact .inr (.inr ⟨fun m hm => by omega, by unfold numD; rw [if_neg h0]⟩)
  | succ i ih =>
    have e : numD rules dm (i + 1) = stepN (dm i).2.2.1 i (numD rules dm i) := rfl
    rw [e]
    rcases ih with ⟨j, h1, h2, h3, h4⟩ | ⟨h1, ⟨m, h2, h3⟩, h4⟩ | ⟨h1, h2⟩
    · refine .inl ⟨j, by omega, h2, h3, ?_⟩
      ((unfold stepN; dsimp only; (repeat' split) <;> omega))
    · rcases hv i with q | q | q
      · refine .inl ⟨i, by omega, q, h1, ?_⟩
        ((unfold stepN; dsimp only; (repeat' split) <;> omega))
      · refine .inr (.inl ⟨fun m' hm' => ?_, ⟨m, by omega, h3⟩, ?_⟩)
        · rcases Nat.lt_or_ge m' i with c | c
          · exact h1 m' c
          · have : m' = i := by omega
            rw [this, q]; decide
        · ((unfold stepN; dsimp only; (repeat' split) <;> omega))
      · refine .inr (.inl ⟨fun m' hm' => ?_, ⟨m, by omega, h3⟩, ?_⟩)
        · rcases Nat.lt_or_ge m' i with c | c
          · exact h1 m' c
          · have : m' = i := by omega
            rw [this, q]; decide
        · ((unfold stepN; dsimp only; (repeat' split) <;> omega))
    · have h1' : ∀ m, m < i → (dm m).2.2.1 ≠ 1 := fun m hm => by rw [h1 m hm]; decide
      rcases hv i with q | q | q
      · refine .inl ⟨i, by omega, q, h1', ?_⟩
        ((unfold stepN; dsimp only; (repeat' split) <;> omega))
      · refine .inr (.inr ⟨fun m' hm' => ?_, ?_⟩)
        · rcases Nat.lt_or_ge m' i with c | c
          · exact h1 m' c
          · have : m' = i := by omega
            rw [this, q]
        · ((unfold stepN; dsimp only; (repeat' split) <;> omega))
      · refine .inr (.inl ⟨fun m' hm' => ?_, ⟨i, by omega, q⟩, ?_⟩)
        · rcases Nat.lt_or_ge m' i with c | c
          · exact h1' m' c
          · have : m' = i := by omega
            rw [this, q]; decide
        · ((unfold stepN; dsimp only; (repeat' split) <;> omega))
end

section
set_option autoImplicit false
set_option linter.unusedVariables false
set_option maxRecDepth 100000
open PySem PyProof.Rows PySem.W

def kD (ks : List Nat) : PyData := .list (ks.map fun x : Nat => .int x)
section
variable {rules : List Rule} {dm : Nat → Dm}
variable {prog : Program} {w : World} {mg mb : Str → Option Value} {P : Params}
def dlines (rules : List Rule) (dm : Nat → Dm) : List Str := rules.mapIdx fun i r => dline (dm i) r
def ddues (rules : List Rule) (dm : Nat → Dm) : List Rule := rules.mapIdx fun i r => ddue (dm i) r
theorem dlines_len : (dlines rules dm).length = rules.length := by unfold dlines; simp
theorem ddues_len : (ddues rules dm).length = rules.length := by unfold ddues; simp
theorem dlines_get {i : Nat} (h : i < rules.length) (h' : i < (dlines rules dm).length) : (dlines rules dm)[i] = dline (dm i) rules[i] := List.getElem_mapIdx ..
theorem ddues_get {i : Nat} (h : i < rules.length) (h' : i < (ddues rules dm).length) : (ddues rules dm)[i] = ddue (dm i) rules[i] := List.getElem_mapIdx ..

theorem dm_sizes {d : Dm} {h : Str} (hd : d ∈ dmT) (hh : h ∈ goodT) : (d.1 ++ h ++ d.2.1).length ≤ 20 ∧ (d.1 ++ h ++ d.2.2.2.1).length ≤ 20 ∧ d.2.2.2.2.length ≤ 1 ∧ ∀ s ∈ d.2.2.2.2, s.length ≤ 20 := by
  have hf := dm_facts d hd h hh
  unfold dOkAt at hf
  simp only [Bool.and_eq_true] at hf
  obtain ⟨⟨⟨⟨_, h1⟩, h2⟩, h3⟩, h4⟩ := hf
  refine ⟨of_decide_eq_true h1, of_decide_eq_true h2, of_decide_eq_true h3, fun s hs => ?_⟩
  exact of_decide_eq_true (List.all_eq_true.mp h4 s hs)
theorem dlines_small (hd : ∀ i, dm i ∈ dmT) (hr : ∀ r ∈ rules, Good r) (hl : rules.length ≤ 3) : SmallL (dlines rules dm) := ⟨by rw [dlines_len]; omega, fun l hl' => by
  obtain ⟨i, hi, rfl⟩ := List.getElem_of_mem hl'
  have hi' : i < rules.length := by rwa [dlines_len] at hi
  rw [dlines_get hi']
  have g := hr _ (List.getElem_mem hi')
  have h1 := lawLine_len ((dm i).1 ++ rules[i].1 ++ (dm i).2.1) rules[i].2 3 fun s hs => (good_sym s (g.b s hs)).2.2
  have h2 := (dm_sizes (hd i) g.h).1
  have h3 := g.l
  unfold dline; omega⟩
theorem ddues_tiny (hd : ∀ i, dm i ∈ dmT) (hr : ∀ r ∈ rules, Good r) (hl : rules.length ≤ 3) : Tiny (ddues rules dm) := by
  have key : ∀ r ∈ ddues rules dm, ∃ i, ∃ h : i < rules.length, r = ddue (dm i) rules[i] := fun r hr' => by
    obtain ⟨i, hi, rfl⟩ := List.getElem_of_mem hr'
    have hi' : i < rules.length := by rwa [ddues_len] at hi
    exact ⟨i, hi', ddues_get hi' _⟩
  refine ⟨by rw [ddues_len]; omega, fun r hr' => ?_, fun r hr' => ?_, fun r hr' s hs => ?_⟩ <;> obtain ⟨i, hi, rfl⟩ := key r hr' <;> have g := hr _ (List.getElem_mem hi) <;> have z := dm_sizes (hd i) g.h
  · have := z.2.1; show ((dm i).1 ++ rules[i].1 ++ (dm i).2.2.2.1).length ≤ 50; omega
  · have := g.l; have := z.2.2.1; unfold ddue; show List.length (_ ++ _) ≤ 5; rw [List.length_append]; omega
  · rcases List.mem_append.mp (show s ∈ (dm i).2.2.2.2 ++ rules[i].2 from hs) with q | q
    · have := z.2.2.2 s q; omega
    · have := (good_sym s (g.b s q)).2.2; omega

theorem reads_damaged (G : G1 prog w mg mb P) {k : Nat} (hd : ∀ i, dm i ∈ dmT) (hr : ∀ r ∈ rules, Good r) (hl : rules.length ≤ 3) :
    FnOk (C1 prog w mg mb P) (k + 1 + 1 + 1) 121 [sD (dlines rules dm), .int (numD rules dm rules.length), gD (ddues rules dm)] (.bool true) := by
  have sl := dlines_small hd hr hl
  have ti := ddues_tiny hd hr hl
  have hgf := fn_gft G (k := k) _ sl
  have vd : ∀ i (h : i < rules.length), _ := fun i h => verdict (hd i) (hr _ (List.getElem_mem h))
  have bad : ∀ (hsh : ∀ l ∈ dlines rules dm, shapeOk l = true) (hok : okG ((dlines rules dm).map parse) = false), FnRz (C1 prog w mg mb P) (k + 1 + 1) 46 [sD (dlines rules dm)] 24 msgBad := fun hsh hok => by
    refine hgf.2 _ (fun d q => ?_) fun msg q => ?_
    · have := q.2.1; rw [hok] at this; cases this
    · rcases q with ⟨i, hi, _, q2, _⟩ | ⟨_, _, q3⟩
      · rw [hsh _ (List.getElem_mem hi)] at q2; cases q2
      · exact q3
  by_cases h0 : rules.length = 0
  · have hn : numD rules dm rules.length = -1 := by rw [h0]; unfold numD; rw [if_pos h0]
    rw [hn]
    have he : dlines rules dm = [] := List.length_eq_zero_iff.mp (by rw [dlines_len]; exact h0)
    refine fn_reads_bad G _ _ _ _ sl (by decide) (by decide) (by decide +kernel) (bad (fun l hl' => by rw [he] at hl'; cases hl') (by rw [he]; rfl)) (fun q => absurd q (by decide)) (fun _ => msg_bad)
  · rcases numD_spec hd h0 rules.length with ⟨j, h1, h2, h3, h4⟩ | ⟨h1, ⟨m, h2, h3⟩, h4⟩ | ⟨h1, h2⟩
    · rw [h4]
      have hj : j < (dlines rules dm).length := by rw [dlines_len]; exact h1
      have hb : shapeOk (dlines rules dm)[j] = false := by
        rw [dlines_get h1]
        rcases vd j h1 with q | q | q
        · exact q.2
        · have := q.1; omega
        · have := q.1; omega
      have hg : ∀ m (hm : m < j), shapeOk ((dlines rules dm)[m]'(by omega)) = true := fun m hm => by
        rw [dlines_get (by omega)]
        rcases vd m (by omega) with q | q | q
        · exact absurd q.1 (h3 m hm)
        · exact q.2.1
        · exact q.2.1
      have hrz : FnRz (C1 prog w mg mb P) (k + 1 + 1) 46 [sD (dlines rules dm)] 24 (msgAt j) := by
        refine hgf.2 _ (fun d q => ?_) fun msg q => ?_
        · have := q.1 _ (List.getElem_mem hj); rw [hb] at this; cases this
        · rcases q with ⟨i, hi, q1, q2, rfl⟩ | ⟨q1, _⟩
          · rcases Nat.lt_trichotomy i j with c | c | c
            · rw [hg i c] at q2; cases q2
            · rw [c]
            · have := q1 j c; rw [hb] at this; cases this
          · have := q1 _ (List.getElem_mem hj); rw [hb] at this; cases this
      have hdg := digits_small j (by omega)
      exact fn_reads_bad G _ _ _ _ sl (by omega) (by omega) (by omega) hrz (fun _ => msg_starts j (by omega)) (fun q => by omega)
    · rw [h4]
      refine fn_reads_bad G _ _ _ _ sl (by decide) (by decide) (by decide +kernel) (bad (fun l hl' => ?_) ?_) (fun q => absurd q (by decide)) (fun _ => msg_bad)
      · obtain ⟨i, hi, rfl⟩ := List.getElem_of_mem hl'
        have hi' : i < rules.length := by rwa [dlines_len] at hi
        rw [dlines_get hi']
        rcases vd i hi' with q | q | q
        · exact absurd q.1 (h1 i hi')
        · exact q.2.1
        · exact q.2.1
      · unfold okG
        have hm : m < ((dlines rules dm).map parse).length := by rw [List.length_map, dlines_len]; exact h2
        have : ((dlines rules dm).map parse).all ruleOk = false := by
          refine all_false_of ruleOk hm ?_
          rw [List.getElem_map, dlines_get h2]
          rcases vd m h2 with q | q | q
          · have := q.1; omega
          · have := q.1; omega
          · exact q.2.2
        rw [this, Bool.and_false]
    · rw [h2]
      have ve : ∀ i (h : i < rules.length), shapeOk (dline (dm i) rules[i]) = true ∧ parse (dline (dm i) rules[i]) = ddue (dm i) rules[i] ∧ ruleOk (ddue (dm i) rules[i]) = true ∧ lineOf (ddue (dm i) rules[i]) = dline (dm i) rules[i] := fun i h => by
        rcases vd i h with q | q | q
        · have := q.1; have := h1 i h; omega
        · exact q.2
        · have := q.1; have := h1 i h; omega
      have hpa : (dlines rules dm).map parse = ddues rules dm := List.ext_getElem (by rw [List.length_map, dlines_len, ddues_len]) fun i a b => by
        have hi : i < rules.length := by rwa [ddues_len] at b
        rw [List.getElem_map, dlines_get hi, ddues_get hi]; exact (ve i hi).2.1
      have hli : (ddues rules dm).map lineOf = dlines rules dm := List.ext_getElem (by rw [List.length_map, dlines_len, ddues_len]) fun i a b => by
        have hi : i < rules.length := by rwa [dlines_len] at b
        rw [List.getElem_map, dlines_get hi, ddues_get hi]; exact (ve i hi).2.2.2
      have hsh : ∀ l ∈ dlines rules dm, shapeOk l = true := fun l hl' => by
        obtain ⟨i, hi, rfl⟩ := List.getElem_of_mem hl'
        have hi' : i < rules.length := by rwa [dlines_len] at hi
        rw [dlines_get hi']; exact (ve i hi').1
      have hok : okG (ddues rules dm) = true := by
        unfold okG
        rw [ddues_len, beq_eq_false_iff_ne.mpr h0]
        simp only [Bool.not_false, Bool.true_and, List.all_eq_true]
        intro r hr'
        obtain ⟨i, hi, rfl⟩ := List.getElem_of_mem hr'
        have hi' : i < rules.length := by rwa [ddues_len] at hi
        rw [ddues_get hi']; exact (ve i hi').2.2.1
      refine fn_reads_ok G _ _ sl ti.small (hgf.1 _ (fun d q => by rw [q.2.2, hpa]) fun msg q => ?_) hok hli
      rcases q with ⟨i, hi, _, q2, _⟩ | ⟨_, q2, _⟩
      · rw [hsh _ (List.getElem_mem hi)] at q2; cases q2
      · rw [hpa, hok] at q2; cases q2

theorem fn_law_damaged (G : G1 prog w mg mb P) {k : Nat} (hr : ∀ r ∈ rules, Good r) (hl : rules.length ≤ 3) (ks : List Nat) (hks : ks.length = 3) (hk : ∀ i < 3, dmT[ks[i]?.getD 0]? = some (dm i)) (hd : ∀ i, dm i ∈ dmT) (hb : ∀ x ∈ ks, x < 12) :
    FnOk (C1 prog w mg mb P) (k + 1 + 1 + 1 + 1) 135 [gD rules, kD ks] (.bool true) := by
  refine fn_intro (ps := ["rules", "kinds"]) (fnDef_of rfl rfl rfl rfl rfl rfl rfl (by ((intro vs h; rcases vs with _ | ⟨_, _ | ⟨_, _ | ⟨_, _ | ⟨_, _ | ⟨_, _ | ⟨_, _⟩⟩⟩⟩⟩⟩ <;> first | rfl | (simp at h; done)))) (by decide) rfl rfl rfl rfl rfl rfl) rfl fun A L s₀ Z₀ E hA hO hF => ?_
  have hsl : sizeLine = 16777216 := rfl
  have hlen : lenD (gD rules) = some rules.length := by simp [lenD, gD]
  refine ex_cons (xs_new rfl (hO _) ?_)
  refine ex_cons (xs_new rfl (hO _) ?_)
  refine ex_cons (xs_assign (ev_int _) rfl (hO _) rfl ?_)
  refine ex_join (fun Γ' => Has Γ' [("number", .fz (.int (numD rules dm 0))), ("due", .own []), ("lines", .own []), ("rules", .fz (gD rules)), ("kinds", .fz (kD ks))])
    (xs_if (c_eqI hA (e_len (n := rules.length) (G.b rfl rfl PyProof.Rows.Boot.«len» (by decide)) (ev_var rfl rfl) rfl hlen (by omega)) (ev_int 0)) (fun hb => ?_) (fun hb => ?_)) (fun Γ' hG => ex_has hG ?_)
  · have h0 : rules.length = 0 := by have := beq_iff_eq.mp hb; omega
    have hn : numD rules dm 0 = -1 := by unfold numD; rw [if_pos h0]
    rw [hn]
    exact ex_cons (xs_assign (e_neg (ev_int 1)) rfl (hO _) rfl (ex_nil (by (repeat (first | exact Has.nil _ | refine Has.add rfl ?_)))))
  · have h0 : rules.length ≠ 0 := by have := beq_eq_false_iff_ne.mp hb; omega
    have hn : numD rules dm 0 = 0 := by unfold numD; rw [if_neg h0]
    rw [hn]
    exact ex_nil (by (repeat (first | exact Has.nil _ | refine Has.add rfl ?_)))
  refine ex_cons (xs_for (k := 0) (fun i Γ' => Has Γ' [("lines", .own (((rules.take i).mapIdx fun i r => dline (dm i) r).map .str)), ("due", .own (((rules.take i).mapIdx fun i r => ddue (dm i) r).map rD)), ("number", .fz (.int (numD rules dm i))), ("rules", .fz (gD rules)), ("kinds", .fz (kD ks))])
    (s_range (n := rules.length) hA.hd (G.b rfl rfl PyProof.Rows.Boot.«range» (by decide)) (e_len (n := rules.length) (G.b rfl rfl PyProof.Rows.Boot.«len» (by decide)) (ev_var rfl rfl) rfl hlen (by omega)) rfl (by omega)) (fun _ => rfl) (by (repeat (first | exact Has.nil _ | refine Has.add rfl ?_))) (fun i Γ' hi hJ => ?_) (fun Γ' hJ => ?_))
  · have g := hr _ (List.getElem_mem hi)
    have z := dm_sizes (hd i) g.h
    have g3 := g.l
    have hki : i < ks.length := by omega
    have hkx := hb _ (List.getElem_mem hki)
    have hki2 := hk i (by omega)
    rw [List.getElem?_eq_getElem hki] at hki2
    simp only [Option.getD_some] at hki2
    refine ⟨_, as_name rfl (hO _), ex_has hJ.cons ?_⟩
    refine ex_cons (xs_unpack hA (e_item (d := .tuple [.str rules[i].1, sD rules[i].2]) (ev_var rfl rfl) (ev_var rfl rfl) rfl (by omega) (by omega) (by simp [hi, rD])) (asl_cons (as_name rfl (hO _)) (asl_cons (as_name rfl (hO _)) asl_nil rfl) rfl) rfl rfl ?_)
    refine ex_cons (xs_unpack hA (e_item (d := dmD (dm i)) (ev_glob rfl (G.at rfl) top_damages) (e_item (d := .int ks[i]) (ev_var rfl rfl) (ev_var rfl rfl) rfl (by omega) (by omega) (by simp [hki])) rfl (by omega) (by omega) (by show (dmT.map dmD)[ks[i]]? = _; rw [List.getElem?_map, hki2]; rfl))
      (asl_cons (as_name rfl (hO _)) (asl_cons (as_name rfl (hO _)) (asl_cons (as_name rfl (hO _)) (asl_cons (as_name rfl (hO _)) (asl_cons (as_name rfl (hO _)) asl_nil rfl) rfl) rfl) rfl) rfl) rfl rfl ?_)
    have q1 := z.1
    have q2 := z.2.1
    rw [Str.length_append] at q1 q2
    have hll := fn_law_line G (k := k + 1 + 1) ((dm i).1 ++ rules[i].1 ++ (dm i).2.1) rules[i].2 (by rw [Str.length_append]; omega) (by omega) (fun s hs => by have := (good_sym s (g.b s hs)).2.2; omega)
    refine ex_cons (xs_append rfl rfl (by simp only [List.length_map, List.length_mapIdx, List.length_take]; omega) (ev_call hA rfl (G.at rfl) rfl rfl (evs_cons (e_addS (e_addS (ev_var rfl rfl) (ev_var rfl rfl) (by rw [Str.length_append] at q1; omega)) (ev_var rfl rfl) (by omega)) (evs_cons (ev_var rfl rfl) evs_nil rfl) rfl) rfl hll) rfl rfl rfl ?_)
    refine ex_cons (xs_append rfl rfl (by simp only [List.length_map, List.length_mapIdx, List.length_take]; omega) (ev_tuple (evs_cons (e_addS (e_addS (ev_var rfl rfl) (ev_var rfl rfl) (by rw [Str.length_append] at q1; omega)) (ev_var rfl rfl) (by omega)) (evs_cons (e_addL (ev_var rfl rfl) (ev_var rfl rfl) (by have := z.2.2.1; simp only [List.length_map]; omega)) evs_nil rfl) rfl) (by show 2 ≤ sizeLine; decide)) rfl rfl rfl ?_)
    have tabs : ∀ {n : Int}, n = (if (dm i).2.2.1 = 1 ∧ numD rules dm i < 1 then (i : Int) + 1 else numD rules dm i) → True := fun _ => trivial
    refine ex_join (fun Γ' => Has Γ' [("number", .fz (.int (if (dm i).2.2.1 = 1 ∧ numD rules dm i < 1 then (i : Int) + 1 else numD rules dm i))), ("lines", .own (((rules.take (i + 1)).mapIdx fun i r => dline (dm i) r).map .str)), ("due", .own (((rules.take (i + 1)).mapIdx fun i r => ddue (dm i) r).map rD)), ("verdict", .fz (.int (dm i).2.2.1)), ("rules", .fz (gD rules)), ("kinds", .fz (kD ks))])
      (xs_if (cd_and (c_eqI hA (ev_var rfl rfl) (ev_int 1)) fun _ => cd_and (c_lt hA (ev_var rfl rfl) (ev_int 1)) fun _ => cd_and0) (fun hb => ?_) (fun hb => ?_)) (fun Γ' hG => ex_has hG ?_)
    · simp only [Bool.and_eq_true, beq_iff_eq, decide_eq_true_eq, and_true] at hb
      rw [if_pos hb]
      refine ex_cons (xs_assign (e_addI (ev_var rfl rfl) (ev_int 1)) rfl (hO _) rfl (ex_nil (Has.add rfl (Has.add ?_ (Has.add ?_ (by (repeat (first | exact Has.nil _ | refine Has.add rfl ?_))))))))
      · show some (Ent.own _) = some (Ent.own _); rw [mapIdx_take _ hi, List.map_append]; rfl
      · show some (Ent.own _) = some (Ent.own _); rw [mapIdx_take _ hi, List.map_append]
        congr 3
        unfold ddue rD sD
        show _ = [PyData.tuple [PyData.str _, PyData.list (List.map PyData.str (_ ++ _))]]
        rw [List.map_append]
    · have hb' : ¬ ((dm i).2.2.1 = 1 ∧ numD rules dm i < 1) := fun q => by
        rw [beq_iff_eq.mpr q.1, decide_eq_true q.2] at hb; cases hb
      rw [if_neg hb']
      refine ex_nil (Has.add rfl (Has.add ?_ (Has.add ?_ (by (repeat (first | exact Has.nil _ | refine Has.add rfl ?_))))))
      · show some (Ent.own _) = some (Ent.own _); rw [mapIdx_take _ hi, List.map_append]; rfl
      · show some (Ent.own _) = some (Ent.own _); rw [mapIdx_take _ hi, List.map_append]
        congr 3
        unfold ddue rD sD
        show _ = [PyData.tuple [PyData.str _, PyData.list (List.map PyData.str (_ ++ _))]]
        rw [List.map_append]
    have hstep : numD rules dm (i + 1) = stepN (dm i).2.2.1 i (numD rules dm i) := rfl
    unfold stepN at hstep
    dsimp only at hstep
    generalize (if (dm i).2.2.1 = 1 ∧ numD rules dm i < 1 then (i : Int) + 1 else numD rules dm i) = n1 at hstep
    refine ex_cons (xs_if (cd_and (c_eqI hA (ev_var rfl rfl) (e_neg (ev_int 1))) fun _ => cd_and (c_eqI hA (ev_var rfl rfl) (ev_int 0)) fun _ => cd_and0) (fun hb => ?_) (fun hb => ?_))
    · simp only [Bool.and_eq_true, beq_iff_eq, and_true] at hb
      rw [if_pos ⟨hb.1, hb.2⟩] at hstep
      refine ex_cons (xs_assign (e_neg (ev_int 1)) rfl (hO _) rfl (ex_nil (ex_nil ?_)))
      rw [hstep]; (repeat (first | exact Has.nil _ | refine Has.add rfl ?_))
    · have hb' : ¬ ((dm i).2.2.1 = -1 ∧ n1 = 0) := fun q => by
        rw [beq_iff_eq.mpr q.1, beq_iff_eq.mpr q.2] at hb; cases hb
      rw [if_neg hb'] at hstep
      refine ex_nil (ex_nil ?_)
      rw [hstep]; (repeat (first | exact Has.nil _ | refine Has.add rfl ?_))
  · rw [List.take_length] at hJ
    refine ex_has hJ (ex_freeze (x := "lines") rfl (ex_freeze (x := "due") rfl ?_))
    have hrd := reads_damaged G (k := k) hd hr hl
    refine ex_cons (xs_if (cd_not (c_bool (ev_call hA rfl (G.at rfl) rfl rfl (evs_cons (ev_var rfl rfl) (evs_cons (ev_var rfl rfl) (evs_cons (ev_var rfl rfl) evs_nil rfl) rfl) rfl) rfl hrd) (fun _ => rfl))) (fun hb => by cases hb) fun _ => ex_nil ?_)
    exact ex_cons (xs_return (ev_bool true) rfl)
end
end

section
set_option autoImplicit false
set_option linter.unusedVariables false
set_option maxRecDepth 100000
open PySem PyProof.Rows PySem.W

theorem good_mem (a : Int) : good a ∈ goodT := by
  unfold good
  have h : idx a 12 < goodT.length := idx_lt a (by decide)
  rw [List.getElem?_eq_getElem h]
  exact List.getElem_mem h
theorem ruleOf_good (h n a b c : Int) : Good (ruleOf h n a b c) := ⟨good_mem h, fun s hs => by
  have := List.mem_of_mem_take hs
  simp only [List.mem_cons, List.not_mem_nil, or_false] at this
  rcases this with rfl | rfl | rfl <;> exact good_mem _, by show (List.take _ _).length ≤ 3; rw [List.length_take]; simp; omega⟩

section
variable {prog : Program} {w : World} {mg mb : Str → Option Value} {P : Params}
theorem fn_law1 (G : G1 prog w mg mb P) {k : Nat} (xs : List Int) (hl : xs.length ≤ 63) : FnOk (C1 prog w mg mb P) (k + 1 + 1 + 1 + 1 + 1) 142 [.list (xs.map .int)] (.bool true) := by
  refine fn_intro (ps := ["script"]) (fnDef_of rfl rfl rfl rfl rfl rfl rfl (by ((intro vs h; rcases vs with _ | ⟨_, _ | ⟨_, _ | ⟨_, _ | ⟨_, _ | ⟨_, _ | ⟨_, _⟩⟩⟩⟩⟩⟩ <;> first | rfl | (simp at h; done)))) (by decide) rfl rfl rfl rfl rfl rfl) rfl fun A L s₀ Z₀ E hA hO hF => ?_
  have hsl : sizeLine = 16777216 := rfl
  refine ex_cons (xs_if (c_lt hA (e_len (n := xs.length) (G.b rfl rfl PyProof.Rows.Boot.«len» (by decide)) (ev_var rfl rfl) rfl (by simp [lenD]) (by omega)) (ev_int 22)) (fun hb => ?_) (fun hb => ?_))
  · exact ex_cons (xs_return (ev_bool true) rfl)
  · have hlen : 22 ≤ xs.length := by have := of_decide_eq_false hb; omega
    refine ex_nil ?_
    have sx : ∀ i, i < 22 → (xs.map PyData.int)[((i : Nat) : Int).toNat]? = some (.int (xs.getD i 0)) := fun i hi => by
      rw [Int.toNat_natCast, List.getElem?_map, List.getElem?_eq_getElem (by omega), List.getD_eq_getElem?_getD, List.getElem?_eq_getElem (by omega)]; rfl
    refine ex_cons (xs_assign (ev_call hA rfl (G.at rfl) rfl rfl (evs_cons (e_item (ev_var rfl rfl) (ev_int 4) rfl (by decide) (by decide) (sx 4 (by decide))) (evs_cons (e_item (ev_var rfl rfl) (ev_int 5) rfl (by decide) (by decide) (sx 5 (by decide))) (evs_cons (e_item (ev_var rfl rfl) (ev_int 6) rfl (by decide) (by decide) (sx 6 (by decide))) (evs_cons (e_item (ev_var rfl rfl) (ev_int 7) rfl (by decide) (by decide) (sx 7 (by decide))) (evs_cons (e_item (ev_var rfl rfl) (ev_int 8) rfl (by decide) (by decide) (sx 8 (by decide))) evs_nil rfl) rfl) rfl) rfl) rfl) rfl (fn_law_rule G _ _ _ _ _)) rfl (hO _) rfl ?_)
    refine ex_cons (xs_assign (ev_call hA rfl (G.at rfl) rfl rfl (evs_cons (e_item (ev_var rfl rfl) (ev_int 9) rfl (by decide) (by decide) (sx 9 (by decide))) (evs_cons (e_item (ev_var rfl rfl) (ev_int 10) rfl (by decide) (by decide) (sx 10 (by decide))) (evs_cons (e_item (ev_var rfl rfl) (ev_int 11) rfl (by decide) (by decide) (sx 11 (by decide))) (evs_cons (e_item (ev_var rfl rfl) (ev_int 12) rfl (by decide) (by decide) (sx 12 (by decide))) (evs_cons (e_item (ev_var rfl rfl) (ev_int 13) rfl (by decide) (by decide) (sx 13 (by decide))) evs_nil rfl) rfl) rfl) rfl) rfl) rfl (fn_law_rule G _ _ _ _ _)) rfl (hO _) rfl ?_)
    refine ex_cons (xs_assign (ev_call hA rfl (G.at rfl) rfl rfl (evs_cons (e_item (ev_var rfl rfl) (ev_int 14) rfl (by decide) (by decide) (sx 14 (by decide))) (evs_cons (e_item (ev_var rfl rfl) (ev_int 15) rfl (by decide) (by decide) (sx 15 (by decide))) (evs_cons (e_item (ev_var rfl rfl) (ev_int 16) rfl (by decide) (by decide) (sx 16 (by decide))) (evs_cons (e_item (ev_var rfl rfl) (ev_int 17) rfl (by decide) (by decide) (sx 17 (by decide))) (evs_cons (e_item (ev_var rfl rfl) (ev_int 18) rfl (by decide) (by decide) (sx 18 (by decide))) evs_nil rfl) rfl) rfl) rfl) rfl) rfl (fn_law_rule G _ _ _ _ _)) rfl (hO _) rfl ?_)
    generalize hr1 : ruleOf (xs.getD 4 0) (xs.getD 5 0) (xs.getD 6 0) (xs.getD 7 0) (xs.getD 8 0) = r1
    generalize hr2 : ruleOf (xs.getD 9 0) (xs.getD 10 0) (xs.getD 11 0) (xs.getD 12 0) (xs.getD 13 0) = r2
    generalize hr3 : ruleOf (xs.getD 14 0) (xs.getD 15 0) (xs.getD 16 0) (xs.getD 17 0) (xs.getD 18 0) = r3
    have hgood : ∀ r ∈ [r1, r2, r3].take (idx (xs.getD 0 0) 4), Good r := fun r hr => by
      have := List.mem_of_mem_take hr
      simp only [List.mem_cons, List.not_mem_nil, or_false] at this
      rcases this with rfl | rfl | rfl
      · rw [← hr1]; exact ruleOf_good _ _ _ _ _
      · rw [← hr2]; exact ruleOf_good _ _ _ _ _
      · rw [← hr3]; exact ruleOf_good _ _ _ _ _
    have hlen3 : ([r1, r2, r3].take (idx (xs.getD 0 0) 4)).length ≤ 3 := by rw [List.length_take]; simp; omega
    have hsl4 : PyData.list (sliceD [rD r1, rD r2, rD r3] none (some ((xs.getD 0 0).fmod 4))) = gD ([r1, r2, r3].take (idx (xs.getD 0 0) 4)) := by
      rw [sliceD_to _ _ (Int.fmod_nonneg_of_pos _ (by omega))]
      unfold gD idx
      rw [List.map_take]; rfl
    generalize hrs : [r1, r2, r3].take (idx (xs.getD 0 0) 4) = rules at *
    refine ex_cons (xs_assign ((ev_slice (ev_list (evs_cons (ev_var rfl rfl) (evs_cons (ev_var rfl rfl) (evs_cons (ev_var rfl rfl) evs_nil rfl) rfl) rfl) (by show 3 ≤ sizeLine; decide)) o_none (o_some (e_mod (e_item (ev_var rfl rfl) (ev_int 0) rfl (by decide) (by decide) (sx 0 (by decide))) (ev_int 4) (by decide))) (by show 3 ≤ sizeLine; decide)).cast hsl4) rfl (hO _) rfl ?_)
    have hkd : idx (xs.getD 1 0) 10 < stT.length := idx_lt _ (by decide)
    have hpr := fn_law_printed G (k := k) (a := idx (xs.getD 2 0) 3) (place := (xs.getD 3 0).fmod 12) (kd := idx (xs.getD 1 0) 10) hgood hlen3 (idx_lt _ (by decide)) (idx_lt _ (by decide)) (List.getElem?_eq_getElem hkd) (Int.fmod_nonneg_of_pos _ (by omega))
    refine ex_cons (xs_if (cd_not (c_bool (ev_call (ds := [gD rules, .int (idx (xs.getD 1 0) 10), .int (idx (xs.getD 2 0) 3), .int ((xs.getD 3 0).fmod 12)]) hA rfl (G.at rfl) rfl rfl
      (evs_cons (ev_var rfl rfl) (evs_cons ((e_mod (e_item (ev_var rfl rfl) (ev_int 1) rfl (by decide) (by decide) (sx 1 (by decide))) (ev_int 10) (by decide)).cast (by rw [← fmod_idx _ (by decide)]; rfl)) (evs_cons ((e_mod (e_item (ev_var rfl rfl) (ev_int 2) rfl (by decide) (by decide) (sx 2 (by decide))) (ev_int 3) (by decide)).cast (by rw [← fmod_idx _ (by decide)]; rfl)) (evs_cons (e_mod (e_item (ev_var rfl rfl) (ev_int 3) rfl (by decide) (by decide) (sx 3 (by decide))) (ev_int 12) (by decide)) evs_nil rfl) rfl) rfl) rfl) rfl hpr) (fun _ => rfl))) (fun hb => by cases hb) fun _ => ex_nil ?_)
    have hks : ∀ i < 3, dmT[[idx (xs.getD 19 0) 12, idx (xs.getD 20 0) 12, idx (xs.getD 21 0) 12][i]?.getD 0]? = some ((dmT[[idx (xs.getD 19 0) 12, idx (xs.getD 20 0) 12, idx (xs.getD 21 0) 12][i]?.getD 0]?).getD (("", "", 0, "", []) : Dm)) := fun i hi => by
      have h1 : [idx (xs.getD 19 0) 12, idx (xs.getD 20 0) 12, idx (xs.getD 21 0) 12][i]?.getD 0 < dmT.length := by
        show _ < 12
        rcases i with _ | _ | _ | i
        · exact idx_lt _ (by decide)
        · exact idx_lt _ (by decide)
        · exact idx_lt _ (by decide)
        · omega
      rw [List.getElem?_eq_getElem h1]; rfl
    have hdm : ∀ i : Nat, (if i < 3 then (dmT[[idx (xs.getD 19 0) 12, idx (xs.getD 20 0) 12, idx (xs.getD 21 0) 12][i]?.getD 0]?).getD (("", "", 0, "", []) : Dm) else (("", " ->", 0, "", []) : Dm)) ∈ dmT := fun i => by
      split
      · rename_i h; exact List.mem_of_getElem? (hks i h)
      · decide
    have hdr := fn_law_damaged G (k := k) (dm := fun i => if i < 3 then (dmT[[idx (xs.getD 19 0) 12, idx (xs.getD 20 0) 12, idx (xs.getD 21 0) 12][i]?.getD 0]?).getD (("", "", 0, "", []) : Dm) else (("", " ->", 0, "", []) : Dm)) hgood hlen3 [idx (xs.getD 19 0) 12, idx (xs.getD 20 0) 12, idx (xs.getD 21 0) 12] rfl (fun i hi => by rw [if_pos hi]; exact hks i hi) hdm (fun x hx => by
      simp only [List.mem_cons, List.not_mem_nil, or_false] at hx
      rcases hx with rfl | rfl | rfl <;> exact idx_lt _ (by decide))
    have em : ∀ a : Int, PyData.int (a.fmod 12) = .int ((idx a 12 : Nat) : Int) := fun a => by rw [← fmod_idx a (n := 12) (by decide)]; rfl
    refine ex_cons (xs_assign ((ev_list (evs_cons ((e_mod (e_item (ev_var rfl rfl) (ev_int 19) rfl (by decide) (by decide) (sx 19 (by decide))) (ev_int 12) (by decide)).cast (em _)) (evs_cons ((e_mod (e_item (ev_var rfl rfl) (ev_int 20) rfl (by decide) (by decide) (sx 20 (by decide))) (ev_int 12) (by decide)).cast (em _)) (evs_cons ((e_mod (e_item (ev_var rfl rfl) (ev_int 21) rfl (by decide) (by decide) (sx 21 (by decide))) (ev_int 12) (by decide)).cast (em _)) evs_nil rfl) rfl) rfl) (by show 3 ≤ sizeLine; decide))) rfl (hO _) rfl ?_)
    refine ex_cons (xs_if (cd_not (c_bool (ev_call hA rfl (G.at rfl) rfl rfl (evs_cons (ev_var rfl rfl) (evs_cons (ev_var rfl rfl) evs_nil rfl) rfl) rfl hdr) (fun _ => rfl))) (fun hb => by cases hb) fun _ => ex_nil ?_)
    exact ex_cons (xs_return (ev_bool true) rfl)
end

/-- the script of a law -/
theorem rd_script {P : Params} {prog : Program} {w : World} {h : Heap} {v : Value} {xs : List Int} (x : Well P h v (ofPy (.list (xs.map PyData.int)))) : Rd prog w noZ h v (.list (xs.map PyData.int)) := by
  have e : ofPy (.list (xs.map PyData.int)) = .list (ofPys (xs.map PyData.int)) := by rw [ofPy]
  rw [e] at x
  cases x with
  | @list a vs _ he hv =>
    refine .list (n := 0) he (fun q => q) ?_
    clear he e
    show Rds prog w noZ h vs _
    induction xs generalizing vs with
    | nil =>
      have e : ofPys (([] : List Int).map PyData.int) = [] := by simp [ofPys]
      rw [e] at hv
      cases hv; exact .nil
    | cons i xs ih =>
      have e : ofPys ((i :: xs).map PyData.int) = .int i :: ofPys (xs.map PyData.int) := by simp [ofPys, ofPy]
      rw [e] at hv
      cases hv with
      | cons h1 h2 =>
        cases h1
        exact .cons (.int _ _) (ih h2)
end

section
set_option autoImplicit false
set_option linter.unusedVariables false
set_option maxRecDepth 100000
open PySem PyProof.Rows PySem.W

theorem not_frame_caller {b : Addr} : ¬ isFrame callerA b := fun ⟨l, hl, env, he, _⟩ => by cases hl; cases he
theorem frOk_caller {h : Heap} : FrOk callerA h := ⟨[], rfl, fun env he => by cases he⟩
theorem okA_caller : OkA callerA 40 := ⟨rfl, by decide, by decide⟩

theorem kf_of : ∀ {K : List (Addr × Obj)}, (K.all fun p => !(p.2.cls == .type "frame")) = true → ∀ a o, K.lookup a = some o → o.cls ≠ .type "frame"
  | [], _, a, o, e => by cases e
  | (b, x) :: r, h, a, o, e => by
    simp only [List.all_cons, Bool.and_eq_true] at h
    rw [List.lookup_cons] at e
    split at e
    · cases e
      intro q
      rw [q] at h
      exact absurd h.1 (by decide)
    · exact kf_of h.2 a o e

set_option Elab.async false
set_option maxHeartbeats 8000000
theorem holds1 : PySem.Challenge.rw_sx_yaugur_1.Holds := hd1 (by
  k_fill
  intro w s₀ s₁ mg mb G Y fa o pm cd doc dV kV ho hd hcd hD hmg hg args vals as hpre hlay hrd hwl hlo
  have KX := kIn_of Y
  have hmg' : mg "law" = some (.ref fa) := hmg
  clear hmg hd hcd hD
  refine Ground.open G ?_
  intro T B D TE TW
  try (refine guard_noD D (by decide +kernel) ?_; clear D)
  wrow_args hpre hlay hrd hwl hlo
  rename List Int => xs
  rename Well _ _ _ _ => hw
  rename ¬ _ < _ => hlen
  have B0 : Base (C1 Challenge.rw_sx_yaugur_1.row.prog w mg mb w.params) s₁.heap := ⟨T.g, T.b, T.nolimit, T.nodigits, KX, kf_of (by kernel_rfl)⟩
  have G1' : G1 Challenge.rw_sx_yaugur_1.row.prog w mg mb w.params := ⟨⟨_, B0⟩, T.builtins⟩
  have hfa : fa = 142 := by
    have := G1'.at (x := "law") (v := .ref 142) rfl
    rw [hmg'] at this; cases this; rfl
  subst hfa
  have hf := fn_law1 G1' (k := 35) xs (by omega)
  show wpAny _ _ (call _ _) _ _ _
  refine wpAny_mono (hf callerA _ s₁ noZ _ okA_caller frOk_caller B0 ⟨fun _ q => q.elim, fun _ q => q.elim⟩ (.cons (rd_script hw) .nil)) (fun v s' ⟨kp, rd⟩ => ?_) fun _ _ x => x
  cases rd
  obtain ⟨h', tk, rfl⟩ := kp.same
  refine GoodW.toG ⟨.inl ⟨_, .bool true, [], rfl, fun _ => rfl, .bool true, by kernel_rfl, fun _ => ⟨List.nodup_nil, fun a ha => by cases ha⟩⟩, fun b o e => (kp.ext b o e).elim id fun q => absurd q.1 not_frame_caller, rfl, hg⟩)
end
end Mine

theorem PySem.Challenge.cw_sx_yaugur_1_holds : PySem.Challenge.rw_sx_yaugur_1.Holds :=
  Mine.holds1
