import PyProof.Rows.All
import Wide.All
import OpenK.AllK
import Wide.FinOn
import Lean
import PySem.Challenge.RW_k18_0025
section
set_option maxRecDepth 100000
set_option Elab.async false
set_option linter.unusedVariables false
namespace Mine
open PySem PySem.Spec PyProof.Rows
/-- abstract values: values without tokens -/
inductive V where
  | none | bool (b : Bool) | int (i : Int) | str (s : Str) | loc (a : Addr) | typ (n : String)
def absV : Value → Option V
  | .none => some .none
  | .bool b => some (.bool b)
  | .int i _ => some (.int i)
  | .str x _ => if PyData.strOk x = true then some (.str x) else Option.none
  | .ref a => some (.loc a)
  | .type n => some (.typ n)
  | _ => Option.none
/-- abstract objects -/
inductive AO where
  | list (vs : List V) | tuple (vs : List V) | dict (kvs : List (Str × V))
abbrev HV := Addr → Option AO
abbrev EV := Str → Option V
def upd (H : HV) (a : Addr) (o : AO) : HV := fun b => if b = a then some o else H b
def put (ρ : EV) (x : Str) (v : V) : EV := fun y => if y = x then some v else ρ y
def HV.le (H H' : HV) : Prop := ∀ a o, H a = some o → H' a = some o
inductive ValsAre : List Value → List V → Prop
  | nil : ValsAre [] []
  | cons {x : Value} {v : V} {xs : List Value} {vs : List V} : absV x = some v → ValsAre xs vs → ValsAre (x :: xs) (v :: vs)
theorem ValsAre.length {xs : List Value} {vs : List V} (h : ValsAre xs vs) : xs.length = vs.length := by
  induction h with
  | nil => rfl
  | cons _ _ ih => simp [ih]
theorem ValsAre.append {xs ys : List Value} {vs us : List V} (h : ValsAre xs vs) (k : ValsAre ys us) : ValsAre (xs ++ ys) (vs ++ us) := by
  induction h with
  | nil => exact k
  | cons a _ ih => exact .cons a ih
theorem ValsAre.one {x : Value} {v : V} (h : absV x = some v) : ValsAre [x] [v] := .cons h .nil
theorem ValsAre.get {xs : List Value} {vs : List V} (h : ValsAre xs vs) {i : Nat} {v : V} (e : vs[i]? = some v) : ∃ x, xs[i]? = some x ∧ absV x = some v := by
  induction h generalizing i with
  | nil => simp at e
  | @cons x u xs vs a _ ih =>
    cases i with
    | zero => simp at e; subst e; exact ⟨x, rfl, a⟩
    | succ i => simpa using ih (by simpa using e)
theorem ValsAre.take {xs : List Value} {vs : List V} (h : ValsAre xs vs) (n : Nat) : ValsAre (xs.take n) (vs.take n) := by
  induction h generalizing n with
  | nil => simp; exact .nil
  | cons a _ ih =>
    cases n with
    | zero => simp; exact .nil
    | succ n => simp only [List.take_succ_cons]; exact .cons a (ih n)
theorem ValsAre.drop {xs : List Value} {vs : List V} (h : ValsAre xs vs) (n : Nat) : ValsAre (xs.drop n) (vs.drop n) := by
  induction h generalizing n with
  | nil => simp; exact .nil
  | cons a r ih =>
    cases n with
    | zero => simp only [List.drop_zero]; exact .cons a r
    | succ n => simp only [List.drop_succ_cons]; exact ih n
theorem ValsAre.set {xs : List Value} {vs : List V} (h : ValsAre xs vs) (n : Nat) {x : Value} {v : V} (e : absV x = some v) : ValsAre (xs.set n x) (vs.set n v) := by
  induction h generalizing n with
  | nil => simp; exact .nil
  | cons a r ih =>
    cases n with
    | zero => simp only [List.set_cons_zero]; exact .cons e r
    | succ n => simp only [List.set_cons_succ]; exact .cons a (ih n)
theorem ValsAre.replicate {x : Value} {v : V} (e : absV x = some v) : ∀ n : Nat, ValsAre (List.replicate n x) (List.replicate n v)
  | 0 => .nil
  | n + 1 => .cons e (ValsAre.replicate e n)
section
variable (prog : Program) (w : World)
/-- the object at a is o -/
def ObjIs (h : Heap) (a : Addr) : AO → Prop
  | .list vs => ∃ its : List Value, h.PlainList a its.toArray ∧ ValsAre its vs ∧ vs.length ≤ 1048576
  | .tuple vs => ∃ its : List Value, h.IsTuple a its.toArray ∧ ValsAre its vs ∧ vs.length ≤ 1048576
  | .dict kvs => ∃ cs : List (Str × Value), h.DictOf (strKind prog w) a cs ∧ cs.map (·.1) = kvs.map (·.1) ∧ ValsAre (cs.map (·.2)) (kvs.map (·.2)) ∧ kvs.length ≤ 1048576
end
/-- the room that k nested calls want -/
structure Rm (A : Around) (k : Nat) : Prop where
  hd : A.handled = Option.none
  dp : A.depth + k ≤ 900
  un : A.units + 8 * k ≤ 9000
structure EnvOk (env : Env) (nms : List (Str × NameKind)) : Prop where
  kind : env.scope.kind = .function
  glob : env.globals = mainGlobals
  bui : env.builtins = builtinsNs
  names : env.scope.names = nms
/-- where the walk stands: the program, the world, the heap ahead of the law's call, the activation's names, the first address of its own things, how many calls deep it may go -/
structure Cx where
  prog : Program
  w : World
  B : Heap
  env : Env
  lo : Nat
  nms : List (Str × NameKind)
  k : Nat
/-- a table of a code object: the one kind of thing that may grow beside the ledger -/
def tabl (o : Obj) : Bool := match o.cls, o.data with
  | .none, .fields _ => true
  | _, _ => false
theorem tabl_seq {o : Obj} {xs : Array Value} {n : Nat} (h : o.data = .seq xs n) : tabl o = false := by
  obtain ⟨c, d, dt, sl⟩ := o; cases h; unfold tabl; cases c <;> rfl
theorem tabl_dict {o : Obj} {xs : Array DictEntry} {n : Nat} (h : o.data = .dict xs n) : tabl o = false := by
  obtain ⟨c, d, dt, sl⟩ := o; cases h; unfold tabl; cases c <;> rfl
theorem tabl_cell {o : Obj} {v : Option Value} (h : o.data = .cell v) : tabl o = false := by
  obtain ⟨c, d, dt, sl⟩ := o; cases h; unfold tabl; cases c <;> rfl
theorem tabl_func {o : Obj} {f : FuncData} (h : o.data = .func f) : tabl o = false := by
  obtain ⟨c, d, dt, sl⟩ := o; cases h; unfold tabl; cases c <;> rfl
theorem tabl_type {o : Obj} {n : String} (h : o.cls = .type n) : tabl o = false := by
  obtain ⟨c, d, dt, sl⟩ := o; cases h; rfl
/-- how the abstract state lies in the heap -/
structure Rel (C : Cx) (ρ : EV) (H : HV) (h : Heap) : Prop where
  eok : EnvOk C.env C.nms
  base : ∀ b o, C.B.get? b = some o → tabl o = false → h.get? b = some o
  old : OldK C.B h
  blo : C.B.objs.size ≤ C.lo
  view : ∀ a o, H a = some o → ObjIs C.prog C.w h a o
  dom : ∀ x v, ρ x = some v → C.nms.lookup x = some .local ∨ C.nms.lookup x = some .cell ∨ C.nms.lookup x = some .free
  loc : ∃ m, h.Ns C.env.locals m ∧ ∀ x v, C.nms.lookup x = some .local → ρ x = some v → ∃ u, m x = some u ∧ absV u = some v
  cel : ∀ x, C.nms.lookup x = some .cell ∨ C.nms.lookup x = some .free → ∃ c u, C.env.cells.lookup x = some c ∧ h.IsCell c u ∧ ∀ v, ρ x = some v → ∃ y, u = some y ∧ absV y = some v
  apart : ∀ x y c, (x, c) ∈ C.env.cells → (y, c) ∈ C.env.cells → x = y
  cloc : ∀ x c, (x, c) ∈ C.env.cells → c ≠ C.env.locals ∧ C.lo ≤ c ∧ H c = Option.none ∧ ∃ o, h.get? c = some o
  hloc : H C.env.locals = Option.none
  lloc : C.lo ≤ C.env.locals
  sysm : H sysModules = Option.none ∧ ∃ o, h.get? sysModules = some o
/-- H' grows at addresses that are new -/
def Gr (H H' : HV) (h : Heap) : Prop := ∀ b o, h.get? b = some o → H b = Option.none → H' b = Option.none
theorem Gr.refl (H : HV) (h : Heap) : Gr H H h := fun _ _ _ e => e
theorem Gr.trans {H H' H'' : HV} {h h' : Heap} (g : Gr H H' h) (k : ∀ b o, h.get? b = some o → ∃ o', h'.get? b = some o') (g' : Gr H' H'' h') : Gr H H'' h :=
  fun b o e n => let ⟨_, e'⟩ := k b o e; g' b _ e' (g b o e n)
/-- what an expression leaves: all that stood stands, tables apart -/
structure Kp (s s' : Shared) : Prop where
  get : ∀ b o, s.heap.get? b = some o → tabl o = false → s'.heap.get? b = some o
  there : ∀ b o, s.heap.get? b = some o → ∃ o', s'.heap.get? b = some o'
  os : s'.os = s.os
  gens : AllBare s.gens → AllBare s'.gens
theorem kp_refl (s : Shared) : Kp s s := ⟨fun _ _ e _ => e, fun _ o e => ⟨o, e⟩, rfl, fun x => x⟩
theorem Kp.trans {s s₁ s₂ : Shared} (a : Kp s s₁) (b : Kp s₁ s₂) : Kp s s₂ :=
  ⟨fun x o e t => b.get x o (a.get x o e t) t, fun x o e => let ⟨o', e'⟩ := a.there x o e; b.there x o' e', b.os.trans a.os, fun x => b.gens (a.gens x)⟩
theorem kp_tok (s : Shared) (t : Nat) : Kp s { s with toks := t } := ⟨fun _ _ e _ => e, fun _ o e => ⟨o, e⟩, rfl, fun x => x⟩
theorem kp_of {s : Shared} {h : Heap} (t : Nat) (k : ∀ b o, s.heap.get? b = some o → h.get? b = some o) : Kp s { s with heap := h, toks := t } :=
  ⟨fun b o e _ => k b o e, fun b o e => ⟨o, k b o e⟩, rfl, fun x => x⟩
section
variable {prog : Program} {w : World} {h h' : Heap}
theorem ObjIs.at {a : Addr} {o : AO} (x : ObjIs prog w h a o) (k : ∀ ob, h.get? a = some ob → tabl ob = false → h'.get? a = some ob) : ObjIs prog w h' a o := by
  cases o with
  | list vs => obtain ⟨its, ⟨n, e⟩, q⟩ := x; exact ⟨its, ⟨n, k _ e rfl⟩, q⟩
  | tuple vs => obtain ⟨its, ⟨ob, e, c, r⟩, q⟩ := x; exact ⟨its, ⟨ob, k _ e (tabl_type c), c, r⟩, q⟩
  | dict kvs => obtain ⟨cs, ⟨ob, es, ep, e, c, d, r⟩, q⟩ := x; exact ⟨cs, ⟨ob, es, ep, k _ e (tabl_dict d), c, d, r⟩, q⟩
theorem ObjIs.there {a : Addr} {o : AO} (x : ObjIs prog w h a o) : ∃ ob, h.get? a = some ob := by
  cases o with
  | list vs => obtain ⟨its, ⟨n, e⟩, q⟩ := x; exact ⟨_, e⟩
  | tuple vs => obtain ⟨its, ⟨ob, e, r⟩, q⟩ := x; exact ⟨ob, e⟩
  | dict kvs => obtain ⟨cs, ⟨ob, es, ep, e, r⟩, q⟩ := x; exact ⟨ob, e⟩
theorem ns_at {a : Addr} {m : Str → Option Value} (x : h.Ns a m) (k : ∀ ob, h.get? a = some ob → tabl ob = false → h'.get? a = some ob) : h'.Ns a m :=
  let ⟨o, es, ep, e, d, r⟩ := x; ⟨o, es, ep, k _ e (tabl_dict d), d, r⟩
theorem cell_at {a : Addr} {v : Option Value} (x : h.IsCell a v) (k : ∀ ob, h.get? a = some ob → tabl ob = false → h'.get? a = some ob) : h'.IsCell a v :=
  let ⟨o, e, d⟩ := x; ⟨o, k _ e (tabl_cell d), d⟩
end
section
variable {C : Cx} {ρ : EV} {H H' : HV} {h h' : Heap}
theorem Rel.kindOf (R : Rel C ρ H h) (x : Str) : C.env.kindOf x = C.nms.lookup x := by unfold Env.kindOf; rw [R.eok.names]
theorem Rel.new (R : Rel C ρ H h) : H h.objs.size = Option.none := by
  cases e : H h.objs.size with
  | none => rfl
  | some o => obtain ⟨ob, eo⟩ := (R.view _ _ e).there; exact absurd (Heap.lt_size eo) (Nat.lt_irrefl _)
theorem Rel.lo_size (R : Rel C ρ H h) : C.lo ≤ h.objs.size := by
  obtain ⟨m, hn, _⟩ := R.loc
  exact Nat.le_trans R.lloc (Nat.le_of_lt hn.lt)
theorem Rel.stepT (R : Rel C ρ H h) (k : ∀ b o, h.get? b = some o → tabl o = false → h'.get? b = some o) (th : ∀ b o, h.get? b = some o → ∃ o', h'.get? b = some o') (old : OldK C.B h')
    (v : ∀ a o, H' a = some o → ObjIs C.prog C.w h' a o) (g : Gr H H' h) : Rel C ρ H' h' := by
  obtain ⟨m, hn, hm⟩ := R.loc
  refine ⟨R.eok, fun b o e t => k _ _ (R.base b o e t) t, old, R.blo, v, R.dom, ⟨m, ns_at hn (k _), hm⟩, fun x hx => ?_, R.apart, fun x c hm => ?_, ?_, R.lloc, ?_⟩
  · obtain ⟨c, u, a1, a2, a3⟩ := R.cel x hx
    exact ⟨c, u, a1, cell_at a2 (k _), a3⟩
  · obtain ⟨h1, h2, h3, o, h4⟩ := R.cloc x c hm
    exact ⟨h1, h2, g c o h4 h3, th _ _ h4⟩
  · obtain ⟨o, _, _, ho, _⟩ := hn
    exact g _ o ho R.hloc
  · obtain ⟨h1, o, h2⟩ := R.sysm
    exact ⟨g _ o h2 h1, th _ _ h2⟩
theorem Rel.step (R : Rel C ρ H h) (k : ∀ b o, h.get? b = some o → h'.get? b = some o) (v : ∀ a o, H' a = some o → ObjIs C.prog C.w h' a o) (g : Gr H H' h) : Rel C ρ H' h' :=
  R.stepT (fun b o e _ => k b o e) (fun b o e => ⟨o, k b o e⟩) (R.old.step_keeps k) v g
theorem Rel.keep (R : Rel C ρ H h) (k : ∀ b o, h.get? b = some o → h'.get? b = some o) : Rel C ρ H h' :=
  R.step k (fun a o e => (R.view a o e).at fun ob e' _ => k a ob e') (Gr.refl _ _)
/-- a new object, behind others that are forgotten -/
theorem Rel.mint (R : Rel C ρ H h) {a : Addr} {o : AO} (k : ∀ b o, h.get? b = some o → h'.get? b = some o) (ha : h.objs.size ≤ a) (x : ObjIs C.prog C.w h' a o) : Rel C ρ (upd H a o) h' ∧ Gr H (upd H a o) h := by
  have ne : ∀ b o, h.get? b = some o → b ≠ a := fun b o e => Nat.ne_of_lt (Nat.lt_of_lt_of_le (Heap.lt_size e) ha)
  have g : Gr H (upd H a o) h := fun b o' e n => by
    unfold upd; rw [if_neg (ne b o' e)]; exact n
  refine ⟨R.step k (fun b o' e => ?_) g, g⟩
  unfold upd at e
  split at e
  · rename_i ea; cases e; subst ea; exact x
  · exact (R.view b o' e).at fun ob e _ => k _ _ e
theorem Rel.fresh (R : Rel C ρ H h) {a : Addr} (ha : h.objs.size ≤ a) : C.lo ≤ a ∧ H a = Option.none := by
  refine ⟨Nat.le_trans R.lo_size ha, ?_⟩
  cases e : H a with
  | none => rfl
  | some o => obtain ⟨ob, eo⟩ := (R.view _ _ e).there; exact absurd (Heap.lt_size eo) (Nat.not_lt.mpr ha)
end
def isV (u : Value) (v : V) : Prop := absV u = some v
section
variable {α β : Type} (C : Cx) (r : α → β → Prop)
/-- where an expression's tree ends -/
def Done (ρ : EV) (H : HV) (s : Shared) (Q : β → HV → Prop) (u : α) (s' : Shared) : Prop :=
  ∃ v H', r u v ∧ Kp s s' ∧ Rel C ρ H' s'.heap ∧ Gr H H' s.heap ∧ Q v H'
/-- the tree t, from ρ and H, ends in Q and keeps the heap -/
def TG (t : Sem α) (ρ : EV) (H : HV) (Q : β → HV → Prop) : Prop :=
  ∀ (A : Around) (s : Shared), Rm A C.k → Rel C ρ H s.heap → wpAny (model C.prog C.w) A t (Done C r ρ H s Q) (fun _ _ => False) s
end
abbrev nay : Value → Shared → Prop := fun _ _ => False
section
variable {C : Cx} {ρ : EV} {H H' : HV} {A : Around} {s : Shared} {α β : Type} {r : α → β → Prop}
theorem TG.use {t : Sem α} {Q : β → HV → Prop} (x : TG C r t ρ H Q) (hA : Rm A C.k) (R : Rel C ρ H s.heap) {P : α → Shared → Prop} {E : Value → Shared → Prop}
    (g : ∀ u v s₁ H₁, r u v → Kp s s₁ → Rel C ρ H₁ s₁.heap → Gr H H₁ s.heap → Q v H₁ → P u s₁) : wpAny (model C.prog C.w) A t P E s :=
  wpAny_mono (x A s hA R) (fun u s₁ ⟨v, H₁, a, b, c, d, e⟩ => g u v s₁ H₁ a b c d e) fun _ _ e => e.elim
theorem Done.trans {s s₁ s₂ : Shared} {H H₁ : HV} {Q : β → HV → Prop} {u : α} (K : Kp s s₁) (G : Gr H H₁ s.heap) (d : Done C r ρ H₁ s₁ Q u s₂) : Done C r ρ H s Q u s₂ := by
  obtain ⟨v, H', a, b, c, d, e⟩ := d
  exact ⟨v, H', a, K.trans b, c, G.trans (K.there) d, e⟩
theorem Done.val {Q : β → HV → Prop} {u : α} {v : β} (R : Rel C ρ H s.heap) (e : r u v) (q : Q v H) (t : Nat) : Done C r ρ H s Q u { s with toks := t } :=
  ⟨v, H, e, kp_tok _ _, R, Gr.refl _ _, q⟩
theorem Done.v {Q : V → HV → Prop} {u : Value} {v : V} (R : Rel C ρ H s.heap) (e : absV u = some v) (q : Q v H) (t : Nat) : Done C isV ρ H s Q u { s with toks := t } :=
  ⟨v, H, e, kp_tok _ _, R, Gr.refl _ _, q⟩
theorem Done.b {Q : Bool → HV → Prop} {b : Bool} (R : Rel C ρ H s.heap) (q : Q b H) : Done C (fun a b => a = b) ρ H s Q b s :=
  ⟨b, H, rfl, kp_refl _, R, Gr.refl _ _, q⟩
theorem Done.new {Q : V → HV → Prop} {a : Addr} {h' : Heap} {o : AO} (R : Rel C ρ H s.heap) (k : ∀ b o, s.heap.get? b = some o → h'.get? b = some o) (ha : s.heap.objs.size ≤ a) (x : ObjIs C.prog C.w h' a o)
    (q : ∀ a, C.lo ≤ a → H a = Option.none → Q (.loc a) (upd H a o)) (t : Nat) : Done C isV ρ H s Q (.ref a) { s with heap := h', toks := t } :=
  ⟨_, _, rfl, kp_of _ k, (R.mint k ha x).1, (R.mint k ha x).2, q _ (R.fresh ha).1 (R.fresh ha).2⟩
theorem TG.mono {t : Sem α} {Q Q' : β → HV → Prop} (x : TG C r t ρ H Q) (g : ∀ v H', Q v H' → Q' v H') : TG C r t ρ H Q' :=
  fun A s hA R => x.use hA R fun u v s₁ H₁ a b c d e => ⟨v, H₁, a, b, c, d, g v H₁ e⟩
/-- one tree behind another -/
theorem TG.then {α' β' : Type} {r' : α' → β' → Prop} {t : Sem α} {f : α → Sem α'} {Q : β' → HV → Prop}
    (x : TG C r t ρ H (fun v H₁ => ∀ u, r u v → TG C r' (f u) ρ H₁ Q)) : TG C r' (t >>= f) ρ H Q :=
  fun A s hA R => wpAny_bind (x.use hA R fun u v s₁ H₁ a K R₁ G q => wpAny_mono (q u a A s₁ hA R₁) (fun _ _ d => d.trans K G) fun _ _ e => e)
end
end Mine
end
section
set_option maxRecDepth 100000
set_option Elab.async false
set_option linter.unusedVariables false
namespace Mine
open PySem PySem.Spec PyProof.Rows
abbrev Ev (C : Cx) (e : Expr) (ρ : EV) (H : HV) (Q : V → HV → Prop) : Prop := TG C isV (eval e C.env) ρ H Q
/-- a test: a tree that gives a Bool -/
abbrev Tst (C : Cx) (e : Expr) (ρ : EV) (H : HV) (Q : Bool → HV → Prop) : Prop := TG C (fun a b => a = b) (isTrue e C.env (eval e C.env)) ρ H Q
def BOK (C : Cx) (op : Operator) (a b : V) (ρ : EV) (H : HV) (Q : V → HV → Prop) : Prop := ∀ u u', isV u a → isV u' b → TG C isV (binaryOp op u u') ρ H Q
def COK (C : Cx) (op : CmpOp) (a b : V) (ρ : EV) (H : HV) (Q : V → HV → Prop) : Prop := ∀ u u', isV u a → isV u' b → TG C isV (compareOp op u u') ρ H Q
def TrOK (C : Cx) (a : V) (ρ : EV) (H : HV) (Q : Bool → HV → Prop) : Prop := ∀ u, isV u a → TG C (fun a b => a = b) (truthy u) ρ H Q
def GlobIs (C : Cx) (x : Str) (u : Value) : Prop :=
  ∃ mg, C.B.Ns mainGlobals mg ∧ (mg x = some u ∨ (mg x = Option.none ∧ ∃ mb, C.B.Ns builtinsNs mb ∧ mb x = some u))
theorem abs_str {x : Str} {t : Tok} (h : PyData.strOk x = true) : absV (.str x t) = some (.str x) := by simp [absV, h]
theorem isV_int {u : Value} {i : Int} (h : isV u (.int i)) : ∃ t, u = .int i t := by
  unfold isV at h
  cases u <;> simp only [absV] at h <;> (try split at h) <;> cases h; exact ⟨_, rfl⟩
theorem isV_str {u : Value} {x : Str} (h : isV u (.str x)) : ∃ t, u = .str x t ∧ PyData.strOk x = true := by
  unfold isV at h
  cases u <;> simp only [absV] at h <;> (try split at h) <;> cases h; exact ⟨_, rfl, by assumption⟩
theorem isV_bool {u : Value} {b : Bool} (h : isV u (.bool b)) : u = .bool b := by
  unfold isV at h
  cases u <;> simp only [absV] at h <;> (try split at h) <;> cases h; rfl
theorem isV_none {u : Value} (h : isV u .none) : u = .none := by
  unfold isV at h
  cases u <;> simp only [absV] at h <;> (try split at h) <;> cases h; rfl
theorem isV_loc {u : Value} {a : Addr} (h : isV u (.loc a)) : u = .ref a := by
  unfold isV at h
  cases u <;> simp only [absV] at h <;> (try split at h) <;> cases h; rfl
section
variable {C : Cx} {ρ : EV} {H : HV} {Q : V → HV → Prop} {A : Around} {s : Shared}
theorem ev_int {i : Int} {kd : Nat} {pos : Pos} (q : Q (.int i) H) : Ev C (.Constant (.int i) kd pos) ρ H Q :=
  fun A s hA R => wpAny_Constant_int (Done.v R rfl q _)
theorem ev_str {x : Str} {kd : Nat} {pos : Pos} (q : Q (.str x) H) (hx : PyData.strOk x = true := by decide) : Ev C (.Constant (.str x) kd pos) ρ H Q :=
  fun A s hA R => Calls.Constant_str (Done.v R (abs_str hx) q _)
theorem ev_bool {b : Bool} {kd : Nat} {pos : Pos} (q : Q (.bool b) H) : Ev C (.Constant (.bool b) kd pos) ρ H Q :=
  fun A s hA R => wpAny_pure (Done.v R rfl q s.toks)
theorem ev_none {kd : Nat} {pos : Pos} (q : Q .none H) : Ev C (.Constant .none kd pos) ρ H Q :=
  fun A s hA R => wpAny_pure (Done.v R rfl q s.toks)
theorem ev_Name {x : Str} {pos : Pos} {v : V} (e : ρ x = some v) (q : Q v H) (hd : (x == ("__debug__" : Str)) = false := by decide) (hn : (x == ("__classdict__" : Str)) = false := by decide) : Ev C (.Name x pos) ρ H Q := by
  intro A s hA R
  refine wpAny_Name ?_ hd
  rcases R.dom x v e with h | h | h
  all_goals have h' := (R.kindOf x).trans h
  · obtain ⟨m, hns, hm⟩ := R.loc
    obtain ⟨u, hu, ha⟩ := hm x v h e
    exact wpAny_loadName_local R.eok.kind h' hns hu (Done.v R ha q s.toks)
  · obtain ⟨c, u, hc, hcell, hu⟩ := R.cel x (.inl h)
    obtain ⟨y, rfl, ha⟩ := hu v e
    exact wpAny_loadName_cell R.eok.kind h' hc hcell (Done.v R ha q s.toks)
  · obtain ⟨c, u, hc, hcell, hu⟩ := R.cel x (.inr h)
    obtain ⟨y, rfl, ha⟩ := hu v e
    exact wpAny_loadName_free R.eok.kind h' hc hcell (Done.v R ha q s.toks) hn
theorem glob_load {x : Str} {pos : Pos} {u : Value} {P : Value → Shared → Prop} {E : Value → Shared → Prop} (R : Rel C ρ H s.heap) (g : GlobIs C x u) (hk : C.nms.lookup x = some .globalImplicit) (q : P u s) (hd : (x == ("__debug__" : Str)) = false) :
    wpAny (model C.prog C.w) A (eval (.Name x pos) C.env) P E s := by
  obtain ⟨mg, hg, g⟩ := g
  refine Calls.Name_function_global R.eok.kind ((R.kindOf x).trans hk) ?_ hd
  rcases g with g | ⟨g, mb, hb, e⟩
  · exact Calls.loadGlobal_global (by rw [R.eok.glob]; exact ns_at hg (R.base _)) g q
  · exact Calls.loadGlobal_builtin (by rw [R.eok.glob]; exact ns_at hg (R.base _)) g (by rw [R.eok.bui]; exact ns_at hb (R.base _)) e q
theorem ev_Glob {x : Str} {pos : Pos} {u : Value} {v : V} (g : GlobIs C x u) (hk : C.nms.lookup x = some .globalImplicit) (e : isV u v) (q : Q v H) (hd : (x == ("__debug__" : Str)) = false := by decide) : Ev C (.Name x pos) ρ H Q :=
  fun A s hA R => glob_load R g hk (Done.v R e q s.toks) hd
theorem ev_BinOp {l r : Expr} {op : Operator} {pos : Pos} (h : Ev C l ρ H fun a H₁ => Ev C r ρ H₁ fun b H₂ => BOK C op a b ρ H₂ Q) : Ev C (.BinOp l op r pos) ρ H Q :=
  fun A s hA R => wpAny_BinOp (h.use hA R fun u v s₁ H₁ a K R₁ G q => q.use hA R₁ fun u' v' s₂ H₂ a' K' R₂ G' q' =>
    wpAny_mono (q' u u' a a' A s₂ hA R₂) (fun _ _ d => (d.trans K' G').trans K G) fun _ _ e => e)
theorem ev_Compare {l r : Expr} {op : CmpOp} {pos : Pos} (h : Ev C l ρ H fun a H₁ => Ev C r ρ H₁ fun b H₂ => COK C op a b ρ H₂ Q) (hm : behindInMarks op r = false := by rfl) : Ev C (.Compare l [op] [r] pos) ρ H Q :=
  fun A s hA R => wpAny_Compare1 (h.use hA R fun u v s₁ H₁ a K R₁ G q => q.use hA R₁ fun u' v' s₂ H₂ a' K' R₂ G' q' =>
    wpAny_mono (q' u u' a a' A s₂ hA R₂) (fun _ _ d => (d.trans K' G').trans K G) fun _ _ e => e) hm
theorem bok_add_int {i j : Int} (q : Q (.int (i + j)) H) : BOK C .Add (.int i) (.int j) ρ H Q := by
  intro u u' a b A s hA R
  obtain ⟨t, rfl⟩ := isV_int a; obtain ⟨t', rfl⟩ := isV_int b
  exact wpAny_add_int (Done.v R rfl q _)
theorem bok_sub_int {i j : Int} (q : Q (.int (i - j)) H) : BOK C .Sub (.int i) (.int j) ρ H Q := by
  intro u u' a b A s hA R
  obtain ⟨t, rfl⟩ := isV_int a; obtain ⟨t', rfl⟩ := isV_int b
  exact P.sub_int (Done.v R rfl q _)
theorem bok_mul_int {i j : Int} (hm : IntMulOk i j) (q : Q (.int (i * j)) H) : BOK C .Mult (.int i) (.int j) ρ H Q := by
  intro u u' a b A s hA R
  obtain ⟨t, rfl⟩ := isV_int a; obtain ⟨t', rfl⟩ := isV_int b
  exact P.mul_int (Done.v R rfl q _) hm
theorem cok_eq_int {i j : Int} (q : Q (.bool (i == j)) H) : COK C .Eq (.int i) (.int j) ρ H Q := by
  intro u u' a b A s hA R
  obtain ⟨t, rfl⟩ := isV_int a; obtain ⟨t', rfl⟩ := isV_int b
  exact P.eq_int (Done.v R rfl q s.toks)
theorem cok_ne_int {i j : Int} (q : Q (.bool (i != j)) H) : COK C .NotEq (.int i) (.int j) ρ H Q := by
  intro u u' a b A s hA R
  obtain ⟨t, rfl⟩ := isV_int a; obtain ⟨t', rfl⟩ := isV_int b
  exact P.ne_int (Done.v R rfl q s.toks)
theorem cok_lt_int {i j : Int} (q : Q (.bool (decide (i < j))) H) : COK C .Lt (.int i) (.int j) ρ H Q := by
  intro u u' a b A s hA R
  obtain ⟨t, rfl⟩ := isV_int a; obtain ⟨t', rfl⟩ := isV_int b
  exact P.lt_int (Done.v R rfl q s.toks)
theorem cok_gt_int {i j : Int} (q : Q (.bool (decide (i > j))) H) : COK C .Gt (.int i) (.int j) ρ H Q := by
  intro u u' a b A s hA R
  obtain ⟨t, rfl⟩ := isV_int a; obtain ⟨t', rfl⟩ := isV_int b
  exact P.gt_int (Done.v R rfl q s.toks)
theorem cok_le_int {i j : Int} (q : Q (.bool (decide (i ≤ j))) H) : COK C .LtE (.int i) (.int j) ρ H Q := by
  intro u u' a b A s hA R
  obtain ⟨t, rfl⟩ := isV_int a; obtain ⟨t', rfl⟩ := isV_int b
  exact P.le_int (Done.v R rfl q s.toks)
theorem cok_ge_int {i j : Int} (q : Q (.bool (decide (i ≥ j))) H) : COK C .GtE (.int i) (.int j) ρ H Q := by
  intro u u' a b A s hA R
  obtain ⟨t, rfl⟩ := isV_int a; obtain ⟨t', rfl⟩ := isV_int b
  exact P.ge_int (Done.v R rfl q s.toks)
theorem tr_bool {b : Bool} {Q : Bool → HV → Prop} (q : Q b H) : TrOK C (.bool b) ρ H Q := by
  intro u a A s hA R
  cases isV_bool a
  exact wpAny_truthy_bool (Done.b R q)
theorem tr_int {i : Int} {Q : Bool → HV → Prop} (q : Q (i != 0) H) : TrOK C (.int i) ρ H Q := by
  intro u a A s hA R
  obtain ⟨t, rfl⟩ := isV_int a
  exact P.truthy_int (Done.b R q)
/-- tests -/
theorem t_Compare {l r : Expr} {op : CmpOp} {pos : Pos} {Q : Bool → HV → Prop} (h : Ev C l ρ H fun a H₁ => Ev C r ρ H₁ fun b H₂ => COK C op a b ρ H₂ fun c H₃ => TrOK C c ρ H₃ Q) (hm : behindInMarks op r = false := by rfl) :
    Tst C (.Compare l [op] [r] pos) ρ H Q :=
  fun A s hA R => wpAny_isTrue_Compare1 (h.use hA R fun u v s₁ H₁ a K R₁ G q => q.use hA R₁ fun u' v' s₂ H₂ a' K' R₂ G' q' =>
    (q' u u' a a').use hA R₂ fun u'' v'' s₃ H₃ a'' K'' R₃ G'' q'' => wpAny_mono (q'' u'' a'' A s₃ hA R₃) (fun _ _ d => ((d.trans K'' G'').trans K' G').trans K G) fun _ _ e => e) hm
theorem t_Not {x : Expr} {pos : Pos} {Q : Bool → HV → Prop} (h : Tst C x ρ H fun b H₁ => Q (!b) H₁) : Tst C (.UnaryOp .Not x pos) ρ H Q := by
  intro A s hA R
  show wpAny _ A (do return !(← isTrue x C.env (eval x C.env))) _ _ s
  exact wpAny_bind (h.use hA R fun u v s₁ H₁ a K R₁ G q => wpAny_pure ⟨!v, H₁, by rw [show u = v from a], K, R₁, G, q⟩)
theorem t_And {vs : List Expr} {pos : Pos} {Q : Bool → HV → Prop} (h : TG C (fun a b => a = b) (allTrue .And vs C.env) ρ H Q) : Tst C (.BoolOp .And vs pos) ρ H Q := h
theorem t_Or {vs : List Expr} {pos : Pos} {Q : Bool → HV → Prop} (h : TG C (fun a b => a = b) (allTrue .Or vs C.env) ρ H Q) : Tst C (.BoolOp .Or vs pos) ρ H Q := h
theorem t_and_nil {Q : Bool → HV → Prop} (h : Q true H) : TG C (fun a b => a = b) (allTrue .And [] C.env) ρ H Q := fun A s hA R => wpAny_pure (Done.b R h)
theorem t_or_nil {Q : Bool → HV → Prop} (h : Q false H) : TG C (fun a b => a = b) (allTrue .Or [] C.env) ρ H Q := fun A s hA R => wpAny_pure (Done.b R h)
theorem t_and_cons {x : Expr} {rest : List Expr} {Q : Bool → HV → Prop} (h : Tst C x ρ H fun b H₁ => if b = true then TG C (fun a b => a = b) (allTrue .And rest C.env) ρ H₁ Q else Q false H₁) : TG C (fun a b => a = b) (allTrue .And (x :: rest) C.env) ρ H Q := by
  intro A s hA R
  refine wpAny_allTrue_And_cons (h.use hA R fun u v s₁ H₁ a K R₁ G q => ?_)
  cases (show u = v from a)
  cases u with
  | false => exact ⟨false, H₁, rfl, K, R₁, G, q⟩
  | true => exact wpAny_mono (q A s₁ hA R₁) (fun _ _ d => d.trans K G) fun _ _ e => e
theorem t_or_cons {x : Expr} {rest : List Expr} {Q : Bool → HV → Prop} (h : Tst C x ρ H fun b H₁ => if b = true then Q true H₁ else TG C (fun a b => a = b) (allTrue .Or rest C.env) ρ H₁ Q) : TG C (fun a b => a = b) (allTrue .Or (x :: rest) C.env) ρ H Q := by
  intro A s hA R
  refine wpAny_allTrue_Or_cons (h.use hA R fun u v s₁ H₁ a K R₁ G q => ?_)
  cases (show u = v from a)
  cases u with
  | true => exact ⟨true, H₁, rfl, K, R₁, G, q⟩
  | false => exact wpAny_mono (q A s₁ hA R₁) (fun _ _ d => d.trans K G) fun _ _ e => e
/-- a test that is a plain value -/
theorem t_val {e : Expr} {Q : Bool → HV → Prop} (hp : isTrue e C.env (eval e C.env) = (do let v ← eval e C.env; standAt e.pos; holding [v] (truthy v))) (h : Ev C e ρ H fun a H₁ => TrOK C a ρ H₁ Q) : Tst C e ρ H Q := by
  intro A s hA R
  show wpAny _ A (isTrue e C.env (eval e C.env)) _ _ s
  rw [hp]
  exact wpAny_bind (h.use hA R fun u v s₁ H₁ a K R₁ G q => wpAny_bind (wpAny_standAt (wpAny_holding (wpAny_mono (q u a A s₁ hA R₁) (fun _ _ d => d.trans K G) fun _ _ e => e))))
theorem t_Name {x : Str} {pos : Pos} {Q : Bool → HV → Prop} (h : Ev C (.Name x pos) ρ H fun a H₁ => TrOK C a ρ H₁ Q) : Tst C (.Name x pos) ρ H Q := t_val rfl h
theorem t_Call {f : Expr} {as : List Expr} {ks : List Keyword} {pos : Pos} {Q : Bool → HV → Prop} (h : Ev C (.Call f as ks pos) ρ H fun a H₁ => TrOK C a ρ H₁ Q) : Tst C (.Call f as ks pos) ρ H Q := t_val rfl h
theorem t_Sub {f i : Expr} {pos : Pos} {Q : Bool → HV → Prop} (h : Ev C (.Subscript f i pos) ρ H fun a H₁ => TrOK C a ρ H₁ Q) : Tst C (.Subscript f i pos) ρ H Q := t_val rfl h
end
end Mine
end
section
set_option maxRecDepth 100000
set_option Elab.async false
set_option linter.unusedVariables false
namespace Mine
open PySem PySem.Spec PyProof.Rows
section
variable {C : Cx} {ρ : EV} {H : HV} {Q : V → HV → Prop} {A : Around} {s : Shared}
/-- arguments, items of a display -/
abbrev Args (C : Cx) (pos : Pos) (es : List Expr) (ρ : EV) (H : HV) (Q : List V → HV → Prop) : Prop := TG C ValsAre (spliced (backTo pos (starEach es C.env))) ρ H Q
theorem args_nil {pos : Pos} {Q : List V → HV → Prop} (q : Q [] H) : Args C pos [] ρ H Q :=
  fun A s hA R => Calls.spliced_nil ⟨[], H, .nil, kp_refl _, R, Gr.refl _ _, q⟩
theorem args_cons {e : Expr} {es : List Expr} {pos : Pos} {Q : List V → HV → Prop} (h : Ev C e ρ H fun v H₁ => Args C pos es ρ H₁ fun vs H₂ => Q (v :: vs) H₂)
    (hs : starEach (e :: es) C.env = (false, eval e C.env) :: starEach es C.env := by rfl) : Args C pos (e :: es) ρ H Q := by
  intro A s hA R
  rw [hs]
  show wpAny _ A (spliced ((false, eval e C.env) :: backTo pos (starEach es C.env))) _ _ s
  exact Calls.spliced_cons (h.use hA R fun u v s₁ H₁ a K R₁ G q => q.use hA R₁ fun us vs s₂ H₂ as K' R₂ G' q' =>
    Done.trans K G (Done.trans K' G' ⟨v :: vs, H₂, .cons a as, kp_refl _, R₂, Gr.refl _ _, q'⟩))
theorem obj_list {h : Heap} {a : Addr} {n : Nat} {us : List Value} {vs : List V} (e : h.get? a = some { cls := .type "list", data := .seq us.toArray n }) (x : ValsAre us vs) (z : vs.length ≤ 1048576) : ObjIs C.prog C.w h a (.list vs) :=
  ⟨us, ⟨n, e⟩, x, z⟩
theorem obj_tuple {h : Heap} {a : Addr} {n : Nat} {us : List Value} {vs : List V} (e : h.get? a = some { cls := .type "tuple", data := .seq us.toArray n }) (x : ValsAre us vs) (z : vs.length ≤ 1048576) : ObjIs C.prog C.w h a (.tuple vs) :=
  ⟨us, ⟨_, e, rfl, n, rfl⟩, x, z⟩
theorem few {us : List Value} {vs : List V} (x : ValsAre us vs) (z : vs.length ≤ 1048576) : us.toArray.size ≤ sizeLine := by
  rw [List.size_toArray, x.length]; exact Nat.le_trans z (by decide)
theorem newList_ok {us : List Value} {vs : List V} (x : ValsAre us vs) (z : vs.length ≤ 1048576) (q : ∀ a, C.lo ≤ a → H a = Option.none → Q (.loc a) (upd H a (.list vs))) : TG C isV (newList us) ρ H Q :=
  fun A s hA R => wpAny_newObj_type (Done.new R (fun _ _ e => Heap.get?_push_of_some _ e) (Nat.le_refl _) (obj_list (Heap.get?_push_size _ rfl) x z) q s.toks) (few x z)
theorem newTuple_ok {us : List Value} {vs : List V} (x : ValsAre us vs) (z : vs.length ≤ 1048576) (q : ∀ a, C.lo ≤ a → H a = Option.none → Q (.loc a) (upd H a (.tuple vs))) : TG C isV (newTuple us) ρ H Q :=
  fun A s hA R => wpAny_newObj_type (Done.new R (fun _ _ e => Heap.get?_push_of_some _ e) (Nat.le_refl _) (obj_tuple (Heap.get?_push_size _ rfl) x z) q s.toks) (few x z)
theorem ev_List {es : List Expr} {pos : Pos} (h : Args C pos es ρ H fun vs H₁ => vs.length ≤ 1048576 ∧ ∀ a, C.lo ≤ a → H₁ a = Option.none → Q (.loc a) (upd H₁ a (.list vs))) : Ev C (.List es pos) ρ H Q :=
  fun A s hA R => List_ (h.use hA R fun us vs s₁ H₁ as K R₁ G q => wpAny_mono (newList_ok as q.1 q.2 A s₁ hA R₁) (fun _ _ d => d.trans K G) fun _ _ e => e)
theorem ev_Tuple {es : List Expr} {kd : Nat} {pos : Pos} (h : Args C pos es ρ H fun vs H₁ => vs.length ≤ 1048576 ∧ ∀ a, C.lo ≤ a → H₁ a = Option.none → Q (.loc a) (upd H₁ a (.tuple vs))) : Ev C (.Tuple es kd pos) ρ H Q :=
  fun A s hA R => Tuple_ (h.use hA R fun us vs s₁ H₁ as K R₁ G q => wpAny_mono (newTuple_ok as q.1 q.2 A s₁ hA R₁) (fun _ _ d => d.trans K G) fun _ _ e => e)
theorem ev_Dict0 {pos : Pos} (q : ∀ a, C.lo ≤ a → H a = Option.none → Q (.loc a) (upd H a (.dict []))) : Ev C (.Dict [] [] pos) ρ H Q :=
  fun A s hA R => wpAny_Dict_empty (Done.new (o := .dict []) R (fun _ _ e => Heap.get?_push_of_some _ e) (Nat.le_refl _)
    ⟨[], ⟨_, #[], 0, Heap.get?_push_size _ rfl, ⟨rfl, rfl, rfl⟩, rfl, fun _ he => by simp at he, .nil, List.nodup_nil⟩, rfl, .nil, by decide⟩ q s.toks)
/-- an item by a plain index -/
def SOK (C : Cx) (a b : V) (ρ : EV) (H : HV) (Q : V → HV → Prop) : Prop := ∀ u u', isV u a → isV u' b → ∀ (A : Around) (s : Shared), Rm A C.k → Rel C ρ H s.heap →
  ∃ T id, typeLookup (.type T) "__getitem__" = pure (some (.builtin id)) ∧ s.TypeIs u T ∧ wpAny (model C.prog C.w) A (getItem u u') (Done C isV ρ H s Q) nay s
theorem ev_Sub {value slice : Expr} {pos : Pos} (h : Ev C value ρ H fun a H₁ => Ev C slice ρ H₁ fun b H₂ => SOK C a b ρ H₂ Q)
    (hs : ∀ o i, subscripted slice false o i = operate [o, i] (getItem o i) := by intros; rfl) : Ev C (.Subscript value slice pos) ρ H Q := by
  intro A s hA R
  refine Subscript_ (h.use hA R fun u v s₁ H₁ a K R₁ G q => q.use hA R₁ fun u' v' s₂ H₂ a' K' R₂ G' q' => ?_)
  obtain ⟨T, id, h1, h2, h3⟩ := q' u u' a a' A s₂ hA R₂
  exact tail_any h2 h1 (wpAny_mono h3 (fun _ _ d => (d.trans K' G').trans K G) fun _ _ e => e) (hs _ _)
theorem sok_list {a : Addr} {i : Int} {vs : List V} {v : V} (e : H a = some (.list vs)) (h0 : 0 ≤ i) (hv : vs[i.toNat]? = some v) (q : Q v H) : SOK C (.loc a) (.int i) ρ H Q := by
  intro u u' x y A s hA R
  cases isV_loc x
  obtain ⟨t, rfl⟩ := isV_int y
  obtain ⟨its, hl, hx, hz⟩ := R.view a _ e
  obtain ⟨w, hw, ha⟩ := hx.get hv
  have hlt : i.toNat < vs.length := (List.getElem?_eq_some_iff.mp hv).1
  refine ⟨"list", _, slot_list_getitem.lookup, hl.isList.typeIs, wpAny_getItem_list hl.isList h0 (by omega) (x := w) (by simpa using hw) (Done.v R ha q s.toks)⟩
theorem sok_tuple {a : Addr} {i : Int} {vs : List V} {v : V} (e : H a = some (.tuple vs)) (h0 : 0 ≤ i) (hv : vs[i.toNat]? = some v) (q : Q v H) : SOK C (.loc a) (.int i) ρ H Q := by
  intro u u' x y A s hA R
  cases isV_loc x
  obtain ⟨t, rfl⟩ := isV_int y
  obtain ⟨its, hl, hx, hz⟩ := R.view a _ e
  obtain ⟨w, hw, ha⟩ := hx.get hv
  have hlt : i.toNat < vs.length := (List.getElem?_eq_some_iff.mp hv).1
  have hlen := hx.length
  refine ⟨"tuple", _, slot_tuple_getitem.lookup, hl.typeIs, getItem_tuple (j := i.toNat) hl (by omega) (by omega) ?_ (x := w) (by simpa using hw) (Done.v R ha q s.toks)⟩
  rw [List.size_toArray]
  unfold seqIndex?
  simp only []
  split <;> simp_all <;> omega
/-- dicts keyed by texts -/
def look (kvs : List (Str × V)) (k : Str) : Option V := (kvs.find? fun kv => decide (kv.1 = k)).map (·.2)
def store (kvs : List (Str × V)) (k : Str) (v : V) : List (Str × V) :=
  if kvs.any (fun kv => decide (kv.1 = k)) then kvs.map (fun kv => if kv.1 = k then (kv.1, v) else kv) else kvs ++ [(k, v)]
theorem look_conc : ∀ {cs : List (Str × Value)} {kvs : List (Str × V)} {k : Str} {v : V}, cs.map (·.1) = kvs.map (·.1) → ValsAre (cs.map (·.2)) (kvs.map (·.2)) → look kvs k = some v → ∃ u, valueAt cs k = some u ∧ absV u = some v
  | [], [], _, _, _, _, h => by simp [look] at h
  | [], _ :: _, _, _, h, _, _ => by simp at h
  | _ :: _, [], _, _, h, _, _ => by simp at h
  | (a, x) :: cs, (b, y) :: kvs, k, v, h1, h2, h3 => by
    simp only [List.map_cons, List.cons.injEq] at h1
    obtain ⟨rfl, h1⟩ := h1
    cases h2 with
    | cons e r =>
      unfold look at h3; unfold valueAt
      simp only [List.find?_cons] at h3 ⊢
      by_cases hk : a = k
      · simp [hk] at h3 ⊢; subst h3; exact e
      · simp only [decide_eq_false hk] at h3 ⊢; exact look_conc h1 r h3
theorem look_none : ∀ {cs : List (Str × Value)} {kvs : List (Str × V)} {k : Str}, cs.map (·.1) = kvs.map (·.1) → (valueAt cs k).isSome = (look kvs k).isSome
  | [], [], _, _ => rfl
  | [], _ :: _, _, h => by simp at h
  | _ :: _, [], _, h => by simp at h
  | (a, x) :: cs, (b, y) :: kvs, k, h1 => by
    simp only [List.map_cons, List.cons.injEq] at h1
    obtain ⟨rfl, h1⟩ := h1
    unfold look valueAt
    simp only [List.find?_cons]
    by_cases hk : a = k
    · simp [hk]
    · simp only [decide_eq_false hk]; exact look_none h1
theorem any_conc : ∀ {cs : List (Str × Value)} {kvs : List (Str × V)} {k : Str}, cs.map (·.1) = kvs.map (·.1) → cs.any (fun kv => decide (kv.1 = k)) = kvs.any (fun kv => decide (kv.1 = k))
  | [], [], _, _ => rfl
  | [], _ :: _, _, h => by simp at h
  | _ :: _, [], _, h => by simp at h
  | (a, x) :: cs, (b, y) :: kvs, k, h1 => by
    simp only [List.map_cons, List.cons.injEq] at h1
    obtain ⟨rfl, h1⟩ := h1
    simp only [List.any_cons, any_conc h1]
theorem map_store_conc : ∀ {cs : List (Str × Value)} {kvs : List (Str × V)} {k : Str} {u : Value} {v : V}, cs.map (·.1) = kvs.map (·.1) → ValsAre (cs.map (·.2)) (kvs.map (·.2)) → absV u = some v →
    (cs.map (fun kv => if kv.1 = k then (kv.1, u) else kv)).map (·.1) = (kvs.map (fun kv => if kv.1 = k then (kv.1, v) else kv)).map (·.1) ∧ ValsAre ((cs.map (fun kv => if kv.1 = k then (kv.1, u) else kv)).map (·.2)) ((kvs.map (fun kv => if kv.1 = k then (kv.1, v) else kv)).map (·.2))
  | [], [], _, _, _, _, _, _ => ⟨rfl, .nil⟩
  | [], _ :: _, _, _, _, h, _, _ => by simp at h
  | _ :: _, [], _, _, _, h, _, _ => by simp at h
  | (a, x) :: cs, (b, y) :: kvs, k, u, v, h1, h2, h3 => by
    simp only [List.map_cons, List.cons.injEq] at h1
    obtain ⟨rfl, h1⟩ := h1
    cases h2 with
    | cons e r =>
      obtain ⟨i1, i2⟩ := map_store_conc (k := k) h1 r h3
      by_cases hk : a = k
      · simp only [List.map_cons, if_pos hk]; exact ⟨by rw [i1], .cons h3 i2⟩
      · simp only [List.map_cons, if_neg hk]; exact ⟨by rw [i1], .cons e i2⟩
theorem store_conc {cs : List (Str × Value)} {kvs : List (Str × V)} {k : Str} {u : Value} {v : V} (h1 : cs.map (·.1) = kvs.map (·.1)) (h2 : ValsAre (cs.map (·.2)) (kvs.map (·.2))) (h3 : absV u = some v) :
    (stored cs k u).map (·.1) = (store kvs k v).map (·.1) ∧ ValsAre ((stored cs k u).map (·.2)) ((store kvs k v).map (·.2)) := by
  unfold stored store
  rw [any_conc h1]
  split
  · exact map_store_conc h1 h2 h3
  · refine ⟨by simp only [List.map_append, List.map_cons, List.map_nil, h1], ?_⟩
    simp only [List.map_append, List.map_cons, List.map_nil]
    exact h2.append (.one h3)
theorem store_length (kvs : List (Str × V)) (k : Str) (v : V) : (store kvs k v).length ≤ kvs.length + 1 := by
  unfold store; split <;> simp
theorem store_length_has {kvs : List (Str × V)} {k : Str} {v : V} (h : (look kvs k).isSome = true) : (store kvs k v).length = kvs.length := by
  have : kvs.any (fun kv => decide (kv.1 = k)) = true := by
    unfold look at h
    rw [Option.isSome_map, List.find?_isSome] at h
    obtain ⟨x, hx, hk⟩ := h
    exact List.any_eq_true.mpr ⟨x, hx, hk⟩
  unfold store; rw [if_pos this]; simp
theorem look_store (kvs : List (Str × V)) (k k' : Str) (v : V) : look (store kvs k v) k' = if k' = k then some v else look kvs k' := by
  unfold store
  split
  · rename_i h
    induction kvs with
    | nil => simp at h
    | cons x r ih =>
      obtain ⟨a, y⟩ := x
      simp only [List.any_cons, Bool.or_eq_true, decide_eq_true_eq] at h
      unfold look at ih ⊢
      simp only [List.map_cons, List.find?_cons]
      by_cases hk : a = k
      · subst hk
        by_cases hk' : k' = a
        · subst hk'; simp
        · have e : ¬ a = k' := fun e => hk' e.symm
          simp only [if_true, decide_eq_false e, if_neg hk']
          by_cases hr : (r.any fun kv => decide (kv.1 = a)) = true
          · rw [ih hr, if_neg hk']
          · have hm : r.map (fun kv => if kv.1 = a then (kv.1, v) else kv) = r := by
              rw [List.map_congr_left (g := id)]
              · simp
              · intro z hz
                show _ = z
                rw [if_neg]
                intro e
                exact hr (List.any_eq_true.mpr ⟨z, hz, by simpa using e⟩)
            rw [hm]
      · have hr := h.resolve_left hk
        have ih' := ih hr
        simp only [if_neg hk]
        by_cases hak : a = k'
        · subst hak
          simp [hk]
        · simp only [decide_eq_false hak]; exact ih'
  · rename_i h
    have hno : ∀ z ∈ kvs, ¬ z.1 = k := fun z hz e => h (List.any_eq_true.mpr ⟨z, hz, by simpa using e⟩)
    unfold look
    rw [List.find?_append]
    by_cases hk : k' = k
    · subst hk
      have : kvs.find? (fun kv => decide (kv.1 = k')) = none := List.find?_eq_none.mpr fun z hz => by simpa using hno z hz
      simp [this]
    · have e : ¬ k = k' := fun e => hk e.symm
      cases hf : kvs.find? (fun kv => decide (kv.1 = k')) <;> simp [hk, e]
theorem dict_map {kvs : List (Str × V)} {a : Addr} {h : Heap} (x : ObjIs C.prog C.w h a (.dict kvs)) : ∃ cs, h.DictOf (PySem.strKind C.prog C.w) a cs ∧ cs.map (·.1) = kvs.map (·.1) ∧ ValsAre (cs.map (·.2)) (kvs.map (·.2)) ∧ kvs.length ≤ 1048576 := x
theorem strKind_is {x : Str} {t : Tok} : (PySem.strKind C.prog C.w).is x (.str x t) = true := by
  show Value.isStrOf x (.str x t) = true
  simp [Value.isStrOf]
theorem sok_dict {a : Addr} {k : Str} {kvs : List (Str × V)} {v : V} (e : H a = some (.dict kvs)) (hv : look kvs k = some v) (q : Q v H) : SOK C (.loc a) (.str k) ρ H Q := by
  intro u u' x y A s hA R
  cases isV_loc x
  obtain ⟨t, rfl, _⟩ := isV_str y
  obtain ⟨cs, hd, h1, h2, hz⟩ := R.view a _ e
  obtain ⟨w, hw, ha⟩ := look_conc h1 h2 hv
  exact ⟨"dict", _, slot_dict_getitem.lookup, hd.typeIs, wpAny_getItem_of strKind_is hd.mapOf hw (Done.v R ha q _)⟩
theorem dict_ne {a : Addr} {o : AO} {h : Heap} (R : Rel C ρ H h) (e : H a = some o) : (a == sysModules) = false := by
  rw [beq_eq_false_iff_ne]
  intro x
  subst x
  rw [R.sysm.1] at e; cases e
theorem cok_in_dict {a : Addr} {k : Str} {kvs : List (Str × V)} (e : H a = some (.dict kvs)) (q : Q (.bool (look kvs k).isSome) H) : COK C .In (.str k) (.loc a) ρ H Q := by
  intro u u' x y A s hA R
  cases isV_loc y
  obtain ⟨t, rfl, _⟩ := isV_str x
  obtain ⟨cs, hd, h1, h2, hz⟩ := R.view a _ e
  exact wpAny_in_of strKind_is (dict_ne R e) hd.mapOf (Done.v R (by rw [look_none h1]; rfl) q _)
theorem cok_notin_dict {a : Addr} {k : Str} {kvs : List (Str × V)} (e : H a = some (.dict kvs)) (q : Q (.bool (!(look kvs k).isSome)) H) : COK C .NotIn (.str k) (.loc a) ρ H Q := by
  intro u u' x y A s hA R
  cases isV_loc y
  obtain ⟨t, rfl, _⟩ := isV_str x
  obtain ⟨cs, hd, h1, h2, hz⟩ := R.view a _ e
  exact wpAny_notIn_of strKind_is (dict_ne R e) hd.mapOf (Done.v R (by rw [look_none h1]; rfl) q _)
end
end Mine
end
section
set_option maxRecDepth 100000
set_option Elab.async false
set_option linter.unusedVariables false
namespace Mine
open PySem PySem.Spec PyProof.Rows
inductive Fl where
  | next | brk | cont | ret (v : V)
def isFl : Flow → Fl → Prop
  | .next, .next => True
  | .brk, .brk => True
  | .cont, .cont => True
  | .ret u, .ret v => absV u = some v
  | _, _ => False
/-- what a statement must leave as it was -/
structure SKp (C : Cx) (H H' : HV) (s s' : Shared) : Prop where
  get : ∀ b o, s.heap.get? b = some o → tabl o = false → (b < C.lo ∨ (H b = Option.none ∧ b ≠ C.env.locals ∧ ∀ x, (x, b) ∉ C.env.cells)) → s'.heap.get? b = some o
  there : ∀ b o, s.heap.get? b = some o → ∃ o', s'.heap.get? b = some o'
  gr : Gr H H' s.heap
  os : s'.os = s.os
  gens : AllBare s.gens → AllBare s'.gens
theorem SKp.refl (C : Cx) (H : HV) (s : Shared) : SKp C H H s s := ⟨fun _ _ e _ _ => e, fun _ o e => ⟨o, e⟩, Gr.refl _ _, rfl, fun x => x⟩
theorem SKp.trans {C : Cx} {H H₁ H₂ : HV} {s s₁ s₂ : Shared} (a : SKp C H H₁ s s₁) (b : SKp C H₁ H₂ s₁ s₂) : SKp C H H₂ s s₂ :=
  ⟨fun x o e t c => b.get x o (a.get x o e t c) t (c.imp (fun h => h) fun ⟨h1, h2⟩ => ⟨a.gr x o e h1, h2⟩), fun x o e => let ⟨o', e'⟩ := a.there x o e; b.there x o' e',
    a.gr.trans a.there b.gr, b.os.trans a.os, fun x => b.gens (a.gens x)⟩
theorem SKp.of_kp {C : Cx} {H H' : HV} {s s' : Shared} (K : Kp s s') (G : Gr H H' s.heap) : SKp C H H' s s' := ⟨fun b o e t _ => K.get b o e t, K.there, G, K.os, K.gens⟩
/-- one object of the activation's own turned -/
theorem SKp.one {C : Cx} {H H' : HV} {s : Shared} {h' : Heap} {a : Addr} (t : Nat) (hs : Heap.SameBut a s.heap h') (ha : C.lo ≤ a) (hc : H a = Option.none → a = C.env.locals ∨ ∃ x, (x, a) ∈ C.env.cells) (hx : ∀ o, s.heap.get? a = some o → ∃ o', h'.get? a = some o')
    (g : Gr H H' s.heap) : SKp C H H' s { s with heap := h', toks := t } := by
  refine ⟨fun b o e _ c => ?_, fun b o e => ?_, g, rfl, fun x => x⟩
  · have hb : b ≠ a := by
      rintro rfl
      rcases c with c | ⟨c1, c2, c3⟩
      · exact absurd ha (Nat.not_le.mpr c)
      · rcases hc c1 with h | ⟨x, h⟩
        · exact c2 h
        · exact c3 x h
    exact (hs.2 b hb).trans e
  · by_cases hb : b = a
    · subst hb; exact hx o e
    · exact ⟨o, (hs.2 b hb).trans e⟩
def SDone (C : Cx) (H : HV) (s : Shared) (Q : Fl → EV → HV → Prop) (f : Flow) (s' : Shared) : Prop :=
  ∃ fl ρ' H', isFl f fl ∧ SKp C H H' s s' ∧ Rel C ρ' H' s'.heap ∧ Q fl ρ' H'
def Exs (C : Cx) (body : List Stmt) (ρ : EV) (H : HV) (Q : Fl → EV → HV → Prop) : Prop :=
  ∀ (A : Around) (s : Shared), Rm A C.k → Rel C ρ H s.heap → wpAny (model C.prog C.w) A (execs body C.env) (SDone C H s Q) nay s
def Ex (C : Cx) (st : Stmt) (ρ : EV) (H : HV) (Q : Fl → EV → HV → Prop) : Prop :=
  ∀ (A : Around) (s : Shared), Rm A C.k → Rel C ρ H s.heap → wpAny (model C.prog C.w) A (exec st C.env) (SDone C H s Q) nay s
section
variable {C : Cx} {ρ : EV} {H H' : HV} {A : Around} {s : Shared} {Q : Fl → EV → HV → Prop}
theorem SDone.trans {s s₁ s₂ : Shared} {H H₁ : HV} {f : Flow} (K : SKp C H H₁ s s₁) (d : SDone C H₁ s₁ Q f s₂) : SDone C H s Q f s₂ := by
  obtain ⟨fl, ρ', H', a, b, c⟩ := d
  exact ⟨fl, ρ', H', a, K.trans b, c⟩
theorem Exs.use {body : List Stmt} (x : Exs C body ρ H Q) (hA : Rm A C.k) (R : Rel C ρ H s.heap) {P : Flow → Shared → Prop} {E : Value → Shared → Prop}
    (g : ∀ f fl ρ' H' s', isFl f fl → SKp C H H' s s' → Rel C ρ' H' s'.heap → Q fl ρ' H' → P f s') : wpAny (model C.prog C.w) A (execs body C.env) P E s :=
  wpAny_mono (x A s hA R) (fun f s' ⟨fl, ρ', H', a, b, c, d⟩ => g f fl ρ' H' s' a b c d) fun _ _ e => e.elim
theorem Exs.mono {body : List Stmt} {Q' : Fl → EV → HV → Prop} (x : Exs C body ρ H Q) (g : ∀ fl ρ' H', Q fl ρ' H' → Q' fl ρ' H') : Exs C body ρ H Q' :=
  fun A s hA R => x.use hA R fun f fl ρ' H' s' a b c d => ⟨fl, ρ', H', a, b, c, g _ _ _ d⟩
theorem exs_nil (q : Q .next ρ H) : Exs C [] ρ H Q := fun A s hA R => wpAny_execs_nil ⟨.next, ρ, H, trivial, SKp.refl _ _ _, R, q⟩
theorem exs_cons {st : Stmt} {rest : List Stmt} (h : Ex C st ρ H fun fl ρ₁ H₁ => match fl with | .next => Exs C rest ρ₁ H₁ Q | fl => Q fl ρ₁ H₁) : Exs C (st :: rest) ρ H Q := by
  intro A s hA R
  refine wpAny_execs_cons (wpAny_mono (h A s hA R) (fun f s' hd => ?_) fun _ _ e => e)
  obtain ⟨fl, ρ', H', a, b, c, d⟩ := hd
  cases f <;> cases fl <;> first | exact absurd a (fun x => x) | skip
  · exact wpAny_mono (d A s' hA c) (fun _ _ d => d.trans b) fun _ _ e => e
  · exact ⟨.brk, ρ', H', a, b, c, d⟩
  · exact ⟨.cont, ρ', H', a, b, c, d⟩
  · exact ⟨.ret _, ρ', H', a, b, c, d⟩
theorem ex_Pass {pos : Pos} (q : Q .next ρ H) : Ex C (.Pass pos) ρ H Q := fun A s hA R => wpAny_Pass ⟨.next, ρ, H, trivial, SKp.refl _ _ _, R, q⟩
theorem ex_Break {pos : Pos} (q : Q .brk ρ H) : Ex C (.Break pos) ρ H Q := fun A s hA R => wpAny_Break ⟨.brk, ρ, H, trivial, SKp.refl _ _ _, R, q⟩
theorem ex_Return {e : Expr} {pos : Pos} (h : Ev C e ρ H fun v H₁ => Q (.ret v) ρ H₁) : Ex C (.Return (some e) pos) ρ H Q :=
  fun A s hA R => wpAny_Return_some (h.use hA R fun u v s₁ H₁ a K R₁ G q => ⟨.ret v, ρ, H₁, a, .of_kp K G, R₁, q⟩)
theorem ex_If {test : Expr} {body orelse : List Stmt} {pos : Pos} (h : Tst C test ρ H fun b H₁ => if b = true then Exs C body ρ H₁ Q else Exs C orelse ρ H₁ Q) : Ex C (.If test body orelse pos) ρ H Q := by
  intro A s hA R
  refine wpAny_If (h.use hA R fun u v s₁ H₁ a K R₁ G q => ?_)
  cases (show u = v from a)
  cases u with
  | true => exact wpAny_mono (q A s₁ hA R₁) (fun _ _ d => d.trans (.of_kp K G)) fun _ _ e => e
  | false => exact wpAny_mono (q A s₁ hA R₁) (fun _ _ d => d.trans (.of_kp K G)) fun _ _ e => e
/-- a name is stored -/
theorem store_name {x : Str} {u : Value} {v : V} {P : Unit → Shared → Prop} (hk : C.nms.lookup x = some .local ∨ C.nms.lookup x = some .cell) {E : Value → Shared → Prop} (R : Rel C ρ H s.heap) (a : absV u = some v)
    (g : ∀ s', SKp C H H s s' → Rel C (put ρ x v) H s'.heap → P () s') : wpAny (model C.prog C.w) A (storeName C.env x u) P E s := by
  obtain ⟨m, hn, hm⟩ := R.loc
  rcases hk with hk | hk
  · refine wpAny_storeName_local ((R.kindOf x).trans hk) hn (fun h' hn' hs' => g _ ?_ ?_) (by rw [R.eok.kind]; rfl)
    · exact SKp.one _ hs' R.lloc (fun _ => .inl rfl) (fun o e => let ⟨o', _, _, e', _⟩ := hn'; ⟨o', e'⟩) (Gr.refl _ _)
    · have kb : ∀ b, b ≠ C.env.locals → h'.get? b = s.heap.get? b := fun b hb => hs'.2 b hb
      refine ⟨R.eok, fun b o e t => ?_, R.old.step_same (Nat.le_trans R.blo R.lloc) hs', R.blo, fun b o e => ?_, fun y v' e => ?_, ⟨_, hn', fun y v' hy e => ?_⟩, fun y hy => ?_, R.apart, fun y c hc => ?_, R.hloc, R.lloc, R.sysm.1, ?_⟩
      · have : b ≠ C.env.locals := Nat.ne_of_lt (Nat.lt_of_lt_of_le (Heap.lt_size e) (Nat.le_trans R.blo R.lloc))
        rw [kb b this]; exact R.base b o e t
      · have : b ≠ C.env.locals := by rintro rfl; rw [R.hloc] at e; cases e
        exact (R.view b o e).at fun ob eb _ => (kb b this).trans eb
      · unfold put at e
        split at e
        · rename_i hy; subst hy; exact .inl hk
        · exact R.dom y v' e
      · unfold put at e
        split at e
        · rename_i hyx; subst hyx; cases e; exact ⟨u, by simp, a⟩
        · rename_i hyx; rw [if_neg hyx]; exact hm y v' hy e
      · obtain ⟨c, u', a1, a2, a3⟩ := R.cel y hy
        refine ⟨c, u', a1, a2.sameBut hs' (R.cloc y c (mem_of_lookup a1)).1, fun v' e => a3 v' ?_⟩
        unfold put at e
        split at e
        · rename_i hyx; subst hyx; rw [hk] at hy; rcases hy with hy | hy <;> cases hy
        · exact e
      · obtain ⟨h1, h2, h3, o, h4⟩ := R.cloc y c hc
        exact ⟨h1, h2, h3, o, (kb c h1).trans h4⟩
      · obtain ⟨_, o, ho⟩ := R.sysm
        by_cases hb : sysModules = C.env.locals
        · obtain ⟨o', _, _, e', _⟩ := hn'; exact ⟨o', hb ▸ e'⟩
        · exact ⟨o, (kb _ hb).trans ho⟩
  · obtain ⟨c, u₀, hc, hcell, _⟩ := R.cel x (.inl hk)
    obtain ⟨c1, c2, c3, oc, c4⟩ := R.cloc x c (mem_of_lookup hc)
    refine wpAny_storeName_cell R.eok.kind ((R.kindOf x).trans hk) hc hcell fun h' hv' hs' => g _ ?_ ?_
    · exact SKp.one s.toks hs' c2 (fun _ => .inr ⟨x, mem_of_lookup hc⟩) (fun o e => let ⟨o', e', _⟩ := hv'; ⟨o', e'⟩) (Gr.refl _ _)
    · have kb : ∀ b, b ≠ c → h'.get? b = s.heap.get? b := fun b hb => hs'.2 b hb
      refine ⟨R.eok, fun b o e t => ?_, R.old.step_same (Nat.le_trans R.blo c2) hs', R.blo, fun b o e => ?_, fun y v' e => ?_, ⟨m, hn.sameBut hs' (Ne.symm c1), fun y v' hy e => ?_⟩, fun y hy => ?_, R.apart, fun y c' hc' => ?_, R.hloc, R.lloc, R.sysm.1, ?_⟩
      · have : b ≠ c := Nat.ne_of_lt (Nat.lt_of_lt_of_le (Heap.lt_size e) (Nat.le_trans R.blo c2))
        rw [kb b this]; exact R.base b o e t
      · have : b ≠ c := by rintro rfl; rw [c3] at e; cases e
        exact (R.view b o e).at fun ob eb _ => (kb b this).trans eb
      · unfold put at e
        split at e
        · rename_i hy; subst hy; exact .inr (.inl hk)
        · exact R.dom y v' e
      · unfold put at e
        split at e
        · rename_i hyx; subst hyx; rw [hk] at hy; cases hy
        · exact hm y v' hy e
      · by_cases hyx : y = x
        · subst hyx
          exact ⟨c, some u, hc, hv', fun v' e => ⟨u, rfl, by simp [put] at e; rw [← e]; exact a⟩⟩
        · obtain ⟨c', u', a1, a2, a3⟩ := R.cel y hy
          have hne : c' ≠ c := fun e => hyx (R.apart _ _ _ (mem_of_lookup a1) (e ▸ mem_of_lookup hc))
          refine ⟨c', u', a1, a2.sameBut hs' hne, fun v' e => a3 v' ?_⟩
          unfold put at e; rw [if_neg hyx] at e; exact e
      · obtain ⟨h1, h2, h3, o, h4⟩ := R.cloc y c' hc'
        by_cases hcc : c' = c
        · subst hcc; obtain ⟨o', e', _⟩ := hv'; exact ⟨h1, h2, h3, o', e'⟩
        · exact ⟨h1, h2, h3, o, (kb c' hcc).trans h4⟩
      · obtain ⟨_, o, ho⟩ := R.sysm
        by_cases hb : sysModules = c
        · obtain ⟨o', e', _⟩ := hv'; exact ⟨o', hb ▸ e'⟩
        · exact ⟨o, (kb _ hb).trans ho⟩
theorem ex_Assign {x : Str} {p pos : Pos} {value : Expr} (hk : C.nms.lookup x = some .local ∨ C.nms.lookup x = some .cell) (h : Ev C value ρ H fun v H₁ => Q .next (put ρ x v) H₁)
    (hs : ∀ env, swapsWith value (some (.Name x p)) pos.line env = pure false := by intro _; rfl) : Ex C (.Assign [.Name x p] value pos) ρ H Q :=
  fun A s hA R => wpAny_Assign_Name (h.use hA R fun u v s₁ H₁ a K R₁ G q => store_name hk R₁ a fun s' K' R' => ⟨.next, _, H₁, trivial, (SKp.of_kp K G).trans K', R', q⟩) (hs _)
/-- an object of the activation's own is turned -/
theorem turn_obj {a : Addr} {o : AO} {h' : Heap} (R : Rel C ρ H s.heap) (ha : C.lo ≤ a) (e : (H a).isSome = true) (hs : Heap.SameBut a s.heap h') (x : ObjIs C.prog C.w h' a o) :
    SKp C H (upd H a o) s { s with heap := h' } ∧ Rel C ρ (upd H a o) h' := by
  have kb : ∀ b, b ≠ a → h'.get? b = s.heap.get? b := fun b hb => hs.2 b hb
  have hne : a ≠ C.env.locals := by rintro rfl; rw [R.hloc] at e; cases e
  have g : Gr H (upd H a o) s.heap := fun b o' eb n => by
    unfold upd; split
    · rename_i h; subst h; rw [n] at e; cases e
    · exact n
  refine ⟨SKp.one (h' := h') s.toks hs ha (fun n => by rw [n] at e; cases e) (fun _ _ => x.there) g, ?_⟩
  obtain ⟨m, hn, hm⟩ := R.loc
  refine ⟨R.eok, fun b o' eb t => ?_, R.old.step_same (Nat.le_trans R.blo ha) hs, R.blo, fun b o' eb => ?_, R.dom, ⟨m, hn.sameBut hs (Ne.symm hne), hm⟩, fun y hy => ?_, R.apart, fun y c hc => ?_, ?_, R.lloc, ?_, ?_⟩
  · have : b ≠ a := Nat.ne_of_lt (Nat.lt_of_lt_of_le (Heap.lt_size eb) (Nat.le_trans R.blo ha))
    rw [kb b this]; exact R.base b o' eb t
  · unfold upd at eb
    split at eb
    · rename_i hb; subst hb; cases eb; exact x
    · rename_i hb; exact (R.view b o' eb).at fun ob e' _ => (kb b hb).trans e'
  · obtain ⟨c, u, a1, a2, a3⟩ := R.cel y hy
    have hca : c ≠ a := by rintro rfl; rw [(R.cloc y c (mem_of_lookup a1)).2.2.1] at e; cases e
    exact ⟨c, u, a1, a2.sameBut hs hca, a3⟩
  · obtain ⟨h1, h2, h3, o', h4⟩ := R.cloc y c hc
    have hca : c ≠ a := by rintro rfl; rw [h3] at e; cases e
    exact ⟨h1, h2, by unfold upd; rw [if_neg hca]; exact h3, o', (kb c hca).trans h4⟩
  · unfold upd; rw [if_neg (Ne.symm hne)]; exact R.hloc
  · unfold upd; split
    · rename_i h; rw [← h, R.sysm.1] at e; cases e
    · exact R.sysm.1
  · obtain ⟨h1, o', h2⟩ := R.sysm
    by_cases hb : sysModules = a
    · rw [← hb, h1] at e; cases e
    · exact ⟨o', (kb _ hb).trans h2⟩
end
end Mine
end
section
set_option maxRecDepth 100000
set_option Elab.async false
set_option linter.unusedVariables false
namespace Mine
open PySem PySem.Spec PyProof.Rows
section
variable {C : Cx} {ρ : EV} {H H' : HV} {A : Around} {s : Shared} {Q : Fl → EV → HV → Prop}
theorem plainL_of {h : Heap} {a : Addr} {its : Array Value} (x : h.PlainList a its) : PlainL h a its := let ⟨n, e⟩ := x; ⟨_, n, e, rfl, rfl, rfl⟩
/-- o.append(elt) -/
theorem ex_append {o elt : Expr} {apos pos spos : Pos}
    (h : Ev C o ρ H fun a H₁ => ∃ b, a = .loc b ∧ (∃ vs, H₁ b = some (.list vs)) ∧ Ev C elt ρ H₁ fun v H₂ => ∃ vs, H₂ b = some (.list vs) ∧ C.lo ≤ b ∧ vs.length < 1048576 ∧ Q .next ρ (upd H₂ b (.list (vs ++ [v]))))
    (hbase : ∀ env, attributeBase o "append" env (eval o env) = eval o env := by intro _; rfl)
    (hfew : ∀ env, ((backTo pos (starEach [elt] env)).all (fun x => !x.1) && (backToKw pos (keywordEach [] env)).all (fun x => x.1.isSome)
      && decide (([elt] : List Expr).length + ([] : List Keyword).length + (if ([] : List Keyword).isEmpty then 0 else 1) < 30)) = true := by intro _; rfl)
    (hline : (apos.endLine == pos.line) = true := by rfl)
    (htrees : ∀ env, backTo pos (starEach [elt] env) = [(false, eval elt env)] := by intro _; rfl) :
    Ex C (.Expr (.Call (.Attribute o "append" apos) [elt] [] pos) spos) ρ H Q := by
  intro A s hA R
  refine wpAny_Expr_any (wpAny_Call_append (hbase _) (hfew _) hline (htrees _) (h.use hA R fun u v s₁ H₁ a K R₁ G q => ?_)) ?_ ?_
  · obtain ⟨b, rfl, ⟨vs, hb⟩, q⟩ := q
    cases isV_loc a
    obtain ⟨its, hl, _⟩ := R₁.view b _ hb
    refine ⟨b, _, rfl, plainL_of hl, q.use hA R₁ fun u' v' s₂ H₂ a' K' R₂ G' q' => ?_⟩
    obtain ⟨vs', hb', hlo, hz, q'⟩ := q'
    obtain ⟨its', hl', hx, _⟩ := R₂.view b _ hb'
    refine wpAny_list_append_plain hl' (fun h' hl'' hs'' => ?_) (by rw [List.size_toArray, hx.length]; exact Nat.le_trans (Nat.le_of_lt hz) (by decide))
    have ob : ObjIs C.prog C.w h' b (.list (vs' ++ [v'])) := ⟨its' ++ [u'], by simpa using hl'', hx.append (.one a'), by rw [List.length_append]; exact hz⟩
    obtain ⟨k1, k2⟩ := turn_obj R₂ hlo (by rw [hb']; rfl) hs'' ob
    exact ⟨.next, ρ, _, trivial, (SKp.of_kp K G).trans ((SKp.of_kp K' G').trans k1), k2, q'⟩
  · show (C.env.scope.kind == .module && _) = false
    rw [R.eok.kind]; rfl
  · rfl
theorem setItem_plain {l : Addr} {items : Array Value} {k : Int} {t : Tok} {v : Value} {P : Unit → Shared → Prop} {prog : Program} {w : World} {E : Value → Shared → Prop} (hl : s.heap.PlainList l items)
    (h0 : 0 ≤ k) (hfit : k < 2 ^ 63) (hn : k < items.size)
    (hQ : ∀ h', h'.PlainList l (items.setIfInBounds k.toNat v) → Heap.SameBut l s.heap h' → P () { s with heap := h' }) :
    wpAny (model prog w) A (setItem (.ref l) (.int k t) v) P E s := by
  obtain ⟨ne, ho⟩ := id hl
  have hd : ({ cls := .type "list", data := .seq items ne } : Obj).data = .seq items ne := rfl
  unfold setItem
  try with_reducible refine wpAny_holding ?_
  first | refine wpAny_bind (wpAny_pure ?_) | skip
  refine wpAny_bind (wpAny_sequenceKey hl.isList.typeIs (by decide) ?_)
  refine wpAny_bind (wpAny_callSpecial?_slot (name := Str.ofString "__setitem__") hl.isList.typeIs slot_list_setitem
    (wpAny_call_entry slot_list_setitem hl.isList.typeIs entry_list_setitem ?_ (args_list_setitem _ _ _)))
  show wpAny _ _ (Builtin.List.listSubscript? (.int k t) >>= _) _ _ s
  refine wpAny_bind (wpAny_listSubscript_int (fitsIndex_of h0 hfit) ?_)
  clear hfit
  obtain ⟨j, rfl⟩ := Int.eq_ofNat_of_zero_le h0
  have hj : j < items.size := by omega
  have hx' : items[j]? = some items[j] := Array.getElem?_eq_getElem hj
  show wpAny _ _ ((seqItemAt l j >>= fun r => pure (r.map (j, ·))) >>= _) _ _ s
  refine wpAny_bind (wpAny_bind (wpAny_seqItemAt ho hd (wpAny_pure ?_)))
  rw [hx']
  show wpAny _ _ (setSeqItemAt l j v >>= _) _ _ s
  have hfin : (s.heap.update l (Obj.mapSeq (·.setIfInBounds j v))).PlainList l (items.setIfInBounds j v) :=
    ⟨_, Heap.get?_update_self _ ho rfl⟩
  refine wpAny_bind (wpAny_setSeqItemAt ho hd ?_)
  first
    | exact wpAny_bind (wpAny_pure (wpAny_pure ⟨.none, rfl, wpAny_pure (hQ _ hfin (Heap.SameBut.update ..))⟩))
    | exact wpAny_pure ⟨.none, rfl, wpAny_pure (hQ _ hfin (Heap.SameBut.update ..))⟩
/-- what o[i] = v turns -/
def SetOK (C : Cx) (a b v : V) (ρ : EV) (H : HV) (P : HV → Prop) : Prop :=
  (∃ l i vs, a = .loc l ∧ b = .int i ∧ H l = some (.list vs) ∧ C.lo ≤ l ∧ 0 ≤ i ∧ i < vs.length ∧ P (upd H l (.list (vs.set i.toNat v)))) ∨
  (∃ d k kvs, a = .loc d ∧ b = .str k ∧ H d = some (.dict kvs) ∧ C.lo ≤ d ∧ (store kvs k v).length ≤ 1048576 ∧ P (upd H d (.dict (store kvs k v))))
theorem ex_SetItem {o i value : Expr} {p pos : Pos} (h : Ev C value ρ H fun v H₁ => Ev C o ρ H₁ fun a H₂ => Ev C i ρ H₂ fun b H₃ => SetOK C a b v ρ H₃ fun H₄ => Q .next ρ H₄)
    (hs : ∀ env, swapsWith value (some (.Subscript o i p)) pos.line env = pure false := by intro _; rfl) : Ex C (.Assign [.Subscript o i p] value pos) ρ H Q := by
  intro A s hA R
  refine wpAny_Assign_Subscript (h.use hA R fun u v s₁ H₁ a₁ K₁ R₁ G₁ q => q.use hA R₁ fun u₂ v₂ s₂ H₂ a₂ K₂ R₂ G₂ q => q.use hA R₂ fun u₃ v₃ s₃ H₃ a₃ K₃ R₃ G₃ q => ?_) (hs _)
  have K : SKp C H H₃ s s₃ := (SKp.of_kp K₁ G₁).trans ((SKp.of_kp K₂ G₂).trans (.of_kp K₃ G₃))
  rcases q with ⟨l, i, vs, rfl, rfl, hl, hlo, h0, hi, q⟩ | ⟨d, k, kvs, rfl, rfl, hd, hlo, hz, q⟩
  · cases isV_loc a₂
    obtain ⟨t, rfl⟩ := isV_int a₃
    obtain ⟨its, hp, hx, hz⟩ := R₃.view l _ hl
    have hlen := hx.length
    refine setItem_plain hp h0 (by omega) (by rw [List.size_toArray]; omega) fun h' hp' hs' => ?_
    have ob : ObjIs C.prog C.w h' l (.list (vs.set i.toNat v)) := ⟨its.set i.toNat u, by simpa using hp', hx.set _ a₁, by rw [List.length_set]; exact hz⟩
    obtain ⟨k1, k2⟩ := turn_obj R₃ hlo (by rw [hl]; rfl) hs' ob
    exact ⟨.next, ρ, _, trivial, K.trans k1, k2, q⟩
  · cases isV_loc a₂
    obtain ⟨t, rfl, _⟩ := isV_str a₃
    obtain ⟨cs, hc, h1, h2, hz'⟩ := R₃.view d _ hd
    have hlen : cs.length = kvs.length := by have := congrArg List.length h1; simpa using this
    refine wpAny_setItem_pairs strKind_is hc (fun h' hc' hs' => ?_) (by rw [hlen]; exact Nat.le_trans hz' (by decide))
    obtain ⟨e1, e2⟩ := store_conc (k := k) h1 h2 a₁
    have ob : ObjIs C.prog C.w h' d (.dict (store kvs k v)) := ⟨stored cs k u, hc', e1, e2, hz⟩
    obtain ⟨k1, k2⟩ := turn_obj R₃ hlo (by rw [hd]; rfl) hs' ob
    exact ⟨.next, ρ, _, trivial, K.trans ⟨k1.get, k1.there, k1.gr, k1.os, k1.gens⟩, k2, q⟩
/-- a while loop: I n holds where n more turns may come -/
theorem ex_While {test : Expr} {body : List Stmt} {pos : Pos} (I : Nat → EV → HV → Prop)
    (turn : ∀ n ρ' H', I n ρ' H' → Tst C test ρ' H' fun b H₁ => if b = true then Exs C body ρ' H₁ (fun fl ρ₂ H₂ => match fl with | .next | .cont => ∃ m, m < n ∧ I m ρ₂ H₂ | .brk => Q .next ρ₂ H₂ | .ret v => Q (.ret v) ρ₂ H₂) else Q .next ρ' H₁)
    (n : Nat) (h : I n ρ H) : Ex C (.While test body [] pos) ρ H Q := by
  intro A s hA R
  refine wpAny_While (codeAny_mono (R := fun r s' => match r with | .ok f => SDone C H s Q f s' | .error _ => False) ?_ ?_)
  · refine codeAny_whileLoop (fun n s' => ∃ ρ' H', I n ρ' H' ∧ SKp C H H' s s' ∧ Rel C ρ' H' s'.heap) ?_ n ⟨ρ, H, h, SKp.refl _ _ _, R⟩
    rintro n s₁ ⟨ρ', H', hI, K, R₁⟩
    refine (turn n ρ' H' hI).use hA R₁ fun u v s₂ H₂ a K₂ R₂ G₂ q => ?_
    cases (show u = v from a)
    have K' := K.trans (SKp.of_kp K₂ G₂)
    cases u with
    | true =>
      refine (show Exs _ _ _ _ _ from q).use hA R₂ fun f fl ρ₃ H₃ s₃ a K₃ R₃ q => ?_
      cases f <;> cases fl <;> first | exact absurd a (fun x => x) | skip
      · obtain ⟨m, hm, hI⟩ := q; exact ⟨m, hm, ρ₃, H₃, hI, K'.trans K₃, R₃⟩
      · exact ⟨.next, ρ₃, H₃, trivial, K'.trans K₃, R₃, q⟩
      · obtain ⟨m, hm, hI⟩ := q; exact ⟨m, hm, ρ₃, H₃, hI, K'.trans K₃, R₃⟩
      · exact ⟨.ret _, ρ₃, H₃, a, K'.trans K₃, R₃, q⟩
    | false => exact wpAny_execs_nil ⟨.next, ρ', H₂, trivial, K', R₂, q⟩
  · intro r s' d
    cases r with
    | ok f => exact d
    | error e => exact d.elim
end
end Mine
end
section
set_option maxRecDepth 100000
set_option Elab.async false
set_option linter.unusedVariables false
namespace Mine
open PySem PySem.Spec PyProof.Rows
/-- what is gone through -/
inductive Src where
  | list (a : Addr) (vs : List V) | tup (a : Addr) (vs : List V) | rng (a₀ : Int) (n : Nat)
def Src.vals : Src → List V
  | .list _ vs => vs
  | .tup _ vs => vs
  | .rng a₀ n => (List.range n).map fun (j : Nat) => V.int (a₀ + (j : Int))
def Src.Ok (H : HV) : Src → Prop
  | .list a vs => H a = some (.list vs)
  | .tup a vs => H a = some (.tuple vs)
  | .rng _ n => n ≤ 1048576
def ItIs (h : Heap) (I : Addr) (i : Nat) : Src → Prop
  | .list a _ => h.IsListIter I a i
  | .tup a _ => h.IsTupleIter I a i
  | .rng a₀ n => IsRangeIter h I (a₀ + (i : Int) * 1) ((n : Int) - (i : Int)) 1
theorem oldK_but {h₀ h h' : Heap} (K : OldK h₀ h) {a : Addr} (ha : h₀.objs.size ≤ a) (hx : ∀ b o, b ≠ a → h.get? b = some o → h'.get? b = some o) : OldK h₀ h' := by
  have ne : ∀ b o, h₀.get? b = some o → b ≠ a := fun b o e => Nat.ne_of_lt (Nat.lt_of_lt_of_le (Heap.lt_size e) ha)
  refine ⟨fun b o e => ?_, fun b o e => let ⟨o', ho'⟩ := K.there b o e; ⟨o', hx b _ (ne b o e) ho'⟩⟩
  rcases K.old b o e with x | ⟨t, hc, vs, more, hv, x⟩ | ⟨rfl, hc, ⟨o', es, n, ho', r⟩, z⟩
  · exact .inl (hx _ _ (ne b o e) x)
  · exact .inr (.inl ⟨t, hc, vs, more, hv, hx _ _ (ne b o e) x⟩)
  · exact .inr (.inr ⟨rfl, hc, ⟨o', es, n, hx _ _ (ne _ o e) ho', r⟩, fun key => by rw [OldK.staticOf_congr ((hx _ _ (ne _ o e) ho').trans ho'.symm) key]; exact z key⟩)
/-- a thing that the abstract state does not see -/
structure Off (C : Cx) (H : HV) (I : Addr) : Prop where
  hi : H I = Option.none
  lo : C.lo ≤ I
  loc : I ≠ C.env.locals
  cel : ∀ x, (x, I) ∉ C.env.cells
  sys : I ≠ sysModules
section
variable {C : Cx} {ρ : EV} {H H' : HV} {A : Around} {s : Shared} {h h' : Heap} {I : Addr}
theorem Rel.other (R : Rel C ρ H h) (o : Off C H I) (hx : ∀ b o, b ≠ I → h.get? b = some o → h'.get? b = some o) : Rel C ρ H h' := by
  obtain ⟨m, hn, hm⟩ := R.loc
  refine ⟨R.eok, fun b ob e t => hx _ _ (Nat.ne_of_lt (Nat.lt_of_lt_of_le (Heap.lt_size e) (Nat.le_trans R.blo o.lo))) (R.base b ob e t), oldK_but R.old (Nat.le_trans R.blo o.lo) hx, R.blo, fun b ob e => ?_, R.dom, ⟨m, hn.at' fun ob e => hx _ _ (Ne.symm o.loc) e, hm⟩, fun x hk => ?_, R.apart, fun x c hm => ?_, R.hloc, R.lloc, R.sysm.1, ?_⟩
  · have : b ≠ I := by rintro rfl; rw [o.hi] at e; cases e
    exact (R.view b ob e).at fun _ e' _ => hx _ _ this e'
  · obtain ⟨c, u, a1, a2, a3⟩ := R.cel x hk
    have hc : c ≠ I := by rintro rfl; exact o.cel x (mem_of_lookup a1)
    exact ⟨c, u, a1, cell_at a2 fun _ e' _ => hx _ _ hc e', a3⟩
  · obtain ⟨h1, h2, h3, ob, h4⟩ := R.cloc x c hm
    have hc : c ≠ I := by rintro rfl; exact o.cel x hm
    exact ⟨h1, h2, h3, ob, hx _ _ hc h4⟩
  · obtain ⟨_, ob, e⟩ := R.sysm
    exact ⟨ob, hx _ _ (Ne.symm o.sys) e⟩
theorem Off.new (R : Rel C ρ H h) (ha : h.objs.size ≤ I) : Off C H I := by
  obtain ⟨m, hn, _⟩ := R.loc
  refine ⟨(R.fresh ha).2, (R.fresh ha).1, Nat.ne_of_gt (Nat.lt_of_lt_of_le hn.lt ha), fun x hm => ?_, ?_⟩
  · obtain ⟨_, _, _, o, e⟩ := R.cloc x I hm
    exact absurd (Heap.lt_size e) (Nat.not_lt.mpr ha)
  · obtain ⟨_, o, e⟩ := R.sysm
    exact Nat.ne_of_gt (Nat.lt_of_lt_of_le (Heap.lt_size e) ha)
theorem Off.gr (o : Off C H I) {ob : Obj} (e : h.get? I = some ob) (g : Gr H H' h) : Off C H' I := ⟨g I ob e o.hi, o.lo, o.loc, o.cel, o.sys⟩
theorem SKp.skip {H₁ : HV} {s₁ : Shared} {t : Nat} (K : SKp C H H₁ s s₁) (hn : s.heap.get? I = Option.none) (hx : ∀ b o, b ≠ I → s₁.heap.get? b = some o → h'.get? b = some o) : SKp C H H₁ s { s₁ with heap := h', toks := t } := by
  have ne : ∀ b o, s.heap.get? b = some o → b ≠ I := fun b o e q => by subst q; rw [hn] at e; cases e
  exact ⟨fun b o e t c => hx _ _ (ne b o e) (K.get b o e t c), fun b o e => let ⟨o', e'⟩ := K.there b o e; ⟨o', hx _ _ (ne b o e) e'⟩, K.gr, K.os, K.gens⟩
theorem ItIs.there {i : Nat} {src : Src} (x : ItIs h I i src) : ∃ o, h.get? I = some o ∧ tabl o = false := by
  cases src with
  | list a vs => obtain ⟨o, e, c, d⟩ := x; exact ⟨o, e, tabl_type c⟩
  | tup a vs => obtain ⟨o, e, c, d⟩ := x; exact ⟨o, e, tabl_type c⟩
  | rng a n => exact ⟨_, x, rfl⟩
theorem ItIs.at {i : Nat} {src : Src} (x : ItIs h I i src) (k : ∀ o, h.get? I = some o → tabl o = false → h'.get? I = some o) : ItIs h' I i src := by
  cases src with
  | list a vs => obtain ⟨o, e, c, d⟩ := x; exact ⟨o, k _ e (tabl_type c), c, d⟩
  | tup a vs => obtain ⟨o, e, c, d⟩ := x; exact ⟨o, k _ e (tabl_type c), c, d⟩
  | rng a n => exact k _ x rfl
theorem next_item {i : Nat} {src : Src} {v : V} {P : Option Value → Shared → Prop} {E : Value → Shared → Prop} (R : Rel C ρ H s.heap) (ok : src.Ok H) (it : ItIs s.heap I i src) (hv : src.vals[i]? = some v)
    (g : ∀ u h' t, absV u = some v → ItIs h' I (i + 1) src → (∀ b o, b ≠ I → s.heap.get? b = some o → h'.get? b = some o) → P (some u) { s with heap := h', toks := t }) : wpAny (model C.prog C.w) A (pyNext (.ref I)) P E s := by
  cases src with
  | list a vs =>
    obtain ⟨its, hl, hx, _⟩ := R.view a _ ok
    obtain ⟨u, hu, ha⟩ := hx.get hv
    exact wpAny_pyNext_list_item it hl.isList (x := u) (by simpa using hu) fun h' it' hs => g u h' s.toks ha it' fun b o hb e => (hs.2 b hb).trans e
  | tup a vs =>
    obtain ⟨its, hl, hx, _⟩ := R.view a _ ok
    obtain ⟨u, hu, ha⟩ := hx.get hv
    exact wpAny_pyNext_tuple_item it hl (x := u) (by simpa using hu) fun h' it' hs => g u h' s.toks ha it' fun b o hb e => (hs.2 b hb).trans e
  | rng a₀ n =>
    have hi : i < n := by have := (List.getElem?_eq_some_iff.mp hv).1; simpa [Src.vals] using this
    have e : v = .int (a₀ + (i : Int)) := by simp [Src.vals, hi] at hv; exact hv.symm
    subst e
    refine wpAny_pyNext_range_item it (by omega) fun h' it' hs => g _ h' _ ?_ ?_ fun b o hb e => (hs.2 b hb).trans e
    · show some (V.int (a₀ + (i : Int) * 1)) = _
      rw [Int.mul_one]
    · have e1 : a₀ + (i : Int) * 1 + 1 = a₀ + ((i + 1 : Nat) : Int) * 1 := by omega
      have e2 : (n : Int) - (i : Int) - 1 = (n : Int) - ((i + 1 : Nat) : Int) := by omega
      rw [e1, e2] at it'
      exact it'
theorem next_end {src : Src} {P : Option Value → Shared → Prop} {E : Value → Shared → Prop} (hA : A.handled = Option.none) (R : Rel C ρ H s.heap) (ok : src.Ok H) (it : ItIs s.heap I src.vals.length src)
    (g : ∀ h', (∀ b o, b ≠ I → s.heap.get? b = some o → h'.get? b = some o) → P Option.none { s with heap := h' }) : wpAny (model C.prog C.w) A (pyNext (.ref I)) P E s := by
  cases src with
  | list a vs =>
    obtain ⟨its, hl, hx, _⟩ := R.view a _ ok
    exact wpAny_pyNext_list_end hA it hl.isList (by simp [Src.vals, hx.length]) fun h' hs => g h' fun b o hb e => hs b o hb e
  | tup a vs =>
    obtain ⟨its, hl, hx, _⟩ := R.view a _ ok
    exact wpAny_pyNext_tuple_end hA it hl (by simp [Src.vals, hx.length]) fun h' hs => g h' fun b o hb e => hs b o hb e
  | rng a₀ n =>
    have it' : IsRangeIter s.heap I (a₀ + ((Src.rng a₀ n).vals.length : Int) * 1) ((n : Int) - ((Src.rng a₀ n).vals.length : Int)) 1 := it
    exact wpAny_pyNext_range_end hA it' (by simp [Src.vals]) fun h' hs => g h' fun b o hb e => hs b o hb e
theorem iter_self {i : Nat} {src : Src} {P : Value → Shared → Prop} {E : Value → Shared → Prop} (it : ItIs s.heap I i src) (g : P (.ref I) s) : wpAny (model C.prog C.w) A (pyIter (.ref I)) P E s := by
  cases src with
  | list a vs => exact wpAny_pyIter_listiter it g
  | tup a vs => exact wpAny_pyIter_tupleiter it g
  | rng a₀ n => exact wpAny_pyIter_rangeiter it g
/-- the source of a loop: its iterator stands at the start -/
def Its (C : Cx) (iter : Expr) (ρ : EV) (H : HV) (K : Src → HV → Prop) : Prop :=
  ∀ (A : Around) (s : Shared), Rm A C.k → Rel C ρ H s.heap → wpAny (model C.prog C.w) A (eval iter C.env) (fun u s₁ => wpAny (model C.prog C.w) A (pyIter u) (fun it s₂ =>
    ∃ I src H', it = .ref I ∧ s.heap.get? I = Option.none ∧ ItIs s₂.heap I 0 src ∧ Kp s s₂ ∧ Rel C ρ H' s₂.heap ∧ Gr H H' s.heap ∧ Off C H' I ∧ src.Ok H' ∧ K src H') nay s₁) nay s
theorem get_none_ge {h : Heap} {a : Addr} (ha : h.objs.size ≤ a) : h.get? a = Option.none := Heap.get?_none_of_le ha
theorem its_list {iter : Expr} {K : Src → HV → Prop} (h : Ev C iter ρ H fun v H₁ => ∃ a vs, v = .loc a ∧ H₁ a = some (.list vs) ∧ K (.list a vs) H₁) : Its C iter ρ H K := by
  intro A s hA R
  refine h.use hA R fun u v s₁ H₁ a K₁ R₁ G₁ q => ?_
  obtain ⟨l, vs, rfl, hl, q⟩ := q
  cases isV_loc a
  obtain ⟨its, hp, hx, _⟩ := R₁.view l _ hl
  refine wpAny_pyIter_list hp.isList ?_
  have kp : ∀ b o, s₁.heap.get? b = some o → (s₁.heap.push { cls := .type "list_iterator", data := .fields #[.ref l, .int 0 0] }).get? b = some o := fun b o e => Heap.get?_push_of_some _ e
  refine ⟨_, .list l vs, H₁, rfl, ?_, ⟨_, Heap.get?_push_size _ rfl, rfl, rfl⟩, K₁.trans (kp_of s₁.toks kp), R₁.keep kp, G₁, Off.new R₁ (Nat.le_refl _), hl, q⟩
  cases e : s.heap.get? s₁.heap.objs.size with
  | none => rfl
  | some o => obtain ⟨o', e'⟩ := K₁.there _ o e; exact absurd (Heap.lt_size e') (Nat.lt_irrefl _)
theorem its_tuple {iter : Expr} {K : Src → HV → Prop} (h : Ev C iter ρ H fun v H₁ => ∃ a vs, v = .loc a ∧ H₁ a = some (.tuple vs) ∧ K (.tup a vs) H₁) : Its C iter ρ H K := by
  intro A s hA R
  refine h.use hA R fun u v s₁ H₁ a K₁ R₁ G₁ q => ?_
  obtain ⟨l, vs, rfl, hl, q⟩ := q
  cases isV_loc a
  obtain ⟨its, hp, hx, _⟩ := R₁.view l _ hl
  refine wpAny_pyIter_tuple hp ?_
  have kp : ∀ b o, s₁.heap.get? b = some o → (s₁.heap.push { cls := .type "tuple_iterator", data := .fields #[.ref l, .int 0 0] }).get? b = some o := fun b o e => Heap.get?_push_of_some _ e
  refine ⟨_, .tup l vs, H₁, rfl, ?_, ⟨_, Heap.get?_push_size _ rfl, rfl, rfl⟩, K₁.trans (kp_of s₁.toks kp), R₁.keep kp, G₁, Off.new R₁ (Nat.le_refl _), hl, q⟩
  cases e : s.heap.get? s₁.heap.objs.size with
  | none => rfl
  | some o => obtain ⟨o', e'⟩ := K₁.there _ o e; exact absurd (Heap.lt_size e') (Nat.lt_irrefl _)
/-- a for loop over src by what holds behind i turns -/
theorem ex_For {x : Str} {p pos : Pos} {iter : Expr} {body : List Stmt} {Q : Fl → EV → HV → Prop} (hk : C.nms.lookup x = some .local ∨ C.nms.lookup x = some .cell)
    (h : Its C iter ρ H fun src H₁ => ∃ Inv : Nat → EV → HV → Prop, Inv 0 ρ H₁ ∧
      (∀ i v ρ' H', src.vals[i]? = some v → Inv i ρ' H' → src.Ok H' → Exs C body (put ρ' x v) H' fun fl ρ₂ H₂ => match fl with
        | .next | .cont => Inv (i + 1) ρ₂ H₂ ∧ src.Ok H₂ | .brk => Q .next ρ₂ H₂ | .ret v => Q (.ret v) ρ₂ H₂) ∧
      (∀ ρ' H', Inv src.vals.length ρ' H' → src.Ok H' → Q .next ρ' H'))
    (hs : ∀ env x, foldedSetIterable iter env x = pure x := by intros; rfl) : Ex C (.For (.Name x p) iter body [] pos) ρ H Q := by
  intro A s hA R
  refine wpAny_For (wpAny_mono (h A s hA R) (fun u s₁ h₁ => wpAny_mono h₁ (fun it s₂ h₂ => ?_) fun _ _ e => e) fun _ _ e => e) (hs _)
  obtain ⟨I, src, H₁, rfl, hnew, hit, K, R₁, G, off, ok, Inv, inv0, turn, done⟩ := h₂
  refine codeAny_mono (R := fun r s' => match r with | .ok f => SDone C H s Q f s' | .error _ => False) ?_ ?_
  · refine codeAny_forLoop (fun n s' => ∃ i ρ' H', i ≤ src.vals.length ∧ n = src.vals.length - i ∧ Inv i ρ' H' ∧ src.Ok H' ∧ ItIs s'.heap I i src ∧ SKp C H H' s s' ∧ Rel C ρ' H' s'.heap ∧ Off C H' I) ?_ (src.vals.length - 0)
      ⟨0, ρ, H₁, Nat.zero_le _, rfl, inv0, ok, hit, .of_kp K G, R₁, off⟩
    rintro n s₃ ⟨i, ρ', H', hi, rfl, inv, ok', hit', K', R', off'⟩
    by_cases hlt : i < src.vals.length
    · refine next_item R' ok' hit' (v := src.vals[i]) (by simp [hlt]) fun u h₄ t ha hit₄ hx₄ => ?_
      have K₄ := K'.skip (t := t) hnew hx₄
      have R₄ := R'.other off' hx₄
      refine wpAny_assign_Name (store_name hk (s := { s₃ with heap := h₄, toks := t }) R₄ ha fun s₅ K₅ R₅ => ?_)
      obtain ⟨oI, eI, tI⟩ := hit₄.there
      have hit₅ : ItIs s₅.heap I (i + 1) src := hit₄.at fun o e tb => K₅.get I o e tb (.inr ⟨off'.hi, off'.loc, off'.cel⟩)
      obtain ⟨oI₅, eI₅, tI₅⟩ := hit₅.there
      refine (turn i src.vals[i] ρ' H' (by simp [hlt]) inv ok').use hA R₅ fun f fl ρ₆ H₆ s₆ a K₆ R₆ q => ?_
      have K₇ := K₄.trans (K₅.trans K₆)
      have hit₆ : ItIs s₆.heap I (i + 1) src := hit₅.at fun o e tb => K₆.get I o e tb (.inr ⟨off'.hi, off'.loc, off'.cel⟩)
      cases f <;> cases fl <;> first | exact absurd a (fun x => x) | skip
      · exact ⟨_, by omega, i + 1, ρ₆, H₆, hlt, rfl, q.1, q.2, hit₆, K₇, R₆, off'.gr eI₅ K₆.gr⟩
      · exact ⟨.next, ρ₆, H₆, trivial, K₇, R₆, q⟩
      · exact ⟨_, by omega, i + 1, ρ₆, H₆, hlt, rfl, q.1, q.2, hit₆, K₇, R₆, off'.gr eI₅ K₆.gr⟩
      · exact ⟨.ret _, ρ₆, H₆, a, K₇, R₆, q⟩
    · have e : i = src.vals.length := by omega
      subst e
      refine next_end hA.hd R' ok' hit' fun h₄ hx₄ => wpAny_execs_nil ⟨.next, ρ', H', trivial, K'.skip (t := s₃.toks) hnew hx₄, R'.other off' hx₄, done ρ' H' inv ok'⟩
  · intro r s' d
    cases r with
    | ok f => exact d
    | error e => exact d.elim
end
end Mine
end
section
set_option maxRecDepth 100000
set_option Elab.async false
set_option linter.unusedVariables false
namespace Mine
open PySem PySem.Spec PyProof.Rows
/-- a call of a built-in function or a type on given values -/
def VCall (C : Cx) (f : Value) (vs : List V) (ρ : EV) (H : HV) (Q : V → HV → Prop) : Prop := ∀ us, ValsAre us vs → TG C isV (call f us) ρ H Q
section
variable {C : Cx} {ρ : EV} {H H' : HV} {A : Around} {s : Shared} {Q : V → HV → Prop}
theorem ev_CallB {f : Str} {id : String} {p pos : Pos} {e : Expr} {es : List Expr} (g : GlobIs C f (.builtin id)) (hk : C.nms.lookup f = some .globalImplicit)
    (h : Args C pos (e :: es) ρ H fun vs H₁ => VCall C (.builtin id) vs ρ H₁ Q)
    (hs : ∀ env, starEach (e :: es) env = (false, eval e env) :: starEach es env := by intro _; rfl) (hp : ∀ env, (backTo pos (starEach (e :: es) env)).any (·.1) = false := by intro _; rfl)
    (hd : (f == ("__debug__" : Str)) = false := by decide) : Ev C (.Call (.Name f p) (e :: es) [] pos) ρ H Q := by
  intro A s hA R
  refine wpAny_Call_NameR (glob_load R g hk ?_ hd)
  have h' : TG C ValsAre (spliced (backTo pos (starEach (e :: es) C.env))) ρ H _ := h
  rw [hs] at h'
  have hp' := hp C.env
  rw [hs] at hp' ⊢
  exact Calls.callWith_builtin hp' (Calls.evalArgs_plain (h'.use hA R fun us vs s₁ H₁ a K R₁ G q => wpAny_mono (q us a A s₁ hA R₁) (fun _ _ d => d.trans K G) fun _ _ e => e))
theorem ev_CallT {f : Str} {T : String} {p pos : Pos} {e : Expr} {es : List Expr} (g : GlobIs C f (.type T)) (hk : C.nms.lookup f = some .globalImplicit)
    (h : Args C pos (e :: es) ρ H fun vs H₁ => VCall C (.type T) vs ρ H₁ Q)
    (hs : ∀ env, starEach (e :: es) env = (false, eval e env) :: starEach es env := by intro _; rfl) (hp : ∀ env, (backTo pos (starEach (e :: es) env)).any (·.1) = false := by intro _; rfl)
    (hd : (f == ("__debug__" : Str)) = false := by decide) : Ev C (.Call (.Name f p) (e :: es) [] pos) ρ H Q := by
  intro A s hA R
  refine wpAny_Call_NameR (glob_load R g hk ?_ hd)
  have h' : TG C ValsAre (spliced (backTo pos (starEach (e :: es) C.env))) ρ H _ := h
  rw [hs] at h'
  have hp' := hp C.env
  rw [hs] at hp' ⊢
  exact PySem.callWith_type hp' (Calls.evalArgs_plain (h'.use hA R fun us vs s₁ H₁ a K R₁ G q => wpAny_mono (q us a A s₁ hA R₁) (fun _ _ d => d.trans K G) fun _ _ e => e))
theorem its_range1 {p pos : Pos} {e : Expr} {K : Src → HV → Prop} (g : GlobIs C "range" (.type "range")) (hk : C.nms.lookup ("range" : Str) = some .globalImplicit)
    (h : Ev C e ρ H fun v H₁ => ∃ n : Int, v = .int n ∧ -1048576 ≤ n ∧ n ≤ 1048576 ∧ K (.rng 0 n.toNat) H₁)
    (hs : ∀ env, backTo pos (starEach [e] env) = [(false, eval e env)] := by intro _; rfl) : Its C (.Call (.Name "range" p) [e] [] pos) ρ H K := by
  intro A s hA R
  refine wpAny_Call_NameR (glob_load R g hk ?_ (by decide))
  rw [hs]
  refine PySem.callWith_type rfl (Calls.evalArgs_plain (Calls.spliced_cons (h.use hA R fun u v s₁ H₁ a K₁ R₁ G₁ q => Calls.spliced_nil ?_)))
  obtain ⟨n, rfl, hlo, hhi, q⟩ := q
  obtain ⟨t, rfl⟩ := isV_int a
  refine call_range_1 ?_
  refine wpAny_pyIter_range (IsRange.new ..) (small_one (by decide) (by decide) (by omega) (by omega)) ?_
  have hsz : Builtin.Range.rangeSize 0 n 1 = (n.toNat : Int) := by rw [rangeSize_one]; split <;> omega
  have kp : ∀ b o, s₁.heap.get? b = some o → ((s₁.heap.push { cls := .type "range", data := .fields #[.int 0 s₁.toks, .int n t, .int 1 (s₁.toks + 1)] }).push { cls := .type "range_iterator", data := .fields #[rawInt 0, rawInt (Builtin.Range.rangeSize 0 n 1), rawInt 1] }).get? b = some o :=
    fun b o e => Heap.get?_push_of_some _ (Heap.get?_push_of_some _ e)
  have hge : s₁.heap.objs.size ≤ (s₁.heap.push { cls := .type "range", data := .fields #[.int 0 s₁.toks, .int n t, .int 1 (s₁.toks + 1)] }).objs.size := by rw [Heap.size_push]; exact Nat.le_succ _
  refine ⟨_, .rng 0 n.toNat, H₁, rfl, ?_, ?_, K₁.trans (kp_of (s₁.toks + 1 + 1) kp), R₁.keep kp, G₁, Off.new R₁ hge, by show n.toNat ≤ _; omega, q⟩
  · cases e : s.heap.get? (s₁.heap.push { cls := .type "range", data := .fields #[.int 0 s₁.toks, .int n t, .int 1 (s₁.toks + 1)] }).objs.size with
    | none => rfl
    | some o => obtain ⟨o', e'⟩ := K₁.there _ o e; exact absurd (Heap.lt_size e') (Nat.not_lt.mpr hge)
  · show IsRangeIter _ _ _ _ _
    have e1 : (0 : Int) + ((0 : Nat) : Int) * 1 = 0 := by simp
    have e2 : ((n.toNat : Nat) : Int) - ((0 : Nat) : Int) = Builtin.Range.rangeSize 0 n 1 := by rw [hsz]; simp
    rw [e1, e2]
    exact Heap.get?_push_size _ rfl
theorem its_range2 {p pos : Pos} {e e' : Expr} {K : Src → HV → Prop} (g : GlobIs C "range" (.type "range")) (hk : C.nms.lookup ("range" : Str) = some .globalImplicit)
    (h : Ev C e ρ H fun v H₁ => Ev C e' ρ H₁ fun v' H₂ => ∃ m n : Int, v = .int m ∧ v' = .int n ∧ -1048576 ≤ m ∧ m ≤ 1048576 ∧ -1048576 ≤ n ∧ n ≤ m + 1048576 ∧ K (.rng m (n - m).toNat) H₂)
    (hs : ∀ env, backTo pos (starEach [e, e'] env) = [(false, eval e env), (false, eval e' env)] := by intro _; rfl) : Its C (.Call (.Name "range" p) [e, e'] [] pos) ρ H K := by
  intro A s hA R
  refine wpAny_Call_NameR (glob_load R g hk ?_ (by decide))
  rw [hs]
  refine PySem.callWith_type rfl (Calls.evalArgs_plain (Calls.spliced_cons (h.use hA R fun u v s₀ H₀ a₀ K₀ R₀ G₀ q => Calls.spliced_cons (q.use hA R₀ fun u' v' s₁ H₁ a₁ K₁' R₁ G₁' q => Calls.spliced_nil ?_))))
  obtain ⟨m, n, rfl, rfl, hm1, hm2, hlo, hhi, q⟩ := q
  obtain ⟨t, rfl⟩ := isV_int a₀
  obtain ⟨t', rfl⟩ := isV_int a₁
  have K₁ := K₀.trans K₁'
  have G₁ : Gr H H₁ s.heap := G₀.trans K₀.there G₁'
  refine call_range_2 ?_
  refine wpAny_pyIter_range (IsRange.new ..) (small_one (by omega) (by omega) (by omega) (by omega)) ?_
  have hsz : Builtin.Range.rangeSize m n 1 = ((n - m).toNat : Int) := by rw [rangeSize_one]; split <;> omega
  have kp : ∀ b o, s₁.heap.get? b = some o → ((s₁.heap.push { cls := .type "range", data := .fields #[.int m t, .int n t', .int 1 s₁.toks] }).push { cls := .type "range_iterator", data := .fields #[rawInt m, rawInt (Builtin.Range.rangeSize m n 1), rawInt 1] }).get? b = some o :=
    fun b o e => Heap.get?_push_of_some _ (Heap.get?_push_of_some _ e)
  have hge : s₁.heap.objs.size ≤ (s₁.heap.push { cls := .type "range", data := .fields #[.int m t, .int n t', .int 1 s₁.toks] }).objs.size := by rw [Heap.size_push]; exact Nat.le_succ _
  refine ⟨_, .rng m (n - m).toNat, H₁, rfl, ?_, ?_, K₁.trans (kp_of (s₁.toks + 1) kp), R₁.keep kp, G₁, Off.new R₁ hge, by show (n - m).toNat ≤ _; omega, q⟩
  · cases e : s.heap.get? (s₁.heap.push { cls := .type "range", data := .fields #[.int m t, .int n t', .int 1 s₁.toks] }).objs.size with
    | none => rfl
    | some o => obtain ⟨o', e'⟩ := K₁.there _ o e; exact absurd (Heap.lt_size e') (Nat.not_lt.mpr hge)
  · show IsRangeIter _ _ _ _ _
    have e1 : m + ((0 : Nat) : Int) * 1 = m := by simp
    have e2 : (((n - m).toNat : Nat) : Int) - ((0 : Nat) : Int) = Builtin.Range.rangeSize m n 1 := by rw [hsz]; simp
    rw [e1, e2]
    exact Heap.get?_push_size _ rfl
/-! calls of the text's own functions -/
/-- the function at fa: its parameters, its body, its names -/
structure Fn (C : Cx) (fa : Addr) (params : List Str) (body : List Stmt) (nms : List (Str × NameKind)) (fd : FuncData) : Prop where
  obj : ∃ o, C.B.get? fa = some o ∧ o.data = .func fd
  crec : ∃ c o vs t n, fd.code = .ref c ∧ C.B.get? c = some o ∧ o.cls = .type n ∧ o.data = .fields vs ∧ vs[1]? = some (.str fd.qualname t)
  body : fd.body = .stmts body
  names : fd.scope.names = nms
  clo : fd.closure = []
  kind : fd.scope.kind = .function
  co : fd.scope.isCoroutine = false
  gen : fd.scope.isGenerator = false
  glob : fd.globals = mainGlobals
  bui : fd.builtins = builtinsNs
  binds : ∀ vals : List Value, vals.length = params.length → bindArgs fd ⟨vals, []⟩ = pure (params.zip vals)
  pk : ∀ x ∈ params, nms.lookup x = some .local ∨ nms.lookup x = some .cell
  nofree : ∀ x, nms.lookup x ≠ some .free
  nd : ((cellsFrom 0 nms []).map (·.1)).Nodup
/-- the callee's place -/
abbrev Cx.into (C : Cx) (env : Env) (lo : Nat) (nms : List (Str × NameKind)) : Cx := { C with env := env, lo := lo, nms := nms, k := C.k - 1 }
/-- parameters bound one after the other -/
def bindV : List Str → List V → EV
  | x :: xs, v :: vs => put (bindV xs vs) x v
  | _, _ => fun _ => Option.none
theorem zip_vals : ∀ (params : List Str) (us : List Value) (vs : List V), ValsAre us vs → us.length = params.length → ∀ (kindOf : Str → Option NameKind) (m cm : Str → Option Value) (ρ₀ : EV),
    (∀ x ∈ params, kindOf x = some .local ∨ kindOf x = some .cell) →
    (∀ x v, kindOf x = some .local → ρ₀ x = some v → ∃ u, m x = some u ∧ absV u = some v) → (∀ x v, kindOf x = some .cell → ρ₀ x = some v → ∃ u, cm x = some u ∧ absV u = some v) →
    ∃ ρ : EV, (∀ x, ρ x = ((params.zip vs).reverse.lookup x).or (ρ₀ x)) ∧ (∀ x v, kindOf x = some .local → ρ x = some v → ∃ u, bindL kindOf (params.zip us) m x = some u ∧ absV u = some v) ∧ (∀ x v, kindOf x = some .cell → ρ x = some v → ∃ u, bindC kindOf (params.zip us) cm x = some u ∧ absV u = some v)
  | [], us, vs, hv, hl, kindOf, m, cm, ρ₀, hk, h1, h2 => by
    cases us with
    | cons _ _ => simp at hl
    | nil => cases hv; exact ⟨ρ₀, fun x => by simp, h1, h2⟩
  | p :: params, us, vs, hv, hl, kindOf, m, cm, ρ₀, hk, h1, h2 => by
    cases hv with
    | nil => simp at hl
    | @cons u v us vs a r =>
      have hl' : us.length = params.length := by simpa using hl
      have hk' : ∀ x ∈ params, kindOf x = some .local ∨ kindOf x = some .cell := fun x hx => hk x (List.mem_cons_of_mem _ hx)
      have key := zip_vals params us vs r hl' kindOf (if kindOf p = some .local then fun y => if y = p then some u else m y else m) (if kindOf p = some .local then cm else fun y => if y = p then some u else cm y) (put ρ₀ p v) hk' ?_ ?_
      · obtain ⟨ρ, e, g1, g2⟩ := key
        refine ⟨ρ, fun x => ?_, g1, g2⟩
        rw [e x]
        simp only [List.zip_cons_cons, List.reverse_cons, List.lookup_append, Option.or_assoc]
        congr 1
        unfold put
        by_cases hx : x = p
        · subst hx; simp
        · have : (x == p) = false := by simpa using hx
          simp [List.lookup, this, hx]
      · intro x v' hx e
        unfold put at e
        by_cases hxp : x = p
        · subst hxp
          rw [if_pos rfl] at e; cases e
          rw [if_pos hx]; exact ⟨u, by simp, a⟩
        · rw [if_neg hxp] at e
          obtain ⟨u', e1, e2⟩ := h1 x v' hx e
          refine ⟨u', ?_, e2⟩
          split
          · simp [hxp, e1]
          · exact e1
      · intro x v' hx e
        unfold put at e
        by_cases hxp : x = p
        · subst hxp
          rw [if_pos rfl] at e; cases e
          have : ¬ kindOf x = some .local := by rw [hx]; simp
          rw [if_neg this]; exact ⟨u, by simp, a⟩
        · rw [if_neg hxp] at e
          obtain ⟨u', e1, e2⟩ := h2 x v' hx e
          refine ⟨u', ?_, e2⟩
          split
          · exact e1
          · simp [hxp, e1]
theorem hasCell {x : Str} : ∀ (names : List (Str × NameKind)) (n : Nat) (acc : List (Str × Addr)), names.lookup x = some .cell ∨ (acc.lookup x).isSome = true → ((cellsFrom n names acc).lookup x).isSome = true
  | [], _, _, h => h.elim (fun e => by cases e) id
  | (y, k) :: r, n, acc, h => by
    unfold cellsFrom
    by_cases hk : (k == .cell) = true
    · rw [if_pos hk]
      refine hasCell r (n + 1) ((y, n) :: acc) ?_
      by_cases hy : (x == y) = true
      · exact .inr (by rw [List.lookup_cons, hy]; rfl)
      · refine h.imp (fun e => ?_) fun e => ?_
        · rw [List.lookup_cons] at e; simpa only [hy] using e
        · rw [List.lookup_cons]; simpa only [hy] using e
    · rw [if_neg hk]
      refine hasCell r n acc ?_
      by_cases hy : (x == y) = true
      · refine .inr (h.elim (fun e => ?_) id)
        rw [List.lookup_cons, hy] at e
        exact absurd (by rw [Option.some.inj e]; rfl) hk
      · refine h.imp (fun e => ?_) id
        rw [List.lookup_cons] at e; simpa only [hy] using e
/-- the names that a call finds bound -/
def argsV (params : List Str) (vs : List V) : EV := fun x => (params.zip vs).reverse.lookup x
def retOf : Fl → V
  | .ret v => v
  | _ => .none
/-- a call of the function with these values -/
def FCall (C : Cx) (params : List Str) (body : List Stmt) (nms : List (Str × NameKind)) (vs : List V) (H : HV) (Q : V → HV → Prop) : Prop :=
  0 < C.k ∧ vs.length = params.length ∧ ∀ env lo, C.lo ≤ lo → (∀ a, (H a).isSome = true → a < lo) → Exs (C.into env lo nms) body (argsV params vs) H fun fl _ H' => Q (retOf fl) H'
theorem Rm.deeper {k : Nat} (hA : Rm A k) (hk : 0 < k) (env : Env) : Rm (A.deeper env) (k - 1) :=
  ⟨hA.hd, by show A.depth + 1 + (k - 1) ≤ 900; have := hA.dp; omega, by show A.units + 3 + 8 * (k - 1) ≤ 9000; have := hA.un; omega⟩
theorem call_fn {fa : Addr} {params : List Str} {body : List Stmt} {nms : List (Str × NameKind)} {fd : FuncData} {vs : List V} {us : List Value} (F : Fn C fa params body nms fd) (lim : C.B.NoLimit) (hv : ValsAre us vs)
    (h : FCall C params body nms vs H Q) : TG C isV (call (.ref fa) us) ρ H Q := by
  intro A s hA R
  obtain ⟨hk, hlen, h⟩ := h
  obtain ⟨o, ho, hdat⟩ := F.obj
  have hul : us.length = params.length := hv.length.trans hlen
  have hrec : s.heap.CodeRec fd.code fd.qualname := by
    obtain ⟨c, oc, vs', t, n, e1, e2, e3, e4, e5⟩ := F.crec
    exact ⟨c, oc, vs', t, e1, R.base _ _ e2 (tabl_type e3), e4, e5⟩
  have hlim : s.heap.NoLimit := by
    obtain ⟨mc, hn, e⟩ := lim
    exact ⟨mc, ns_at hn (R.base _), e⟩
  have hkinds : ∀ x ∈ params.zip us, fd.scope.names.lookup x.1 = some .local ∨ (fd.scope.names.lookup x.1 = some .cell ∧ ((cellsFrom (s.heap.objs.size + 1) fd.scope.names []).lookup x.1).isSome = true) := by
    intro x hx
    have hm := F.pk x.1 (List.of_mem_zip hx).1
    rw [F.names]
    rcases hm with q | q
    · exact .inl q
    · exact .inr ⟨q, hasCell _ _ _ (.inl q)⟩
  refine wpAny_call (codeAny_call_cells (by have := hA.dp; show A.depth < 1000; omega) (R.base _ _ ho (tabl_func hdat)) hdat hlim hrec F.body (F.binds us hul) F.clo hkinds (fun s₁ X => ?_) F.co F.gen F.kind)
  have hlo : C.lo ≤ s.heap.objs.size := R.lo_size
  have hdom : ∀ a, (H a).isSome = true → a < s.heap.objs.size := fun a e => by
    obtain ⟨o, eo⟩ := Option.isSome_iff_exists.mp e
    obtain ⟨ob, e'⟩ := (R.view a o eo).there
    exact Heap.lt_size e'
  have hko : ∀ x, (callEnvC fd s.heap.objs.size fa).kindOf x = nms.lookup x := fun x => by show fd.scope.names.lookup x = _; rw [F.names]
  obtain ⟨ρ₁, e₁, g1, g2⟩ := zip_vals params us vs hv hul (callEnvC fd s.heap.objs.size fa).kindOf (fun _ => Option.none) (fun _ => Option.none) (fun _ => Option.none) (fun x hx => by rw [hko]; exact F.pk x hx) (fun _ _ _ e => by cases e) (fun _ _ _ e => by cases e)
  have eρ : argsV params vs = ρ₁ := funext fun x => by rw [e₁ x]; simp [argsV]
  have keep := X.toInCall.keep
  have dom₁ : ∀ x v, ρ₁ x = some v → nms.lookup x = some .local ∨ nms.lookup x = some .cell ∨ nms.lookup x = some .free := fun x v e => by
    rw [e₁ x] at e
    simp only [Option.or_none] at e
    have hm : (x, v) ∈ params.zip vs := by
      have := mem_of_lookup e
      exact List.mem_reverse.mp this
    rcases F.pk x (List.of_mem_zip hm).1 with q | q
    · exact .inl q
    · exact .inr (.inl q)
  have R₁ : Rel (C.into (callEnvC fd s.heap.objs.size fa) s.heap.objs.size nms) (argsV params vs) H s₁.heap := by
    rw [eρ]
    refine ⟨⟨F.kind, F.glob, F.bui, F.names⟩, fun b o e t => keep _ _ (R.base b o e t), R.old.step_keeps keep, Nat.le_trans R.blo hlo, fun a o e => (R.view a o e).at fun _ e' _ => keep _ _ e', dom₁, ⟨_, X.toInCall.ns, fun x v hx e => g1 x v (by rw [hko]; exact hx) e⟩, fun x hx => ?_, fun x y c h h' => name_of_addr X.apart h h', fun x c hm => ?_, ?_, Nat.le_refl _, R.sysm.1, ?_⟩
    · have hx' : nms.lookup x = some .cell ∨ nms.lookup x = some .free := hx
      rcases hx' with hx' | hx'
      · have hsome : ((cellsFrom (s.heap.objs.size + 1) fd.scope.names []).lookup x).isSome = true := hasCell _ _ _ (.inl (by rw [F.names]; exact hx'))
        obtain ⟨c, hc⟩ := Option.isSome_iff_exists.mp hsome
        refine ⟨c, _, hc, X.cell x c hc, fun v e => ?_⟩
        exact g2 x v (by rw [hko]; exact hx') e
      · exact absurd hx' (F.nofree x)
    · have hgt := X.above x c hm
      have hgt' : s.heap.objs.size < c := hgt
      refine ⟨Nat.ne_of_gt hgt, Nat.le_of_lt hgt', ?_, ?_⟩
      · cases e : H c with
        | none => rfl
        | some o => exact absurd (hdom c (by rw [e]; rfl)) (Nat.not_lt.mpr (Nat.le_of_lt hgt'))
      · have hnd : ((cellsFrom (s.heap.objs.size + 1) fd.scope.names []).map (·.1)).Nodup := by
          rw [F.names, cellsFrom_names nms (s.heap.objs.size + 1) 0 [] [] rfl]; exact F.nd
        obtain ⟨o, e, _⟩ := X.cell x c (lookup_of_mem_nodup hnd hm)
        exact ⟨o, e⟩
    · exact R.new
    · obtain ⟨_, o, e⟩ := R.sysm
      exact ⟨o, keep _ _ e⟩
  refine (h _ _ hlo hdom).use (hA.deeper hk _) R₁ fun f fl ρ' H' s' a K R' q => ?_
  obtain ⟨h₁, t₁, e₁, _⟩ := X.toInCall.done
  have kp : Kp s s' := by
    refine ⟨fun b o e t => K.get b o (keep _ _ e) t (.inl (Heap.lt_size e)), fun b o e => K.there b o (keep _ _ e), K.os.trans (by rw [e₁]), fun x => K.gens (by rw [e₁]; exact x)⟩
  have gr : Gr H H' s.heap := fun b o e n => K.gr b o (keep _ _ e) n
  have fin : ∀ u, absV u = some (retOf fl) → Done C isV ρ H s Q u s' := fun u e => ⟨retOf fl, H', e, kp, R.stepT kp.get kp.there R'.old R'.view gr, gr, q⟩
  cases f <;> cases fl <;> first | exact absurd a (fun x => x) | exact fin _ a | exact fin _ rfl
theorem ev_CallF {f : Str} {p pos : Pos} {e : Expr} {es : List Expr} {fa : Addr} {params : List Str} {body : List Stmt} {nms : List (Str × NameKind)} {fd : FuncData} (F : Fn C fa params body nms fd) (lim : C.B.NoLimit) (g : GlobIs C f (.ref fa)) (hk : C.nms.lookup f = some .globalImplicit)
    (h : Args C pos (e :: es) ρ H fun vs H₁ => FCall C params body nms vs H₁ Q)
    (hs : ∀ env, starEach (e :: es) env = (false, eval e env) :: starEach es env := by intro _; rfl) (hp : ∀ env, (backTo pos (starEach (e :: es) env)).any (·.1) = false := by intro _; rfl)
    (hd : (f == ("__debug__" : Str)) = false := by decide) : Ev C (.Call (.Name f p) (e :: es) [] pos) ρ H Q := by
  intro A s hA R
  refine wpAny_Call_NameR (glob_load R g hk ?_ hd)
  have h' : TG C ValsAre (spliced (backTo pos (starEach (e :: es) C.env))) ρ H _ := h
  rw [hs] at h' ⊢
  obtain ⟨o, ho, hdat⟩ := F.obj
  exact Calls.callWith_function (o := o) (fd := fd) (Calls.evalArgs_plain (h'.use hA R fun us vs s₁ H₁ a K R₁ G q =>
    ⟨⟨R₁.base _ _ ho (tabl_func hdat), hdat⟩, wpAny_mono (call_fn F lim a q A s₁ hA R₁) (fun _ _ d => d.trans K G) fun _ _ e => e⟩))
theorem ev_CallF0 {f : Str} {p pos : Pos} {fa : Addr} {body : List Stmt} {nms : List (Str × NameKind)} {fd : FuncData} (F : Fn C fa [] body nms fd) (lim : C.B.NoLimit) (g : GlobIs C f (.ref fa)) (hk : C.nms.lookup f = some .globalImplicit)
    (h : FCall C [] body nms [] H Q) (hd : (f == ("__debug__" : Str)) = false := by decide) : Ev C (.Call (.Name f p) [] [] pos) ρ H Q := by
  intro A s hA R
  refine wpAny_Call_NameR (glob_load R g hk ?_ hd)
  obtain ⟨o, ho, hdat⟩ := F.obj
  exact Calls.callWith_function (o := o) (fd := fd) (PySem.evalArgs_none ⟨⟨R.base _ _ ho (tabl_func hdat), hdat⟩, call_fn F lim .nil h A s hA R⟩)
end
end Mine
end
section
set_option maxRecDepth 100000
set_option Elab.async false
set_option linter.unusedVariables false
namespace Mine
open PySem PySem.Spec PyProof.Rows
/-- the names within a comprehension -/
def relab (outer names : List (Str × NameKind)) : List (Str × NameKind) :=
  names.map fun p => if p.2 == .free && outer.lookup p.1 == some .cell then (p.1, .cell) else p
/-- what a comprehension sees of the names around -/
def inner (ρ : EV) (nms : List (Str × NameKind)) : EV := fun y => match nms.lookup y with
  | some .cell => ρ y
  | some .free => ρ y
  | _ => Option.none
theorem lookup_relab_local (outer : List (Str × NameKind)) : ∀ {names : List (Str × NameKind)} {x : Str}, names.lookup x = some .local → (relab outer names).lookup x = some .local
  | [], _, h => by simp at h
  | (n, k) :: r, x, h => by
    unfold relab
    rw [List.map_cons]
    cases hx : x == n with
    | true =>
      simp only [List.lookup_cons, hx] at h
      cases h
      simp [List.lookup_cons, hx]
    | false =>
      simp only [List.lookup_cons, hx] at h
      have ih := lookup_relab_local outer h
      split
      · simp only [List.lookup_cons, hx]; exact ih
      · simp only [List.lookup_cons, hx]; exact ih
/-- a name that is a cell or free within is free in the comprehension's own table -/
theorem lookup_relab_free {outer : List (Str × NameKind)} : ∀ {names : List (Str × NameKind)} {x : Str}, (∀ p ∈ names, p.2 ≠ .cell) → (relab outer names).lookup x = some .cell ∨ (relab outer names).lookup x = some .free → (x, .free) ∈ names
  | [], _, _, h => by simp [relab] at h
  | (n, k) :: r, x, hc, h => by
    unfold relab at h
    rw [List.map_cons] at h
    have ih := @lookup_relab_free outer r x (fun p hp => hc p (List.mem_cons_of_mem _ hp))
    cases hx : x == n with
    | true =>
      have e := eq_of_beq hx; subst e
      by_cases hk : (k == NameKind.free && outer.lookup x == some NameKind.cell) = true
      · have : k = .free := by
          have := (Bool.and_eq_true_iff.mp hk).1; exact eq_of_beq this
        subst this; exact .head _
      · simp only [if_neg hk, List.lookup_cons, hx] at h
        rcases h with h | h
        · exact absurd (Option.some.inj h) (hc (x, k) (.head _))
        · have := Option.some.inj h; subst this; exact .head _
    | false =>
      refine .tail _ (ih ?_)
      by_cases hk : (k == NameKind.free && outer.lookup n == some NameKind.cell) = true
      · simp only [hk, if_true, List.lookup_cons, hx] at h; exact h
      · simp only [if_neg hk, List.lookup_cons, hx] at h; exact h
theorem closure_go (env : Env) (f : Str × NameKind → List (Str × Addr) → Sem (ForInStep (List (Str × Addr))))
    (hf : ∀ name kind cs, f (name, kind) cs = if kind == .free then (do let a ← cellOf env name; pure (.yield ((name, a) :: cs))) else pure (.yield cs)) :
    ∀ (names : List (Str × NameKind)) (acc : List (Str × Addr)), (∀ n, (n, NameKind.free) ∈ names → ∃ c, env.cells.lookup n = some c) → (∀ p ∈ acc, env.cells.lookup p.1 = some p.2) →
      ∃ cl, forIn names acc f = pure cl ∧ (∀ p ∈ cl, env.cells.lookup p.1 = some p.2) ∧ (∀ n, (n, NameKind.free) ∈ names → (cl.lookup n).isSome = true) ∧ (∀ n, (acc.lookup n).isSome = true → (cl.lookup n).isSome = true)
  | [], acc, _, ha => ⟨acc, by rw [List.forIn_nil], ha, fun _ h => (nomatch h), fun _ h => h⟩
  | (name, kind) :: r, acc, hc, ha => by
    rw [List.forIn_cons, hf]
    by_cases hk : (kind == NameKind.free) = true
    · have e := eq_of_beq hk; subst e
      obtain ⟨c, hcc⟩ := hc name (.head _)
      have hcell : cellOf env name = pure c := by unfold cellOf; rw [hcc]
      obtain ⟨cl, e, h1, h2, h3⟩ := closure_go env f hf r ((name, c) :: acc) (fun n hn => hc n (.tail _ hn)) (fun p hp => by
        rcases List.mem_cons.mp hp with rfl | hp
        · exact hcc
        · exact ha p hp)
      refine ⟨cl, ?_, h1, fun n hn => ?_, fun n hn => h3 n ?_⟩
      · rw [if_pos hk, hcell]; simpa using e
      · rcases List.mem_cons.mp hn with q | q
        · cases q; exact h3 name (by simp)
        · exact h2 n q
      · rw [List.lookup_cons]; split
        · rfl
        · exact hn
    · obtain ⟨cl, e, h1, h2, h3⟩ := closure_go env f hf r acc (fun n hn => hc n (.tail _ hn)) ha
      refine ⟨cl, ?_, h1, fun n hn => ?_, h3⟩
      · rw [if_neg hk]; simpa using e
      · rcases List.mem_cons.mp hn with q | q
        · cases q; exact absurd rfl hk
        · exact h2 n q
theorem closure_ok {env : Env} {scope : Scope} (h : ∀ n, (n, NameKind.free) ∈ scope.names → ∃ c, env.cells.lookup n = some c) :
    ∃ cl, closureFor scope env = pure cl ∧ (∀ p ∈ cl, env.cells.lookup p.1 = some p.2) ∧ ∀ n, (n, NameKind.free) ∈ scope.names → (cl.lookup n).isSome = true := by
  obtain ⟨cl, e, h1, h2, _⟩ := closure_go env (fun x cs => match x with | (name, kind) => if (kind == NameKind.free) = true then do let a ← cellOf env name; pure (.yield ((name, a) :: cs)) else pure (.yield cs)) (fun _ _ _ => rfl) scope.names [] h (fun _ hp => (nomatch hp))
  refine ⟨cl, ?_, h1, h2⟩
  show (forIn scope.names [] (fun x cs => match x with | (name, kind) => if (kind == NameKind.free) = true then do let a ← cellOf env name; pure (ForInStep.yield ((name, a) :: cs)) else pure (ForInStep.yield cs)) >>= fun cs => pure cs) = pure cl
  rw [e]; rfl
/-- the test clauses of a comprehension -/
def ifsTree (ifs : List Expr) (env : Env) : Sem Bool := forIn ifs true fun c r => if r = true then do let ok ← isTrue c env (eval c env); pure (ForInStep.yield ok) else pure (ForInStep.yield r)
abbrev Ifs (C : Cx) (ifs : List Expr) (ρ : EV) (H : HV) (Q : Bool → HV → Prop) : Prop := TG C (fun a b => a = b) (ifsTree ifs C.env) ρ H Q
section
variable {C : Cx} {ρ : EV} {H H' : HV} {A : Around} {s : Shared}
theorem ifs_nil {Q : Bool → HV → Prop} (q : Q true H) : Ifs C [] ρ H Q := fun A s hA R => by
  show wpAny _ _ (ifsTree [] C.env) _ _ _
  unfold ifsTree
  rw [List.forIn_nil]; exact wpAny_pure (Done.b R q)
theorem ifs_one {c : Expr} {Q : Bool → HV → Prop} (q : Tst C c ρ H Q) : Ifs C [c] ρ H Q := fun A s hA R => by
  show wpAny _ _ (ifsTree [c] C.env) _ _ _
  unfold ifsTree
  rw [List.forIn_cons]
  simp only [if_true]
  refine wpAny_bind (wpAny_bind (q.use hA R fun u v s₁ H₁ a K R₁ G q => wpAny_pure ?_))
  show wpAny _ _ (forIn [] u _) _ _ _
  rw [List.forIn_nil]
  exact wpAny_pure ⟨v, H₁, a, K, R₁, G, q⟩
/-- a comprehension by what holds behind i items -/
def CompOK (C : Cx) (elt : Expr) (x : Str) (ifs : List Expr) (names : List (Str × NameKind)) (src : Src) (ρ : EV) (H : HV) (Inv : Nat → List V → HV → Prop) : Prop :=
  Inv 0 [] H ∧ ∀ i v ys H', src.vals[i]? = some v → Inv i ys H' → src.Ok H' → ∀ env,
    Ifs { C with env := env, nms := relab C.nms names } ifs (put (inner ρ (relab C.nms names)) x v) H' fun ok H₂ =>
      if ok = true then Ev { C with env := env, nms := relab C.nms names } elt (put (inner ρ (relab C.nms names)) x v) H₂ fun y H₃ => Inv (i + 1) (ys ++ [y]) H₃ ∧ src.Ok H₃ else Inv (i + 1) ys H₂ ∧ src.Ok H₂
/-- a foreign object comes into sight -/
theorem Rel.see {D : Addr} {o : AO} {h : Heap} (R : Rel C ρ H h) (off : Off C H D) (x : ObjIs C.prog C.w h D o) : Rel C ρ (upd H D o) h := by
  refine ⟨R.eok, R.base, R.old, R.blo, fun b ob e => ?_, R.dom, R.loc, R.cel, R.apart, fun y c hm => ?_, ?_, R.lloc, ?_, R.sysm.2⟩
  · unfold upd at e; split at e
    · rename_i h; cases e; subst h; exact x
    · exact R.view b ob e
  · obtain ⟨h1, h2, h3, h4⟩ := R.cloc y c hm
    refine ⟨h1, h2, ?_, h4⟩
    unfold upd; rw [if_neg]; exact h3
    rintro rfl; exact off.cel y hm
  · unfold upd; rw [if_neg (Ne.symm off.loc)]; exact R.hloc
  · unfold upd; rw [if_neg (Ne.symm off.sys)]; exact R.sysm.1
theorem valsOk {src : Src} {h : Heap} (R : Rel C ρ H h) (ok : src.Ok H) : src.vals.length ≤ 1048576 := by
  cases src with
  | list a vs => obtain ⟨_, _, _, z⟩ := R.view a _ ok; exact z
  | tup a vs => obtain ⟨_, _, _, z⟩ := R.view a _ ok; exact z
  | rng a n => have : n ≤ 1048576 := ok; simpa [Src.vals] using this
/-- the comprehension's run, whatever becomes of its list -/
theorem comp_core {elt iter : Expr} {x : Str} {px pos pos' : Pos} {ifs : List Expr} {scope : Scope} {use : Option (Value → Sem Unit)} {P : Value → Shared → Prop}
    (hx : scope.names.lookup x = some .local) (hkind : scope.kind = .function) (hnc : ∀ p ∈ scope.names, p.2 ≠ .cell) (hnames : ∀ p ∈ scope.names, p.2 = .local → scope.names.lookup p.1 = some .local)
    (hfree : ∀ n, (n, NameKind.free) ∈ scope.names → C.nms.lookup n = some .cell ∨ C.nms.lookup n = some .free)
    (hA : Rm A C.k) (R : Rel C ρ H s.heap) (hs : ∀ env v, foldedSetIterable iter env v = pure v)
    (h : Its C iter ρ H fun src H₁ => ∃ Inv, CompOK C elt x ifs scope.names src ρ H₁ Inv ∧
      ∀ ys H', Inv src.vals.length ys H' → ∀ (s' : Shared) (D L : Addr) (us : List Value), Kp s s' → Rel C ρ H' s'.heap → Gr H H' s.heap → s.heap.get? D = Option.none → s.heap.get? L = Option.none → D ≠ L → Off C H' D → Off C H' L →
        s'.heap.PlainList D us.toArray → ValsAre us ys → ys.length ≤ 1048576 → (∃ m, s'.heap.Ns L m) → compPost (model C.prog C.w) A nay use P (.ref D) L (.ok .next) s') :
    wpAny (model C.prog C.w) A (comprehension (.ListComp elt [⟨.Name x px, iter, ifs, 0⟩] scope pos) scope C.env pos' (newList []) false (eval iter C.env) use) P nay s := by
  obtain ⟨cl, ecl, hcl1, hcl2⟩ := closure_ok (env := C.env) (scope := scope) fun n hn => by
    obtain ⟨c, u, e, _⟩ := R.cel n (hfree n hn)
    exact ⟨c, e⟩
  refine wpAny_comprehension_free rfl (hs _) ecl hkind hnames (wpAny_mono (h A s hA R) (fun u s₁ h₁ => wpAny_mono h₁ (fun it s₂ h₂ => ?_) fun _ _ e => e) fun _ _ e => e)
  obtain ⟨I, src, H₁, rfl, hnew, hit, K, R₁, G, off, ok, Inv, ⟨inv0, turn⟩, fin⟩ := h₂
  refine wpAny_newObj_type (wpAny_newFunctionEnv hnc (by intro y hy; simp at hy) (fun h₄ hns₄ hsb₄ => ?_) hkind)
  dsimp only at hns₄ hsb₄ ⊢
  generalize hH2 : s₂.heap.push { cls := .type "list", dict := Option.none, data := .seq ([] : List Value).toArray } = H2 at hns₄ hsb₄ ⊢
  have hL : H2.objs.size = s₂.heap.objs.size + 1 := by rw [← hH2, Heap.size_push]
  have hDL : s₂.heap.objs.size ≠ H2.objs.size := by omega
  have old : ∀ b o, s₂.heap.get? b = some o → h₄.get? b = some o := fun b o e => by
    have hb : b ≠ H2.objs.size := Nat.ne_of_lt (by rw [hL]; exact Nat.lt_succ_of_lt (Heap.lt_size e))
    exact hsb₄.extBut b o hb (Heap.get?_push_of_some _ (hH2 ▸ Heap.get?_push_of_some _ e))
  have R₄ : Rel C ρ H₁ h₄ := R₁.keep old
  have offD : Off C H₁ s₂.heap.objs.size := Off.new R₁ (Nat.le_refl _)
  have offL : Off C H₁ H2.objs.size := Off.new R₁ (by omega)
  have hI : I < s₂.heap.objs.size := by obtain ⟨o, e, _⟩ := hit.there; exact Heap.lt_size e
  have hPD : h₄.PlainList s₂.heap.objs.size #[] := ⟨_, hsb₄.extBut _ _ hDL (Heap.get?_push_of_some _ (by rw [← hH2]; exact Heap.get?_push_size _ rfl))⟩
  have sD : s.heap.get? s₂.heap.objs.size = Option.none := by
    cases e : s.heap.get? s₂.heap.objs.size with
    | none => rfl
    | some o => obtain ⟨o', e'⟩ := K.there _ o e; exact absurd (Heap.lt_size e') (Nat.lt_irrefl _)
  have sL : s.heap.get? H2.objs.size = Option.none := by
    cases e : s.heap.get? H2.objs.size with
    | none => rfl
    | some o => obtain ⟨o', e'⟩ := K.there _ o e; exact absurd (Heap.lt_size e') (by rw [hL]; exact Nat.not_lt.mpr (Nat.le_succ _))
  have eok : EnvOk (compEnvC scope cl H2.objs.size C.env) (relab C.nms scope.names) := by
    refine ⟨hkind, R.eok.glob, R.eok.bui, ?_⟩
    show (scope.names.map fun (n, k) => if (k == NameKind.free && C.env.scope.kind == ScopeKind.function && C.env.kindOf n == some NameKind.cell) then (n, NameKind.cell) else (n, k)) = _
    unfold relab
    refine List.map_congr_left fun p _ => ?_
    obtain ⟨n, k⟩ := p
    simp only [R.eok.kind, R.kindOf n, beq_self_eq_true, Bool.and_true]
  -- what holds between the turns
  have main : ∀ s₅ : Shared, s₅ = { s₂ with heap := h₄, toks := s₂.toks + ([] : List (Str × Value)).length } →
      codeAny (model C.prog C.w) A (.compLoop (.ListComp elt [⟨.Name x px, iter, ifs, 0⟩] scope pos) 0 (.ref I) (.ref s₂.heap.objs.size) (compEnvC scope cl H2.objs.size C.env))
        (compPost (model C.prog C.w) A nay use P (.ref s₂.heap.objs.size) H2.objs.size) s₅ := by
    rintro s₅ rfl
    refine codeAny_mono (R := fun r s' => match r with | .ok _ => compPost (model C.prog C.w) A nay use P (.ref s₂.heap.objs.size) H2.objs.size (.ok .next) s' | .error _ => False) ?_ ?_
    · refine codeAny_compLoop_tests (fun n s' => ∃ i ys us H' m, i ≤ src.vals.length ∧ n = src.vals.length - i ∧ Inv i ys H' ∧ src.Ok H' ∧ ItIs s'.heap I i src ∧ ys.length ≤ i ∧ ValsAre us ys ∧ s'.heap.PlainList s₂.heap.objs.size us.toArray ∧
        s'.heap.Ns H2.objs.size m ∧ Kp s s' ∧ Rel C ρ H' s'.heap ∧ Gr H H' s.heap ∧ Off C H' I ∧ Off C H' s₂.heap.objs.size ∧ Off C H' H2.objs.size) ?_ (src.vals.length - 0)
        ⟨0, [], [], H₁, _, Nat.zero_le _, rfl, inv0, ok, hit.at fun o e _ => old _ _ e, Nat.zero_le _, .nil, hPD, hns₄, K.trans (kp_of _ old), R₄, G, off, offD, offL⟩
      rintro n s₆ ⟨i, ys, us, H', m, hi, rfl, inv, ok', hit', hlen, hus, hP', hns', K', R', G', offI', offD', offL'⟩
      by_cases hlt : i < src.vals.length
      · refine next_item R' ok' hit' (v := src.vals[i]) (by simp [hlt]) fun u h₇ t ha hit₇ hx₇ => ?_
        have hIL : H2.objs.size ≠ I := Nat.ne_of_gt (by rw [hL]; exact Nat.lt_succ_of_lt hI)
        have hns₇ : h₇.Ns H2.objs.size m := hns'.at' fun o e => hx₇ _ _ hIL e
        refine wpAny_assign_Name (wpAny_storeName_local (env := compEnvC scope cl H2.objs.size C.env) (by show (relabel scope C.env).names.lookup x = _; exact lookup_relabel_local hx) hns₇ (fun h₈ hns₈ hs₈ => ?_) (by show (scope.kind == _ || (scope.kind == _ && _)) = false; rw [hkind]; rfl))
        -- the state at the element's evaluation
        have hx₈ : ∀ b o, b ≠ H2.objs.size → h₇.get? b = some o → h₈.get? b = some o := fun b o hb e => (hs₈.2 b hb).trans e
        have R₈ : Rel C ρ H' h₈ := (R'.other offI' hx₇).other offL' hx₈
        have K₈ : Kp s { s₆ with heap := h₈, toks := t + 1 } := by
          have ne : ∀ b o, s.heap.get? b = some o → b ≠ I ∧ b ≠ H2.objs.size := fun b o e => ⟨(fun q => by rw [q, hnew] at e; cases e), (fun q => by rw [q, sL] at e; cases e)⟩
          exact ⟨fun b o e tb => hx₈ _ _ (ne b o e).2 (hx₇ _ _ (ne b o e).1 (K'.get b o e tb)), fun b o e => let ⟨o', e'⟩ := K'.there b o e; ⟨o', hx₈ _ _ (ne b o e).2 (hx₇ _ _ (ne b o e).1 e')⟩, K'.os, K'.gens⟩
        have hit₈ : ItIs h₈ I (i + 1) src := hit₇.at fun o e _ => hx₈ _ _ (Ne.symm hIL) e
        have hDI : s₂.heap.objs.size ≠ I := Nat.ne_of_gt hI
        have hP₈ : h₈.PlainList s₂.heap.objs.size us.toArray := hP'.at fun o e => hx₈ _ _ hDL (hx₇ _ _ hDI e)
        have Rc : Rel { C with env := compEnvC scope cl H2.objs.size C.env, nms := relab C.nms scope.names } (put (inner ρ (relab C.nms scope.names)) x src.vals[i]) H' h₈ := by
          have free_of : ∀ y, (relab C.nms scope.names).lookup y = some .cell ∨ (relab C.nms scope.names).lookup y = some .free → C.nms.lookup y = some .cell ∨ C.nms.lookup y = some .free := fun y hy => hfree y (lookup_relab_free hnc hy)
          have in_put : ∀ y v', (put (inner ρ (relab C.nms scope.names)) x src.vals[i]) y = some v' → y ≠ x → ((relab C.nms scope.names).lookup y = some .cell ∨ (relab C.nms scope.names).lookup y = some .free) ∧ ρ y = some v' := fun y v' e hy => by
            unfold put at e; rw [if_neg hy] at e; unfold inner at e
            split at e
            · rename_i q; exact ⟨.inl q, e⟩
            · rename_i q; exact ⟨.inr q, e⟩
            · cases e
          refine ⟨eok, R₈.base, R₈.old, R₈.blo, R₈.view, fun y v' e => ?_, ⟨_, hns₈, fun y v' hy e => ?_⟩, fun y hy => ?_, (fun y z c h1 h2 => R₈.apart y z c (mem_of_lookup (hcl1 (y, c) h1)) (mem_of_lookup (hcl1 (z, c) h2))), fun y c hm => ?_, offL'.hi, offL'.lo, R₈.sysm⟩
          · by_cases hy : y = x
            · subst hy; exact .inl (lookup_relab_local _ hx)
            · exact .inr (in_put y v' e hy).1
          · by_cases hyx : y = x
            · subst hyx; unfold put at e; rw [if_pos rfl] at e; cases e; exact ⟨u, by simp, ha⟩
            · have hy' : (relab C.nms scope.names).lookup y = some .local := hy
              rcases (in_put y v' e hyx).1 with q | q <;> rw [q] at hy' <;> cases hy'
          · have hf := lookup_relab_free hnc hy
            obtain ⟨c, hc⟩ := Option.isSome_iff_exists.mp (hcl2 y hf)
            obtain ⟨c', u', a1, a2, a3⟩ := R₈.cel y (hfree y hf)
            have hcc : C.env.cells.lookup y = some c := hcl1 (y, c) (mem_of_lookup hc)
            rw [hcc] at a1; cases a1
            refine ⟨c, u', hc, a2, fun v' e => ?_⟩
            have hyx : y ≠ x := by
              rintro rfl
              have hy' : (relab C.nms scope.names).lookup y = some .cell ∨ (relab C.nms scope.names).lookup y = some .free := hy
              rw [lookup_relab_local _ hx] at hy'; rcases hy' with q | q <;> cases q
            exact a3 v' (in_put y v' e hyx).2
          · have hcc : C.env.cells.lookup y = some c := hcl1 (y, c) hm
            obtain ⟨h1, h2, h3, h4⟩ := R₈.cloc y c (mem_of_lookup hcc)
            refine ⟨?_, h2, h3, h4⟩
            rintro rfl
            exact offL'.cel y (mem_of_lookup hcc)
        have fi := turn i src.vals[i] ys H' (by simp [hlt]) inv ok' (compEnvC scope cl H2.objs.size C.env)
        have back : ∀ {H₉ : HV} {s₉ : Shared}, Kp { s₆ with heap := h₈, toks := t + 1 } s₉ → Gr H' H₉ h₈ → Rel { C with env := compEnvC scope cl H2.objs.size C.env, nms := relab C.nms scope.names } (put (inner ρ (relab C.nms scope.names)) x src.vals[i]) H₉ s₉.heap →
            Rel C ρ H₉ s₉.heap ∧ Kp s s₉ ∧ Gr H H₉ s.heap ∧ ItIs s₉.heap I (i + 1) src ∧ s₉.heap.PlainList s₂.heap.objs.size us.toArray ∧ (∃ m, s₉.heap.Ns H2.objs.size m) ∧ Off C H₉ I ∧ Off C H₉ s₂.heap.objs.size ∧ Off C H₉ H2.objs.size := by
          intro H₉ s₉ K₉ G₉ R₉
          refine ⟨R₈.stepT K₉.get K₉.there R₉.old R₉.view G₉, K₈.trans K₉, G'.trans K₈.there G₉, hit₈.at fun o e tb => K₉.get _ _ e tb, hP₈.at fun o e => ?_, ⟨_, ns_at hns₈ fun o e tb => K₉.get _ _ e tb⟩, ?_, ?_, ?_⟩
          · obtain ⟨n, e'⟩ := hP₈
            have : o = _ := Option.some.inj (e.symm.trans e')
            subst this; exact K₉.get _ _ e rfl
          · obtain ⟨o, e, _⟩ := hit₈.there; exact offI'.gr e G₉
          · obtain ⟨n, e'⟩ := hP₈; exact offD'.gr e' G₉
          · obtain ⟨o, _, _, e, _⟩ := hns₈; exact offL'.gr e G₉
        refine (show Ifs _ _ _ _ _ from fi).use (s := { s₆ with heap := h₈, toks := t + 1 }) hA Rc fun u₁ v₁ s₉ H₉ a₉ K₉ R₉ G₉ q => ?_
        cases (show u₁ = v₁ from a₉)
        obtain ⟨B1, B2, B3, B4, B5, ⟨m₅, B6⟩, B7, B8, B9⟩ := back K₉ G₉ R₉
        cases u₁ with
        | false =>
          obtain ⟨q1, q2⟩ := (show Inv (i + 1) ys H₉ ∧ src.Ok H₉ from q)
          exact ⟨_, by omega, i + 1, ys, us, H₉, m₅, hlt, rfl, q1, q2, B4, Nat.le_succ_of_le hlen, hus, B5, B6, B2, B1, B3, B7, B8, B9⟩
        | true =>
          refine (show Ev _ _ _ _ _ from q).use hA R₉ fun y v₂ s₁₀ H₁₀ a₁₀ K₁₀ R₁₀ G₁₀ q => ?_
          obtain ⟨D1, D2, D3, D4, D5, ⟨m₆, D6⟩, D7, D8, D9⟩ := back (K₉.trans K₁₀) (G₉.trans K₉.there G₁₀) R₁₀
          have hz := valsOk D1 q.2
          refine wpAny_list_append_plain D5 (fun h₁₁ hP₁₁ hs₁₁ => ?_) (by rw [List.size_toArray, hus.length]; exact Nat.le_trans (by omega : ys.length ≤ 1048576) (by decide))
          have hx₁₁ : ∀ b o, b ≠ s₂.heap.objs.size → s₁₀.heap.get? b = some o → h₁₁.get? b = some o := fun b o hb e => (hs₁₁.2 b hb).trans e
          have ne : ∀ b o, s.heap.get? b = some o → b ≠ s₂.heap.objs.size := fun b o e q => by rw [q, sD] at e; cases e
          refine ⟨_, by omega, i + 1, ys ++ [v₂], us ++ [y], H₁₀, m₆, hlt, rfl, q.1, q.2, D4.at fun o e _ => hx₁₁ _ _ (Ne.symm hDI) e, by simp; omega, hus.append (.one a₁₀), by simpa using hP₁₁, D6.at' fun o e => hx₁₁ _ _ (Ne.symm hDL) e,
            ⟨fun b o e tb => hx₁₁ _ _ (ne b o e) (D2.get b o e tb), fun b o e => let ⟨o', e'⟩ := D2.there b o e; ⟨o', hx₁₁ _ _ (ne b o e) e'⟩, D2.os, D2.gens⟩, D1.other D8 hx₁₁, D3, D7, D8, D9⟩
      · have e : i = src.vals.length := by omega
        subst e
        refine next_end hA.hd R' ok' hit' fun h₇ hx₇ => ?_
        have hDI : s₂.heap.objs.size ≠ I := Nat.ne_of_gt hI
        have hIL : H2.objs.size ≠ I := Nat.ne_of_gt (by rw [hL]; exact Nat.lt_succ_of_lt hI)
        have ne : ∀ b o, s.heap.get? b = some o → b ≠ I := fun b o e q => by rw [q, hnew] at e; cases e
        have hz := valsOk R' ok'
        exact fin ys H' inv { s₆ with heap := h₇ } _ _ us ⟨fun b o e tb => hx₇ _ _ (ne b o e) (K'.get b o e tb), fun b o e => let ⟨o', e'⟩ := K'.there b o e; ⟨o', hx₇ _ _ (ne b o e) e'⟩, K'.os, K'.gens⟩ (R'.other offI' hx₇) G' sD sL hDL offD' offL'
          (hP'.at fun o e => hx₇ _ _ hDI e) hus (Nat.le_trans hlen hz) ⟨m, hns'.at' fun o e => hx₇ _ _ hIL e⟩
    · intro r s' d
      cases r with
      | ok f =>
        have d' : compPost (model C.prog C.w) A nay use P (.ref s₂.heap.objs.size) H2.objs.size (.ok .next) s' := d
        cases use <;> exact d'
      | error e => exact d.elim
  exact codeAny_compStart_list (main _ rfl) (iter_self (src := src) (i := 0) (hit.at fun o e _ => old _ _ e) (main _ rfl))
def scopeFits (outer names : List (Str × NameKind)) (x : Str) : Bool :=
  names.lookup x == some .local && (names.all fun p => p.2 != .cell) && (names.all fun p => p.2 != .local || names.lookup p.1 == some .local) && names.all fun p => p.2 != .free || outer.lookup p.1 == some .cell || outer.lookup p.1 == some .free
theorem scopeFits_parts {outer names : List (Str × NameKind)} {x : Str} (h : scopeFits outer names x = true) : names.lookup x = some .local ∧ (∀ p ∈ names, p.2 ≠ .cell) ∧ (∀ p ∈ names, p.2 = .local → names.lookup p.1 = some .local) ∧
    ∀ n, (n, NameKind.free) ∈ names → outer.lookup n = some .cell ∨ outer.lookup n = some .free := by
  unfold scopeFits at h
  simp only [Bool.and_eq_true, beq_iff_eq, List.all_eq_true, bne_iff_ne, ne_eq, Bool.or_eq_true] at h
  obtain ⟨⟨⟨h1, h2⟩, h3⟩, h4⟩ := h
  refine ⟨h1, h2, fun p hp e => (h3 p hp).resolve_left (fun q => q e), fun n hn => ?_⟩
  rcases h4 _ hn with (q | q) | q
  · exact absurd rfl q
  · exact .inl q
  · exact .inr q
theorem ev_ListComp {elt iter : Expr} {x : Str} {px pos : Pos} {ifs : List Expr} {scope : Scope} {Q : V → HV → Prop}
    (h : Its C iter ρ H fun src H₁ => ∃ Inv, CompOK C elt x ifs scope.names src ρ H₁ Inv ∧ ∀ ys H', Inv src.vals.length ys H' → ∀ a, C.lo ≤ a → H' a = Option.none → Q (.loc a) (upd H' a (.list ys)))
    (hf : scopeFits C.nms scope.names x = true := by rfl) (hkind : scope.kind = .function := by rfl) (hs : ∀ env v, foldedSetIterable iter env v = pure v := by intros; rfl) :
    Ev C (.ListComp elt [⟨.Name x px, iter, ifs, 0⟩] scope pos) ρ H Q := by
  intro A s hA R
  obtain ⟨f1, f2, f3, f4⟩ := scopeFits_parts hf
  show wpAny _ _ (comprehension (.ListComp elt [⟨.Name x px, iter, ifs, 0⟩] scope pos) scope C.env _ (newList []) false (eval iter C.env)) _ _ _
  refine comp_core f1 hkind f2 f3 f4 hA R hs (fun A s' hA' R' => wpAny_mono (h A s' hA' R') (fun _ _ x => wpAny_mono x (fun _ _ x => ?_) fun _ _ e => e) fun _ _ e => e)
  obtain ⟨I, src, H₁, a1, a2, a3, a4, a5, a6, a7, a8, Inv, ok, fin⟩ := x
  refine ⟨I, src, H₁, a1, a2, a3, a4, a5, a6, a7, a8, Inv, ok, ?_⟩
  intro ys H' inv s₁ D L us K R₁ G sD sL hDL offD offL hP hus hz ⟨m, hns⟩
  refine ⟨m, hns, fun h' hs' => ?_⟩
  have hx : ∀ b o, b ≠ L → s₁.heap.get? b = some o → h'.get? b = some o := fun b o hb e => (hs'.2 b hb).trans e
  have ob : ObjIs C.prog C.w h' D (.list ys) := ⟨us, hP.at fun o e => hx _ _ hDL e, hus, hz⟩
  have ne : ∀ b o, s.heap.get? b = some o → b ≠ L ∧ b ≠ D := fun b o e => ⟨(fun q => by rw [q, sL] at e; cases e), (fun q => by rw [q, sD] at e; cases e)⟩
  refine ⟨.loc D, upd H' D (.list ys), rfl, ⟨fun b o e tb => hx _ _ (ne b o e).1 (K.get b o e tb), fun b o e => let ⟨o', e'⟩ := K.there b o e; ⟨o', hx _ _ (ne b o e).1 e'⟩, K.os, K.gens⟩, ?_, ?_, fin ys H' inv D offD.lo offD.hi⟩
  · exact (R₁.other offL hx).see offD ob
  · intro b o e n
    unfold upd; rw [if_neg (ne b o e).2]; exact G b o e n
theorem ex_AssignComp {elt iter : Expr} {x y : Str} {px py pos spos : Pos} {ifs : List Expr} {scope : Scope} {Q : Fl → EV → HV → Prop}
    (h : Its C iter ρ H fun src H₁ => ∃ Inv, CompOK C elt x ifs scope.names src ρ H₁ Inv ∧ ∀ ys H', Inv src.vals.length ys H' → ∀ a, C.lo ≤ a → H' a = Option.none → Q .next (put ρ y (.loc a)) (upd H' a (.list ys)))
    (hy : C.nms.lookup y = some .local) (hsw : (decide (py.line = pos.line) && !(scope.names.any fun p => decide (p.1 = y) && (p.2 == .local || p.2 == .cell))) = true := by rfl)
    (hf : scopeFits C.nms scope.names x = true := by rfl) (hkind : scope.kind = .function := by rfl) (hs : ∀ env v, foldedSetIterable iter env v = pure v := by intros; rfl) :
    Ex C (.Assign [.Name y py] (.ListComp elt [⟨.Name x px, iter, ifs, 0⟩] scope pos) spos) ρ H Q := by
  intro A s hA R
  obtain ⟨f1, f2, f3, f4⟩ := scopeFits_parts hf
  have hswap : swapsWith (.ListComp elt [⟨.Name x px, iter, ifs, 0⟩] scope pos) (some (.Name y py)) spos.line C.env = pure true := by
    show pure (C.env.blockKind == .function && C.env.kindOf y == some .local && py.line == pos.line && !(scope.names.any fun (n, k) => n == y && (k == .local || k == .cell))) = (pure true : Sem Bool)
    have e1 : (C.env.blockKind == ScopeKind.function) = true := by unfold Env.blockKind; rw [R.eok.kind]; rfl
    have e2 : (C.env.kindOf y == some NameKind.local) = true := by rw [R.kindOf, hy]; rfl
    rw [e1, e2]
    obtain ⟨h1, h2⟩ := Bool.and_eq_true_iff.mp hsw
    have h1' : (py.line == pos.line) = true := by simpa using h1
    have h2' : (!(scope.names.any fun (n, k) => n == y && (k == NameKind.local || k == NameKind.cell))) = true := by
      rw [← h2]
      congr 1
    rw [h1', h2']; rfl
  rw [exec_Assign_Name_used _ _ _ _ hswap]
  refine wpAny_bind (wpAny_standAt (wpAny_bind ?_))
  show wpAny _ A (do let _ ← comprehension (.ListComp elt [⟨.Name x px, iter, ifs, 0⟩] scope pos) scope C.env _ (newList []) false (eval iter C.env) (some (assign (.Name y py) C.env))) _ _ s
  refine wpAny_bind (wpAny_mono (comp_core (P := fun _ s' => SDone C H s Q .next s') f1 hkind f2 f3 f4 hA R hs (fun A' s' hA' R' => wpAny_mono (h A' s' hA' R') (fun _ _ x => wpAny_mono x (fun _ _ x => ?_) fun _ _ e => e) fun _ _ e => e))
    (fun _ s' hq => wpAny_pure (wpAny_pure hq)) fun _ _ e => e)
  obtain ⟨I, src, H₁, a1, a2, a3, a4, a5, a6, a7, a8, Inv, ok, fin⟩ := x
  refine ⟨I, src, H₁, a1, a2, a3, a4, a5, a6, a7, a8, Inv, ok, ?_⟩
  intro ys H' inv s₁ D L us K R₁ G sD sL hDL offD offL hP hus hz ⟨m, hns⟩
  show wpAny _ A (assign (.Name y py) C.env (.ref D)) _ _ _
  have ob₁ : ObjIs C.prog C.w s₁.heap D (.list ys) := ⟨us, hP, hus, hz⟩
  have R₂ : Rel C ρ (upd H' D (.list ys)) s₁.heap := R₁.see offD ob₁
  have G₂ : Gr H (upd H' D (.list ys)) s.heap := fun b o e n => by
    have hb : b ≠ D := fun q => by rw [q, sD] at e; cases e
    unfold upd; rw [if_neg hb]; exact G b o e n
  refine wpAny_assign_Name (store_name (.inl hy) R₂ (v := .loc D) rfl fun s₂ K₂ R₃ => ?_)
  have hLD : upd H' D (.list ys) L = Option.none := by unfold upd; rw [if_neg (Ne.symm hDL)]; exact offL.hi
  refine ⟨m, ns_at hns fun o e tb => K₂.get _ _ e tb (.inr ⟨hLD, offL.loc, offL.cel⟩), fun h' hs' => ?_⟩
  have hx : ∀ b o, b ≠ L → s₂.heap.get? b = some o → h'.get? b = some o := fun b o hb e => (hs'.2 b hb).trans e
  have offL₂ : Off C (upd H' D (.list ys)) L := ⟨hLD, offL.lo, offL.loc, offL.cel, offL.sys⟩
  have KK : SKp C H (upd H' D (.list ys)) s s₂ := (SKp.of_kp K G₂).trans K₂
  exact ⟨.next, _, _, trivial, KK.skip (t := s₂.toks) sL hx, R₃.other offL₂ hx, fin ys H' inv D offD.lo offD.hi⟩
end
end Mine
end
section
set_option maxRecDepth 100000
set_option Elab.async false
set_option linter.unusedVariables false
namespace Mine
open PySem PySem.Spec PyProof.Rows
theorem isV_typ {u : Value} {n : String} (h : isV u (.typ n)) : u = .type n := by
  unfold isV at h
  cases u <;> simp only [absV] at h <;> (try split at h) <;> cases h; rfl
section
variable {C : Cx} {ρ : EV} {H H' : HV} {A : Around} {s : Shared} {Q : V → HV → Prop}
theorem bok_floordiv {i j : Int} (hj : j ≠ 0) (hs : j.natAbs < 1073741824) (q : Q (.int (i.fdiv j)) H) : BOK C .FloorDiv (.int i) (.int j) ρ H Q := by
  intro u u' a b A s hA R
  obtain ⟨t, rfl⟩ := isV_int a; obtain ⟨t', rfl⟩ := isV_int b
  exact PyProof.Rows.floordiv_int hj (Done.v R rfl q _) (.inl (PyProof.noPylong_small hs))
theorem bok_mod {i j : Int} (hj : j ≠ 0) (q : Q (.int (i.fmod j)) H) : BOK C .Mod (.int i) (.int j) ρ H Q := by
  intro u u' a b A s hA R
  obtain ⟨t, rfl⟩ := isV_int a; obtain ⟨t', rfl⟩ := isV_int b
  exact PyProof.Rows.mod_int hj (Done.v R rfl q _)
theorem bok_pow {i j : Int} (h0 : 0 ≤ j) (h1 : j ≤ 1000000) (hs : i.natAbs < 2 ^ 64) (q : Q (.int (i ^ j.toNat)) H) : BOK C .Pow (.int i) (.int j) ρ H Q := by
  intro u u' a b A s hA R
  obtain ⟨t, rfl⟩ := isV_int a; obtain ⟨t', rfl⟩ := isV_int b
  exact pow_int_small h0 h1 hs (Done.v R rfl q _)
theorem strOk_append {x y : Str} (hx : PyData.strOk x = true) (hy : PyData.strOk y = true) : PyData.strOk (x ++ y) = true := by
  unfold PyData.strOk at *
  rw [Str.cps_append, Array.all_append, hx, hy]; rfl
theorem bok_add_str {x y : Str} (hz : x.length + y.length ≤ 1048576) (q : Q (.str (x ++ y)) H) : BOK C .Add (.str x) (.str y) ρ H Q := by
  intro u u' a b A s hA R
  obtain ⟨t, rfl, hx⟩ := isV_str a; obtain ⟨t', rfl, hy⟩ := isV_str b
  exact PyProof.Rows.add_str (fun t' tk => Done.v R (abs_str (strOk_append hx hy)) q _) (Nat.le_trans hz (by decide))
theorem bok_add_list {a b : Addr} {vs ws : List V} (ha : H a = some (.list vs)) (hb : H b = some (.list ws)) (hz : vs.length + ws.length ≤ 1048576)
    (q : ∀ c, C.lo ≤ c → H c = Option.none → Q (.loc c) (upd H c (.list (vs ++ ws)))) : BOK C .Add (.loc a) (.loc b) ρ H Q := by
  intro u u' x y A s hA R
  cases isV_loc x; cases isV_loc y
  obtain ⟨its, ⟨n, e⟩, hx, _⟩ := R.view a _ ha
  obtain ⟨its', ⟨n', e'⟩, hx', _⟩ := R.view b _ hb
  have ea : its.toArray ++ its'.toArray = (its ++ its').toArray := by simp
  refine concat_meets ⟨_, e, rfl⟩ ⟨_, e', rfl⟩ noFill_list_add seq_list_add PySem.F.slot_list_add PySem.F.entry_list_add (PySem.F.args_list_add_2 _ _)
    (list_addW a b its.toArray its'.toArray n n' Option.none Option.none #[] #[] (by rw [List.size_toArray, List.size_toArray, hx.length, hx'.length]; exact Nat.le_trans hz (by decide))) ⟨e, e', ?_⟩
  rw [ea]
  exact Done.new R (fun _ _ e => Heap.get?_push_of_some _ e) (Nat.le_refl _) (obj_list (Heap.get?_push_size _ rfl) (hx.append hx') (by rw [List.length_append]; exact hz)) q s.toks
theorem foldl_replicate_append {α : Type} (xs : Array α) : ∀ (n : Nat) (acc : Array α), (List.foldl (fun x1 x2 => x1 ++ x2) acc (List.replicate n xs)).toList = acc.toList ++ (List.replicate n xs.toList).flatten
  | 0, acc => by simp
  | n + 1, acc => by
    rw [List.replicate_succ, List.foldl_cons, foldl_replicate_append xs n (acc ++ xs), List.replicate_succ, List.flatten_cons]
    simp
theorem bok_mul_list1 {a : Addr} {v : V} {i : Int} (ha : H a = some (.list [v])) (hi : i ≤ 1048576) (hi0 : -1048576 ≤ i)
    (q : ∀ c, C.lo ≤ c → H c = Option.none → Q (.loc c) (upd H c (.list (List.replicate i.toNat v)))) : BOK C .Mult (.loc a) (.int i) ρ H Q := by
  intro u u' x y A s hA R
  cases isV_loc x
  obtain ⟨t, rfl⟩ := isV_int y
  obtain ⟨its, ⟨n, e⟩, hx, _⟩ := R.view a _ ha
  have hl := hx.length
  obtain ⟨w, rfl⟩ : ∃ w, its = [w] := List.length_eq_one_iff.mp (by simpa using hl)
  have hw : absV w = some v := by cases hx with | cons e _ => exact e
  refine wpAny_binaryOp_repeat_ref (T := "list") (U := "int") (by decide) ⟨_, e, rfl⟩ (fun s' => typeIs_int s' i t) noFill_list_mul F.fills_int_mul F.slot_int_rmul repeat_list F.slot_int_index.lookup
    (call_meets F.slot_int_rmul (typeIs_int s i t) F.entry_int_rmul (F.args_int_rmul_2 _ _) (int___rmul___int_list i t a [w].toArray n)
      ⟨e, rfl, ⟨_, e, rfl⟩, call_meets F.slot_list_mul ⟨_, e, rfl⟩ F.entry_list_mul (F.args_list_mul_2 _ _)
        (AutoListH.list___mul___list_int_3 a [w].toArray n i t (by simp [Builtin.List.listFitsIndex]; omega) (by simp; omega) (by simp [Builtin.List.listTooLong, sizeLine]; omega))
        ⟨e, ?_⟩⟩)
  refine Done.new R (fun _ _ e => Heap.get?_push_of_some _ e) (Nat.le_refl _) (o := .list (List.replicate i.toNat v)) ⟨List.replicate i.toNat w, ⟨0, ?_⟩, .replicate hw _, by rw [List.length_replicate]; omega⟩ q s.toks
  have e9 : List.foldl (fun x1 x2 => x1 ++ x2) #[] (List.replicate (if ([w].toArray : Array Value).isEmpty = true then 0 else i.toNat) [w].toArray) = (List.replicate i.toNat w).toArray := by
    apply Array.ext'
    rw [foldl_replicate_append]
    simp only [List.isEmpty_toArray, List.isEmpty_cons, Bool.false_eq_true, if_false]
    simp
  rw [← e9]
  exact Heap.get?_push_size _ rfl
theorem cok_eq_str {x y : Str} (q : Q (.bool (x == y)) H) : COK C .Eq (.str x) (.str y) ρ H Q := by
  intro u u' a b A s hA R
  obtain ⟨t, rfl, _⟩ := isV_str a; obtain ⟨t', rfl, _⟩ := isV_str b
  exact PyProof.Rows.eq_str (Done.v R rfl q s.toks)
theorem cok_ne_str {x y : Str} (q : Q (.bool (x != y)) H) : COK C .NotEq (.str x) (.str y) ρ H Q := by
  intro u u' a b A s hA R
  obtain ⟨t, rfl, _⟩ := isV_str a; obtain ⟨t', rfl, _⟩ := isV_str b
  exact PyProof.Rows.ne_str (Done.v R rfl q s.toks)
theorem cok_in_str {x y : Str} (q : Q (.bool (!(Builtin.Str.occurrences x y 0 x.length 1).isEmpty)) H) : COK C .In (.str y) (.str x) ρ H Q := by
  intro u u' a b A s hA R
  obtain ⟨t, rfl, _⟩ := isV_str a; obtain ⟨t', rfl, _⟩ := isV_str b
  exact PyProof.Rows.in_str (Done.v R rfl q s.toks)
/-- is, is not: bools, None, types -/
def isNone : V → Bool
  | .none => true
  | _ => false
def notBool (b : Bool) : V → Bool
  | .bool x => x != b
  | _ => true
theorem cok_is_none {v : V} (q : Q (.bool (isNone v)) H) : COK C .Is v .none ρ H Q := by
  intro u u' a b A s hA R
  cases isV_none b
  have hp : plainIs u .none = true := by
    cases u <;> first | rfl | (unfold isV absV at a; cases a)
  refine wpAny_is_plain hp (Done.v R (v := .bool (isNone v)) ?_ q s.toks)
  cases v with
  | none => cases isV_none a; rfl
  | bool x => cases isV_bool a; rfl
  | int i => obtain ⟨t, rfl⟩ := isV_int a; rfl
  | str x => obtain ⟨t, rfl, _⟩ := isV_str a; rfl
  | loc l => cases isV_loc a; rfl
  | typ n => cases isV_typ a; rfl
theorem cok_isnot_bool {v : V} {b : Bool} (q : Q (.bool (notBool b v)) H) : COK C .IsNot v (.bool b) ρ H Q := by
  intro u u' a bb A s hA R
  cases isV_bool bb
  have hp : plainIs u (.bool b) = true := by
    cases u <;> first | rfl | (unfold isV absV at a; cases a)
  refine wpAny_isNot_plain hp (Done.v R (v := .bool (notBool b v)) ?_ q s.toks)
  cases v with
  | none => cases isV_none a; rfl
  | bool x => cases isV_bool a; cases x <;> cases b <;> rfl
  | int i => obtain ⟨t, rfl⟩ := isV_int a; rfl
  | str x => obtain ⟨t, rfl, _⟩ := isV_str a; rfl
  | loc l => cases isV_loc a; rfl
  | typ n => cases isV_typ a; rfl
theorem cok_isnot_typ {m n : String} (q : Q (.bool (m != n)) H) : COK C .IsNot (.typ m) (.typ n) ρ H Q := by
  intro u u' a b A s hA R
  cases isV_typ a; cases isV_typ b
  refine wpAny_isNot_plain rfl (Done.v R (v := .bool (m != n)) ?_ q s.toks)
  show some (V.bool (!(Value.type m == Value.type n))) = _
  congr 2
  by_cases h : m = n
  · subst h; simp
  · have h1 : (Value.type m == Value.type n) = false := by
      rw [beq_eq_false_iff_ne]; intro e; injection e with e; exact h e
    rw [h1]; simp [h]
theorem tr_str {x : Str} {Q : Bool → HV → Prop} (hz : x.length ≤ 1048576) (q : Q ((x.length : Int) != 0) H) : TrOK C (.str x) ρ H Q := by
  intro u a A s hA R
  obtain ⟨t, rfl, _⟩ := isV_str a
  exact P.truthy_str (by omega) ⟨_, H, rfl, kp_tok _ _, R, Gr.refl _ _, q⟩
theorem tr_list {a : Addr} {vs : List V} {Q : Bool → HV → Prop} (e : H a = some (.list vs)) (q : Q (!vs.isEmpty) H) : TrOK C (.loc a) ρ H Q := by
  intro u x A s hA R
  cases isV_loc x
  obtain ⟨its, hl, hx, hz⟩ := R.view a _ e
  have hlen := hx.length
  refine wpAny_truthy_list hl.isList (by rw [List.size_toArray]; omega) ⟨_, H, ?_, kp_tok _ _, R, Gr.refl _ _, q⟩
  cases its <;> cases vs <;> simp_all
theorem ev_IfExp {test body orelse : Expr} {pos : Pos} (h : Tst C test ρ H fun b H₁ => if b = true then Ev C body ρ H₁ Q else Ev C orelse ρ H₁ Q) : Ev C (.IfExp test body orelse pos) ρ H Q := by
  intro A s hA R
  refine wpAny_IfExp (h.use hA R fun u v s₁ H₁ a K R₁ G q => ?_)
  cases (show u = v from a)
  cases u with
  | true => exact wpAny_mono (q A s₁ hA R₁) (fun _ _ d => d.trans K G) fun _ _ e => e
  | false => exact wpAny_mono (q A s₁ hA R₁) (fun _ _ d => d.trans K G) fun _ _ e => e
theorem ev_Not {x : Expr} {pos : Pos} (h : Ev C x ρ H fun v H₁ => TrOK C v ρ H₁ fun b H₂ => Q (.bool (!b)) H₂) : Ev C (.UnaryOp .Not x pos) ρ H Q := by
  intro A s hA R
  refine wpAny_UnaryOp (h.use hA R fun u v s₁ H₁ a K R₁ G q => not_of ((q u a).use hA R₁ fun b b' s₂ H₂ a' K' R₂ G' q' => Done.trans K G (Done.trans K' G' ?_)))
  cases (show b = b' from a')
  exact ⟨.bool (!b), H₂, rfl, kp_refl _, R₂, Gr.refl _ _, q'⟩
/-- and | or as values -/
abbrev Bl (C : Cx) (pos : Pos) (op : BoolOp) (es : List Expr) (ρ : EV) (H : HV) (Q : V → HV → Prop) : Prop := TG C isV (boolOp pos op (evalEach es C.env)) ρ H Q
theorem ev_BoolOp {op : BoolOp} {es : List Expr} {pos : Pos} (h : Bl C pos op es ρ H Q) : Ev C (.BoolOp op es pos) ρ H Q := h
theorem bl_one {op : BoolOp} {e : Expr} {pos : Pos} (h : Ev C e ρ H Q) : Bl C pos op [e] ρ H Q := h
theorem bl_and {e e' : Expr} {es : List Expr} {pos : Pos} (h : Ev C e ρ H fun v H₁ => TrOK C v ρ H₁ fun b H₂ => if b = true then Bl C pos .And (e' :: es) ρ H₂ Q else Q v H₂) : Bl C pos .And (e :: e' :: es) ρ H Q := by
  intro A s hA R
  show wpAny _ _ (do
    let v ← eval e C.env
    standAt pos
    let t ← holding [v] (truthy v)
    match BoolOp.And, t with
    | .And, false | .Or, true => pure v
    | _, _ => boolOp pos .And (evalEach (e' :: es) C.env)) _ _ s
  refine wpAny_bind (h.use hA R fun u v s₁ H₁ a K R₁ G q => wpAny_bind (wpAny_standAt (wpAny_bind (wpAny_holding ((q u a).use hA R₁ fun b b' s₂ H₂ a' K' R₂ G' q' => ?_)))))
  cases (show b = b' from a')
  cases b with
  | false => exact wpAny_pure (Done.trans K G (Done.trans K' G' ⟨v, H₂, a, kp_refl _, R₂, Gr.refl _ _, q'⟩))
  | true => exact wpAny_mono (q' A s₂ hA R₂) (fun _ _ d => (d.trans K' G').trans K G) fun _ _ e => e
theorem bl_or {e e' : Expr} {es : List Expr} {pos : Pos} (h : Ev C e ρ H fun v H₁ => TrOK C v ρ H₁ fun b H₂ => if b = true then Q v H₂ else Bl C pos .Or (e' :: es) ρ H₂ Q) : Bl C pos .Or (e :: e' :: es) ρ H Q := by
  intro A s hA R
  show wpAny _ _ (do
    let v ← eval e C.env
    standAt pos
    let t ← holding [v] (truthy v)
    match BoolOp.Or, t with
    | .And, false | .Or, true => pure v
    | _, _ => boolOp pos .Or (evalEach (e' :: es) C.env)) _ _ s
  refine wpAny_bind (h.use hA R fun u v s₁ H₁ a K R₁ G q => wpAny_bind (wpAny_standAt (wpAny_bind (wpAny_holding ((q u a).use hA R₁ fun b b' s₂ H₂ a' K' R₂ G' q' => ?_)))))
  cases (show b = b' from a')
  cases b with
  | true => exact wpAny_pure (Done.trans K G (Done.trans K' G' ⟨v, H₂, a, kp_refl _, R₂, Gr.refl _ _, q'⟩))
  | false => exact wpAny_mono (q' A s₂ hA R₂) (fun _ _ d => (d.trans K' G').trans K G) fun _ _ e => e
theorem vc_len_list {a : Addr} {vs : List V} (e : H a = some (.list vs)) (q : Q (.int vs.length) H) : VCall C (.builtin "len") [.loc a] ρ H Q := by
  intro us hus A s hA R
  cases hus with
  | cons x r =>
    cases r
    cases isV_loc x
    obtain ⟨its, hl, hx, hz⟩ := R.view a _ e
    have hlen := hx.length
    refine PyProof.Rows.len_list hl.isList (by rw [List.size_toArray]; omega) (Done.v R ?_ q _)
    show some (V.int ((its.toArray.size : Nat) : Int)) = _
    rw [List.size_toArray, hlen]
theorem vc_len_str {x : Str} (hz : x.length ≤ 1048576) (q : Q (.int x.length) H) : VCall C (.builtin "len") [.str x] ρ H Q := by
  intro us hus A s hA R
  cases hus with
  | cons a r =>
    cases r
    obtain ⟨t, rfl, _⟩ := isV_str a
    exact P.len_str (by omega) (Done.v R rfl q _)
end
end Mine
end
section
set_option maxRecDepth 100000
set_option Elab.async false
set_option linter.unusedVariables false
namespace Mine
open PySem PySem.Spec PyProof.Rows
open PySem.W (Frag Frag.In nsIn mg_of mg_none_of GoodWG ClaimW WData ReadsW Well WellAll ofPy)
/-- what the walk knows of the module -/
structure Gd (K : Params → Frag) (C : Cx) : Prop where
  X : (K C.w.params).In C.B
  g : ∃ mg, C.B.Ns mainGlobals mg
  b : ∃ mb, C.B.Ns builtinsNs mb ∧ ∀ x : Str, x ≠ "__name__" → mb x = bootBuiltins x
  lim : C.B.NoLimit
section
variable {K : Params → Frag} {C : Cx}
theorem Gd.into (G : Gd K C) (env : Env) (lo : Nat) (nms : List (Str × NameKind)) : Gd K (C.into env lo nms) := ⟨G.X, G.g, G.b, G.lim⟩
theorem Gd.cast {C' : Cx} (G : Gd K C) (h1 : C.w = C'.w) (h2 : C.B = C'.B) : Gd K C' := ⟨h1 ▸ h2 ▸ G.X, h2 ▸ G.g, h2 ▸ G.b, h2 ▸ G.lim⟩
theorem Gd.glob (G : Gd K C) {x : Str} {v : Value} (e : nsIn (K C.w.params) mainGlobals x = some (some v)) : GlobIs C x v := let ⟨mg, h⟩ := G.g; ⟨mg, h, .inl (mg_of G.X h e)⟩
theorem Gd.blt (G : Gd K C) {x : Str} {v : Value} (e : nsIn (K C.w.params) mainGlobals x = some none) (hv : bootBuiltins x = some v) (hn : x ≠ "__name__") : GlobIs C x v :=
  let ⟨mg, h⟩ := G.g; let ⟨mb, hb, q⟩ := G.b; ⟨mg, h, .inr ⟨mg_none_of G.X h e, mb, hb, (q x hn).trans hv⟩⟩
end
def fdAt (K : Frag) (a : Addr) : FuncData := match K.lookup a with
  | some ⟨_, _, .func fd, _⟩ => fd
  | _ => Calls.docDef "" ⟨[], [], none, [], [], none, []⟩ [] default .none .none .none
def bodyAt (K : Frag) (a : Addr) : List Stmt := match (fdAt K a).body with
  | .stmts b => b
  | _ => []
def namesAt (K : Frag) (a : Addr) : List (Str × NameKind) := (fdAt K a).scope.names
theorem fn_of {K : Params → Frag} {C : Cx} (G : Gd K C) {fa c : Addr} {params : List Str} {o oc : Obj} {vs : Array Value} {t : Tok} {n : String}
    (ho : (K C.w.params).lookup fa = some o) (hd : o.data = .func (fdAt (K C.w.params) fa)) (hb : (fdAt (K C.w.params) fa).body = .stmts (bodyAt (K C.w.params) fa)) (hc : (fdAt (K C.w.params) fa).code = .ref c) (hoc : (K C.w.params).lookup c = some oc)
    (hn : oc.cls = .type n) (hdc : oc.data = .fields vs) (hv : vs[1]? = some (.str (fdAt (K C.w.params) fa).qualname t)) (h1 : (fdAt (K C.w.params) fa).closure = []) (h2 : (fdAt (K C.w.params) fa).scope.kind = .function) (h3 : (fdAt (K C.w.params) fa).scope.isCoroutine = false) (h4 : (fdAt (K C.w.params) fa).scope.isGenerator = false)
    (h5 : (fdAt (K C.w.params) fa).globals = mainGlobals) (h6 : (fdAt (K C.w.params) fa).builtins = builtinsNs) (hbi : ∀ vals : List Value, vals.length = params.length → bindArgs (fdAt (K C.w.params) fa) ⟨vals, []⟩ = pure (params.zip vals))
    (hpk : params.all (fun x => (namesAt (K C.w.params) fa).lookup x == some .local || (namesAt (K C.w.params) fa).lookup x == some .cell) = true) (hnf : (namesAt (K C.w.params) fa).all (fun x => x.2 != .free) = true)
    (hnd : ((cellsFrom 0 (namesAt (K C.w.params) fa) []).map (·.1)).Nodup) : Fn C fa params (bodyAt (K C.w.params) fa) (namesAt (K C.w.params) fa) (fdAt (K C.w.params) fa) := by
  refine ⟨⟨o, G.X _ _ ho, hd⟩, ⟨c, oc, vs, t, n, hc, G.X _ _ hoc, hn, hdc, hv⟩, hb, rfl, h1, h2, h3, h4, h5, h6, hbi, fun x hx => ?_, fun x hx => ?_, hnd⟩
  · have := List.all_eq_true.mp hpk x hx
    simpa using this
  · have hm := mem_of_lookup hx
    have := List.all_eq_true.mp hnf _ hm
    simp at this
theorem top_call {C : Cx} {s : Shared} {fa : Addr} {params : List Str} {body : List Stmt} {nms : List (Str × NameKind)} {fd : FuncData} {vs : List V} {us : List Value} {H : HV} {A : Around} {Q : V → HV → Prop} (hB : C.B = s.heap) (hA : Rm A C.k)
    (F : Fn C fa params body nms fd) (lim : C.B.NoLimit) (hv : ValsAre us vs) (hk : 0 < C.k) (hlen : vs.length = params.length) (view : ∀ a o, H a = some o → ObjIs C.prog C.w s.heap a o) (sysm : H sysModules = none ∧ ∃ o, s.heap.get? sysModules = some o)
    (h : ∀ env lo, C.B.objs.size ≤ lo → (∀ a, (H a).isSome = true → a < lo) → Exs (C.into env lo nms) body (argsV params vs) H fun fl _ H' => Q (retOf fl) H') :
    wpAny (model C.prog C.w) A (call (.ref fa) us) (fun u s' => ∃ v H', absV u = some v ∧ OldK s.heap s'.heap ∧ s'.os = s.os ∧ (AllBare s.gens → AllBare s'.gens) ∧ Q v H') nay s := by
  obtain ⟨o, ho, hdat⟩ := F.obj
  have hul : us.length = params.length := hv.length.trans hlen
  have hrec : s.heap.CodeRec fd.code fd.qualname := by
    obtain ⟨c, oc, vs', t, n, e1, e2, e3, e4, e5⟩ := F.crec
    exact ⟨c, oc, vs', t, e1, hB ▸ e2, e4, e5⟩
  have hlim : s.heap.NoLimit := hB ▸ lim
  have hkinds : ∀ x ∈ params.zip us, fd.scope.names.lookup x.1 = some .local ∨ (fd.scope.names.lookup x.1 = some .cell ∧ ((cellsFrom (s.heap.objs.size + 1) fd.scope.names []).lookup x.1).isSome = true) := by
    intro x hx
    have hm := F.pk x.1 (List.of_mem_zip hx).1
    rw [F.names]
    rcases hm with q | q
    · exact .inl q
    · exact .inr ⟨q, hasCell _ _ _ (.inl q)⟩
  refine wpAny_call (codeAny_call_cells (by have := hA.dp; show A.depth < 1000; omega) (hB ▸ ho) hdat hlim hrec F.body (F.binds us hul) F.clo hkinds (fun s₁ X => ?_) F.co F.gen F.kind)
  have hdom : ∀ a, (H a).isSome = true → a < s.heap.objs.size := fun a e => by
    obtain ⟨o, eo⟩ := Option.isSome_iff_exists.mp e
    obtain ⟨ob, e'⟩ := (view a o eo).there
    exact Heap.lt_size e'
  have hko : ∀ x, (callEnvC fd s.heap.objs.size fa).kindOf x = nms.lookup x := fun x => by show fd.scope.names.lookup x = _; rw [F.names]
  obtain ⟨ρ₁, e₁, g1, g2⟩ := zip_vals params us vs hv hul (callEnvC fd s.heap.objs.size fa).kindOf (fun _ => Option.none) (fun _ => Option.none) (fun _ => Option.none) (fun x hx => by rw [hko]; exact F.pk x hx) (fun _ _ _ e => by cases e) (fun _ _ _ e => by cases e)
  have eρ : argsV params vs = ρ₁ := funext fun x => by rw [e₁ x]; simp [argsV]
  have keep := X.toInCall.keep
  have dom₁ : ∀ x v, ρ₁ x = some v → nms.lookup x = some .local ∨ nms.lookup x = some .cell ∨ nms.lookup x = some .free := fun x v e => by
    rw [e₁ x] at e
    simp only [Option.or_none] at e
    have hm : (x, v) ∈ params.zip vs := by
      have := mem_of_lookup e
      exact List.mem_reverse.mp this
    rcases F.pk x (List.of_mem_zip hm).1 with q | q
    · exact .inl q
    · exact .inr (.inl q)
  have R₁ : Rel (C.into (callEnvC fd s.heap.objs.size fa) s.heap.objs.size nms) (argsV params vs) H s₁.heap := by
    rw [eρ]
    refine ⟨⟨F.kind, F.glob, F.bui, F.names⟩, fun b o e t => keep _ _ (hB ▸ e), ?_, ?_, fun a o e => (view a o e).at fun _ e' _ => keep _ _ e', dom₁, ⟨_, X.toInCall.ns, fun x v hx e => g1 x v (by rw [hko]; exact hx) e⟩, fun x hx => ?_, fun x y c h h' => name_of_addr X.apart h h', fun x c hm => ?_, ?_, Nat.le_refl _, sysm.1, ?_⟩
    · show OldK C.B _
      rw [hB]; exact .of_keep keep
    · show C.B.objs.size ≤ _
      rw [hB]; exact Nat.le_refl _
    · have hx' : nms.lookup x = some .cell ∨ nms.lookup x = some .free := hx
      rcases hx' with hx' | hx'
      · have hsome : ((cellsFrom (s.heap.objs.size + 1) fd.scope.names []).lookup x).isSome = true := hasCell _ _ _ (.inl (by rw [F.names]; exact hx'))
        obtain ⟨c, hc⟩ := Option.isSome_iff_exists.mp hsome
        refine ⟨c, _, hc, X.cell x c hc, fun v e => ?_⟩
        exact g2 x v (by rw [hko]; exact hx') e
      · exact absurd hx' (F.nofree x)
    · have hgt := X.above x c hm
      have hgt' : s.heap.objs.size < c := hgt
      refine ⟨Nat.ne_of_gt hgt, Nat.le_of_lt hgt', ?_, ?_⟩
      · cases e : H c with
        | none => rfl
        | some o => exact absurd (hdom c (by rw [e]; rfl)) (Nat.not_lt.mpr (Nat.le_of_lt hgt'))
      · have hnd : ((cellsFrom (s.heap.objs.size + 1) fd.scope.names []).map (·.1)).Nodup := by
          rw [F.names, cellsFrom_names nms (s.heap.objs.size + 1) 0 [] [] rfl]; exact F.nd
        obtain ⟨o, e, _⟩ := X.cell x c (lookup_of_mem_nodup hnd hm)
        exact ⟨o, e⟩
    · show H s.heap.objs.size = none
      cases e : H s.heap.objs.size with
      | none => rfl
      | some o => exact absurd (hdom _ (by rw [e]; rfl)) (Nat.lt_irrefl _)
    · obtain ⟨_, o, e⟩ := sysm
      exact ⟨o, keep _ _ e⟩
  refine (h _ _ (by rw [hB]; exact Nat.le_refl _) hdom).use (hA.deeper hk _) R₁ fun f fl ρ' H' s' a K R' q => ?_
  obtain ⟨h₁, t₁, e₁, _⟩ := X.toInCall.done
  have fin : ∀ u, absV u = some (retOf fl) → ∃ v H', absV u = some v ∧ OldK s.heap s'.heap ∧ s'.os = s.os ∧ (AllBare s.gens → AllBare s'.gens) ∧ Q v H' := fun u e =>
    ⟨retOf fl, H', e, hB ▸ R'.old, K.os.trans (by rw [e₁]), fun x => K.gens (by rw [e₁]; exact x), q⟩
  cases f <;> cases fl <;> first | exact absurd a (fun x => x) | exact fin _ a | exact fin _ rfl
/-- a law's whole call -/
theorem top_good {C : Cx} {s : Shared} {fa : Addr} {params : List Str} {body : List Stmt} {nms : List (Str × NameKind)} {fd : FuncData} {vs : List V} {us : List Value} {H : HV} {c : ClaimW} {cl : Str → Option Addr} {mean : ExcName → Option Value} {args : List WData}
    (hr : ∀ cls, c.raises args cls = false) (hp : c.post args (.bool true) args = true) (hg : s.gens = #[]) (hB : C.B = s.heap) (hk : C.k = 50)
    (F : Fn C fa params body nms fd) (lim : C.B.NoLimit) (hv : ValsAre us vs) (hlen : vs.length = params.length) (view : ∀ a o, H a = some o → ObjIs C.prog C.w s.heap a o) (sysm : H sysModules = none ∧ ∃ o, s.heap.get? sysModules = some o)
    (h : ∀ env lo, C.B.objs.size ≤ lo → (∀ a, (H a).isSome = true → a < lo) → Exs (C.into env lo nms) body (argsV params vs) H fun fl _ H' => retOf fl = .bool true) :
    wpAny (model C.prog C.w) callerA (call (.ref fa) us) (fun v s' => GoodWG c cl mean args s (.ok (.ret v)) s') (fun e s' => GoodWG c cl mean args s (.error e) s') s := by
  refine wpAny_mono (top_call (Q := fun v _ => v = .bool true) hB ?_ F lim hv (by omega) hlen view sysm h) (fun u s' ⟨v, H', e, o, os, g, q⟩ => ?_) fun _ _ e => e.elim
  · refine ⟨rfl, ?_, ?_⟩ <;> rw [hk] <;> decide
  · subst q
    have hu : u = .bool true := by
      cases u <;> simp only [absV] at e <;> (try split at e) <;> cases e; rfl
    subst hu
    exact ⟨.inl ⟨_, _, [], rfl, hr, ReadsW.bool true, hp, fun _ => ⟨List.nodup_nil, fun _ hm => (nomatch hm)⟩⟩, o, os, g (.of_eq hg)⟩
theorem law_arg {P : Params} {h : Heap} {v : Value} {ns : List Int} (W : Well P h v (ofPy (.list (ns.map .int)))) : ∃ a vs, v = .ref a ∧ h.PlainList a vs.toArray ∧ ValsAre vs (ns.map V.int) := by
  have e : ofPy (.list (ns.map .int)) = .list (ns.map WData.int) := by
    have : ∀ ns : List Int, PySem.W.ofPys (ns.map PyData.int) = ns.map WData.int := fun ns => by
      induction ns with
      | nil => rfl
      | cons n ns ih => simp only [List.map_cons, PySem.W.ofPys, ih, ofPy]
    simp only [ofPy, this]
  rw [e] at W
  cases W with
  | list ho hw =>
    rename_i a vs
    refine ⟨a, vs, rfl, ⟨_, ho⟩, ?_⟩
    clear ho e
    revert vs
    induction ns with
    | nil => intro vs hw; cases hw; exact .nil
    | cons n ns ih =>
      intro vs hw
      simp only [List.map_cons] at hw
      cases hw with
      | cons w1 w2 => cases w1; exact .cons rfl (ih w2)
end Mine
end
section
set_option maxRecDepth 100000
set_option Elab.async false
set_option linter.unusedVariables false
namespace Mine
open PySem PySem.Spec PyProof.Rows PySem.SeqAt
mutual
/-- plain data behind an abstract value -/
inductive Den (H : HV) : Nat → V → PyData → Prop
  | none {n : Nat} : Den H n .none .none
  | int {n : Nat} {i : Int} : Den H n (.int i) (.int i)
  | str {n : Nat} {x : Str} : Den H n (.str x) (.str x)
  | list {n : Nat} {a : Addr} {vs : List V} {ds : List PyData} : H a = some (.list vs) → DenAll H n vs ds → Den H (n + 1) (.loc a) (.list ds)
  | tuple {n : Nat} {a : Addr} {vs : List V} {ds : List PyData} : H a = some (.tuple vs) → DenAll H n vs ds → Den H (n + 1) (.loc a) (.tuple ds)
inductive DenAll (H : HV) : Nat → List V → List PyData → Prop
  | nil {n : Nat} : DenAll H n [] []
  | cons {n : Nat} {v : V} {vs : List V} {d : PyData} {ds : List PyData} : Den H n v d → DenAll H n vs ds → DenAll H n (v :: vs) (d :: ds)
end
theorem DenAll.map {α : Type} {H : HV} {n : Nat} {f : α → V} {g : α → PyData} : ∀ (xs : List α), (∀ x ∈ xs, Den H n (f x) (g x)) → DenAll H n (xs.map f) (xs.map g)
  | [], _ => .nil
  | x :: xs, h => .cons (h x (List.mem_cons_self ..)) (DenAll.map xs fun y hy => h y (List.mem_cons_of_mem _ hy))
abbrev strsV (ss : List Str) : List V := ss.map V.str
abbrev intsV (ns : List Int) : List V := ns.map V.int
theorem den_strs {H : HV} (n : Nat) (ss : List Str) : DenAll H n (strsV ss) (ss.map PyData.str) := DenAll.map ss fun _ _ => .str
theorem den_ints {H : HV} (n : Nat) (ns : List Int) : DenAll H n (intsV ns) (ns.map PyData.int) := DenAll.map ns fun _ _ => .int
mutual
theorem Den.depth {H : HV} : ∀ {n : Nat} {v : V} {d : PyData}, Den H n v d → d.depth ≤ n
  | _, _, _, .none => Nat.zero_le _
  | _, _, _, .int => Nat.zero_le _
  | _, _, _, .str => Nat.zero_le _
  | _, _, _, .list _ h => Nat.succ_le_succ h.depth
  | _, _, _, .tuple _ h => Nat.succ_le_succ h.depth
theorem DenAll.depth {H : HV} : ∀ {n : Nat} {vs : List V} {ds : List PyData}, DenAll H n vs ds → PyData.depthAll ds ≤ n
  | _, _, _, .nil => Nat.zero_le _
  | _, _, _, .cons a b => Nat.max_le.mpr ⟨a.depth, b.depth⟩
end
mutual
theorem Den.noMix {H H' : HV} : ∀ {n m : Nat} {v v' : V} {d d' : PyData}, Den H n v d → Den H' m v' d' → SeqAt.noMix d d' = true
  | _, _, _, _, _, _, .list _ h, .list _ h' => by rw [SeqAt.noMix]; exact h.noMix h'
  | _, _, _, _, _, _, .tuple _ h, .tuple _ h' => by rw [SeqAt.noMix]; exact h.noMix h'
  | _, _, _, _, _, _, .none, .none => rfl
  | _, _, _, _, _, _, .none, .int => rfl
  | _, _, _, _, _, _, .none, .str => rfl
  | _, _, _, _, _, _, .none, .list .. => rfl
  | _, _, _, _, _, _, .none, .tuple .. => rfl
  | _, _, _, _, _, _, .int, .none => rfl
  | _, _, _, _, _, _, .int, .int => rfl
  | _, _, _, _, _, _, .int, .str => rfl
  | _, _, _, _, _, _, .int, .list .. => rfl
  | _, _, _, _, _, _, .int, .tuple .. => rfl
  | _, _, _, _, _, _, .str, .none => rfl
  | _, _, _, _, _, _, .str, .int => rfl
  | _, _, _, _, _, _, .str, .str => rfl
  | _, _, _, _, _, _, .str, .list .. => rfl
  | _, _, _, _, _, _, .str, .tuple .. => rfl
  | _, _, _, _, _, _, .list .., .none => rfl
  | _, _, _, _, _, _, .list .., .int => rfl
  | _, _, _, _, _, _, .list .., .str => rfl
  | _, _, _, _, _, _, .list .., .tuple .. => rfl
  | _, _, _, _, _, _, .tuple .., .none => rfl
  | _, _, _, _, _, _, .tuple .., .int => rfl
  | _, _, _, _, _, _, .tuple .., .str => rfl
  | _, _, _, _, _, _, .tuple .., .list .. => rfl
theorem DenAll.noMix {H H' : HV} : ∀ {n m : Nat} {vs vs' : List V} {ds ds' : List PyData}, DenAll H n vs ds → DenAll H' m vs' ds' → SeqAt.noMixAll ds ds' = true
  | _, _, _, _, _, _, .nil, .nil => rfl
  | _, _, _, _, _, _, .nil, .cons .. => rfl
  | _, _, _, _, _, _, .cons .., .nil => rfl
  | _, _, _, _, _, _, .cons a b, .cons a' b' => by rw [SeqAt.noMixAll, a.noMix a', b.noMix b']; rfl
end
mutual
theorem Den.reads {C : Cx} {ρ : EV} {H : HV} {h : Heap} (R : Rel C ρ H h) : ∀ {n : Nat} {v : V} {d : PyData} {u : Value}, Den H n v d → isV u v → ∃ as, Reads h u d as ∧ d.canLay0 = true
  | _, _, _, _, .none, a => by rw [isV_none a]; exact ⟨_, .none, rfl⟩
  | _, _, _, _, .int, a => by obtain ⟨t, rfl⟩ := isV_int a; exact ⟨_, .int _ _, rfl⟩
  | _, _, _, _, .str, a => by obtain ⟨t, rfl, ok⟩ := isV_str a; exact ⟨_, .str _ _, ok⟩
  | _, _, _, _, .list e x, a => by
    obtain ⟨its, ⟨k, he⟩, hv, _⟩ := R.view _ _ e
    obtain ⟨as, r, c⟩ := DenAll.reads R x hv
    rw [isV_loc a]; exact ⟨_, .list he rfl rfl (by simpa using r), c⟩
  | _, _, _, _, .tuple e x, a => by
    obtain ⟨its, ⟨o, he, hc, k, hd⟩, hv, _⟩ := R.view _ _ e
    obtain ⟨as, r, c⟩ := DenAll.reads R x hv
    rw [isV_loc a]; exact ⟨_, .tuple he hc hd (by simpa using r), c⟩
theorem DenAll.reads {C : Cx} {ρ : EV} {H : HV} {h : Heap} (R : Rel C ρ H h) : ∀ {n : Nat} {vs : List V} {ds : List PyData} {us : List Value}, DenAll H n vs ds → ValsAre us vs → ∃ as, ReadsAll h us ds as ∧ PyData.canLayAll0 ds = true
  | _, _, _, _, .nil, .nil => ⟨_, .nil, rfl⟩
  | _, _, _, _, .cons x y, .cons a b => by
    obtain ⟨as, r, c⟩ := Den.reads R x a
    obtain ⟨bs, r', c'⟩ := DenAll.reads R y b
    exact ⟨_, .cons r r', by rw [PyData.canLayAll0, c, c']; rfl⟩
end
section
variable {C : Cx} {ρ : EV} {H H' : HV} {A : Around} {s : Shared} {Q : V → HV → Prop}
theorem Rm.unit {k : Nat} (hA : Rm A k) : A.units ≤ 9000 := Nat.le_trans (Nat.le_add_right _ _) hA.un
theorem same_dec {p : Prop} [Decidable p] {d d' : PyData} (h : d = d' ↔ p) : Spec.same d d' = decide p := by
  rw [Bool.eq_iff_iff, same_iff, h, decide_eq_true_iff]
theorem cok_eq_den {n m : Nat} {a b : V} {d d' : PyData} (x : Den H n a d) (y : Den H m b d') (q : Q (.bool (Spec.same d d')) H) (hn : n ≤ 64 := by decide) (hm : m ≤ 64 := by decide) : COK C .Eq a b ρ H Q := by
  intro u u' hu hu' A s hA R
  obtain ⟨as, r, c⟩ := x.reads R hu
  obtain ⟨bs, r', c'⟩ := y.reads R hu'
  refine eq_dataH_same r r' ?_ ?_ ?_ (x.noMix y) (Done.v R rfl q s.toks)
  · simp [SeqAt.shaped, c, Nat.le_trans x.depth hn]
  · simp [SeqAt.shaped, c', Nat.le_trans y.depth hm]
  · have := hA.unit; show _ < 9900; omega
theorem cok_ne_den {n m : Nat} {a b : V} {d d' : PyData} (x : Den H n a d) (y : Den H m b d') (q : Q (.bool (!Spec.same d d')) H) (hn : n ≤ 64 := by decide) (hm : m ≤ 64 := by decide) : COK C .NotEq a b ρ H Q := by
  intro u u' hu hu' A s hA R
  obtain ⟨as, r, c⟩ := x.reads R hu
  obtain ⟨bs, r', c'⟩ := y.reads R hu'
  refine ne_dataH_same r r' ?_ ?_ ?_ (x.noMix y) (Done.v R rfl q s.toks)
  · simp [SeqAt.shaped, c, Nat.le_trans x.depth hn]
  · simp [SeqAt.shaped, c', Nat.le_trans y.depth hm]
  · have := hA.unit; show _ < 9900; omega
theorem any_eqv {n m : Nat} {v : V} {d : PyData} (x : Den H n v d) : ∀ {vs : List V} {ds : List PyData}, DenAll H m vs ds → ds.any (fun y => PyData.eqv y d) = ds.any (fun y => Spec.same y d)
  | _, _, .nil => rfl
  | _, _, .cons (d := d') (ds := ds) a b => by
    rw [List.any_cons, List.any_cons, any_eqv x b, ← same_eq_eqv _ _ (a.noMix x)]
theorem cok_in_list {n m : Nat} {a : Addr} {v : V} {vs : List V} {d : PyData} {ds : List PyData} (e : H a = some (.list vs)) (y : DenAll H m vs ds) (x : Den H n v d) (q : Q (.bool (ds.any fun y => Spec.same y d)) H) (hn : n ≤ 64 := by decide) : COK C .In v (.loc a) ρ H Q := by
  intro u u' hu hu' A s hA R
  obtain ⟨as, r, c⟩ := x.reads R hu
  obtain ⟨bs, r', c'⟩ := (Den.list e y).reads R hu'
  refine SeqAt.in_list_reads r' r c' c ?_ (Done.v R rfl ?_ s.toks)
  · have := hA.unit; have := x.depth; show _ < 9900; omega
  · rw [any_eqv x y]; exact q
theorem cok_notin_list {n m : Nat} {a : Addr} {v : V} {vs : List V} {d : PyData} {ds : List PyData} (e : H a = some (.list vs)) (y : DenAll H m vs ds) (x : Den H n v d) (q : Q (.bool (!ds.any fun y => Spec.same y d)) H) (hn : n ≤ 64 := by decide) : COK C .NotIn v (.loc a) ρ H Q := by
  intro u u' hu hu' A s hA R
  obtain ⟨as, r, c⟩ := x.reads R hu
  obtain ⟨bs, r', c'⟩ := (Den.list e y).reads R hu'
  refine SeqAt.notIn_list_reads r' r c' c ?_ (Done.v R rfl ?_ s.toks)
  · have := hA.unit; have := x.depth; show _ < 9900; omega
  · rw [any_eqv x y]; exact q
theorem any_map {α : Type} [DecidableEq α] {g : α → PyData} (inj : ∀ x y, g x = g y → x = y) (x : α) (xs : List α) : ((xs.map g).any fun y => Spec.same y (g x)) = decide (x ∈ xs) := by
  rw [Bool.eq_iff_iff, decide_eq_true_iff, List.any_eq_true]
  constructor
  · rintro ⟨y, hy, e⟩
    obtain ⟨z, hz, rfl⟩ := List.mem_map.mp hy
    rw [← inj _ _ (same_iff.mp e)]; exact hz
  · intro h; exact ⟨g x, List.mem_map_of_mem h, same_iff.mpr rfl⟩
theorem cok_in_strs {a : Addr} {x : Str} {ss : List Str} (e : H a = some (.list (strsV ss))) (q : Q (.bool (decide (x ∈ ss))) H) : COK C .In (.str x) (.loc a) ρ H Q :=
  cok_in_list (n := 0) (m := 0) e (den_strs 0 ss) .str (by rw [any_map (fun _ _ e => PyData.str.inj e)]; exact q)
theorem cok_notin_strs {a : Addr} {x : Str} {ss : List Str} (e : H a = some (.list (strsV ss))) (q : Q (.bool (!decide (x ∈ ss))) H) : COK C .NotIn (.str x) (.loc a) ρ H Q :=
  cok_notin_list (n := 0) (m := 0) e (den_strs 0 ss) .str (by rw [any_map (fun _ _ e => PyData.str.inj e)]; exact q)
theorem cok_in_ints {a : Addr} {x : Int} {ns : List Int} (e : H a = some (.list (intsV ns))) (q : Q (.bool (decide (x ∈ ns))) H) : COK C .In (.int x) (.loc a) ρ H Q :=
  cok_in_list (n := 0) (m := 0) e (den_ints 0 ns) .int (by rw [any_map (fun _ _ e => PyData.int.inj e)]; exact q)
theorem list_inj {α : Type} {g : α → PyData} (inj : ∀ x y, g x = g y → x = y) {xs ys : List α} : (PyData.list (xs.map g) = PyData.list (ys.map g)) ↔ xs = ys :=
  ⟨fun h => (List.map_inj_right inj).mp (PyData.list.inj h), fun h => h ▸ rfl⟩
theorem strs_inj {ss ss' : List Str} : (PyData.list (ss.map PyData.str) = PyData.list (ss'.map PyData.str)) ↔ ss = ss' := list_inj fun _ _ e => PyData.str.inj e
theorem ints_inj {ss ss' : List Int} : (PyData.list (ss.map PyData.int) = PyData.list (ss'.map PyData.int)) ↔ ss = ss' := list_inj fun _ _ e => PyData.int.inj e
theorem cok_ne_strs {a b : Addr} {ss ss' : List Str} (e : H a = some (.list (strsV ss))) (e' : H b = some (.list (strsV ss'))) (q : Q (.bool (!decide (ss = ss'))) H) : COK C .NotEq (.loc a) (.loc b) ρ H Q :=
  cok_ne_den (n := 1) (m := 1) (.list e (den_strs 0 ss)) (.list e' (den_strs 0 ss')) (by rw [same_dec strs_inj]; exact q)
theorem cok_eq_strs {a b : Addr} {ss ss' : List Str} (e : H a = some (.list (strsV ss))) (e' : H b = some (.list (strsV ss'))) (q : Q (.bool (decide (ss = ss'))) H) : COK C .Eq (.loc a) (.loc b) ρ H Q :=
  cok_eq_den (n := 1) (m := 1) (.list e (den_strs 0 ss)) (.list e' (den_strs 0 ss')) (by rw [same_dec strs_inj]; exact q)
theorem cok_ne_ints {a b : Addr} {ss ss' : List Int} (e : H a = some (.list (intsV ss))) (e' : H b = some (.list (intsV ss'))) (q : Q (.bool (!decide (ss = ss'))) H) : COK C .NotEq (.loc a) (.loc b) ρ H Q :=
  cok_ne_den (n := 1) (m := 1) (.list e (den_ints 0 ss)) (.list e' (den_ints 0 ss')) (by rw [same_dec ints_inj]; exact q)
end
end Mine
end
section
set_option maxRecDepth 100000
set_option Elab.async false
set_option linter.unusedVariables false
namespace Mine
open PySem PySem.Spec PyProof.Rows PySem.SeqAt
section
variable {C : Cx} {ρ : EV} {H H' : HV} {A : Around} {s : Shared} {Q : V → HV → Prop}
theorem slice_core {env : Env} {prog : Program} {w : World} {E : Value → Shared → Prop} {value : Expr} {lower upper : Option Expr} {p pos : Pos} {Q : Value → Shared → Prop}
    (h : wpAny (model prog w) A (eval value env) (fun o s₁ => wpAny (model prog w) A (evalPart lower env) (fun vl s₂ => wpAny (model prog w) A (evalPart upper env) (fun vu s₃ =>
      ∃ l items lo hi, o = .ref l ∧ s₃.heap.IsList l items ∧ items.size ≤ sizeLine ∧ IsPart vl lo ∧ IsPart vu hi ∧
        Q (.ref (s₃.heap.objs.size + 1)) { s₃ with heap := (s₃.heap.push { cls := .type "slice", data := .fields #[vl, vu, .none] }).push { cls := .type "list", data := .seq (slicePick items lo hi none) } }) E s₂) E s₁) E s) :
    wpAny (model prog w) A (eval (.Subscript value (.Slice lower upper none p) pos) env) Q E s := by
  refine Subscript_ (wpAny_mono h (fun o s₁ h₁ => wpAny_Slice (wpAny_mono h₁ (fun vl s₂ h₂ => wpAny_mono h₂ (fun vu s₃ h₃ => ?_) fun _ _ e => e) fun _ _ e => e)) fun _ _ e => e)
  obtain ⟨l, items, lo, hi, rfl, hl, hsz, pl, pu, hQ⟩ := h₃
  rw [evalPart_none]
  refine wpAny_pure (tail_any (hl.push _).typeIs list_getitem_lookup (wpAny_getItem_list_slice (hl.push _) (Heap.IsSliceOf.new ..) pl pu .none (by simp) ?_ hsz) rfl)
  rw [Heap.size_push]
  exact hQ
theorem slice_fin {l : Addr} {its : List Value} {vs : List V} {pick : Array Value} {vl vu : Value} (R : Rel C ρ H s.heap) {out : List V} (hp : ValsAre pick.toList out) (hz : out.length ≤ 1048576) (q : ∀ b, C.lo ≤ b → H b = Option.none → Q (.loc b) (upd H b (.list out))) :
    Done C isV ρ H s Q (.ref (s.heap.objs.size + 1)) { s with heap := (s.heap.push { cls := .type "slice", data := .fields #[vl, vu, .none] }).push { cls := .type "list", data := .seq pick } } := by
  refine Done.new (o := .list out) R (fun _ _ e => Heap.get?_push_of_some _ (Heap.get?_push_of_some _ e)) (Nat.le_succ _) ?_ q s.toks
  refine ⟨pick.toList, ⟨0, ?_⟩, hp, hz⟩
  have key : ∀ (hh : Heap) (n : Nat), hh.objs.size = n → (hh.push { cls := .type "list", data := .seq pick }).get? n = some { cls := .type "list", data := .seq pick.toList.toArray } := by
    rintro hh n rfl
    exact Heap.get?_push_size _ rfl
  exact key _ _ (Heap.size_push ..)
theorem ev_SliceAll {value : Expr} {p pos : Pos} (h : Ev C value ρ H fun v H₁ => ∃ a vs, v = .loc a ∧ H₁ a = some (.list vs) ∧ ∀ b, C.lo ≤ b → H₁ b = Option.none → Q (.loc b) (upd H₁ b (.list vs))) :
    Ev C (.Subscript value (.Slice none none none p) pos) ρ H Q := by
  intro A s hA R
  refine slice_core (h.use hA R fun u v s₁ H₁ a K R₁ G q => evalPart_none_step (evalPart_none_step ?_))
  obtain ⟨l, vs, rfl, e, q⟩ := q
  cases isV_loc a
  obtain ⟨its, hl, hx, hz⟩ := R₁.view l _ e
  refine ⟨l, _, Option.none, Option.none, rfl, hl.isList, few hx hz, .none, .none, ?_⟩
  exact (slice_fin (l := l) (its := its) (vs := vs) R₁ (by rw [slicePick_all]; simpa using hx) hz q).trans K G
theorem ev_SliceUpto {value e : Expr} {p pos : Pos} (h : Ev C value ρ H fun v H₁ => Ev C e ρ H₁ fun i H₂ => ∃ a vs, ∃ n : Int, v = .loc a ∧ i = .int n ∧ 0 ≤ n ∧ H₂ a = some (.list vs) ∧ ∀ b, C.lo ≤ b → H₂ b = Option.none → Q (.loc b) (upd H₂ b (.list (vs.take n.toNat)))) :
    Ev C (.Subscript value (.Slice none (some e) none p) pos) ρ H Q := by
  intro A s hA R
  refine slice_core (h.use hA R fun u v s₁ H₁ a K R₁ G q => evalPart_none_step (evalPart_some_step (q.use hA R₁ fun u' v' s₂ H₂ a' K' R₂ G' q' => ?_)))
  obtain ⟨l, vs, n, rfl, rfl, h0, e, q⟩ := q'
  cases isV_loc a
  obtain ⟨t, rfl⟩ := isV_int a'
  obtain ⟨its, hl, hx, hz⟩ := R₂.view l _ e
  obtain ⟨k, rfl⟩ := Int.eq_ofNat_of_zero_le h0
  refine ⟨l, _, Option.none, some (k : Int), rfl, hl.isList, few hx hz, .none, .int _ _, ?_⟩
  exact ((slice_fin (l := l) (its := its) (vs := vs) R₂ (out := vs.take (k : Int).toNat) (by rw [slicePick_upto']; simpa using hx.take k) (by simp; omega) q).trans K' G').trans K G
theorem ev_SliceFrom {value e : Expr} {p pos : Pos} (h : Ev C value ρ H fun v H₁ => Ev C e ρ H₁ fun i H₂ => ∃ a vs, ∃ n : Int, v = .loc a ∧ i = .int n ∧ 0 ≤ n ∧ H₂ a = some (.list vs) ∧ ∀ b, C.lo ≤ b → H₂ b = Option.none → Q (.loc b) (upd H₂ b (.list (vs.drop n.toNat)))) :
    Ev C (.Subscript value (.Slice (some e) none none p) pos) ρ H Q := by
  intro A s hA R
  refine slice_core (h.use hA R fun u v s₁ H₁ a K R₁ G q => evalPart_some_step (q.use hA R₁ fun u' v' s₂ H₂ a' K' R₂ G' q' => evalPart_none_step ?_))
  obtain ⟨l, vs, n, rfl, rfl, h0, e, q⟩ := q'
  cases isV_loc a
  obtain ⟨t, rfl⟩ := isV_int a'
  obtain ⟨its, hl, hx, hz⟩ := R₂.view l _ e
  obtain ⟨k, rfl⟩ := Int.eq_ofNat_of_zero_le h0
  refine ⟨l, _, some (k : Int), Option.none, rfl, hl.isList, few hx hz, .int _ _, .none, ?_⟩
  exact ((slice_fin (l := l) (its := its) (vs := vs) R₂ (by rw [slicePick_from']; simpa using hx.drop k) (by simp; omega) q).trans K' G').trans K G
theorem strsAre_of {us : List Value} : ∀ {ss : List Str}, ValsAre us (strsV ss) → StrsAre us ss ∧ ∀ x ∈ ss, PyData.strOk x = true := by
  induction us with
  | nil => intro ss h; cases ss with | nil => exact ⟨by constructor, fun _ h => (nomatch h)⟩ | cons _ _ => cases h
  | cons u us ih =>
    intro ss h
    cases ss with
    | nil => cases h
    | cons x ss =>
      cases h with
      | cons a b =>
        obtain ⟨t, rfl, ok⟩ := isV_str a
        obtain ⟨h1, h2⟩ := ih b
        refine ⟨?_, fun y hy => ?_⟩
        · first | exact .cons h1 | exact .cons _ h1 | exact StrsAre.cons _ _ h1 | exact ⟨t, rfl, h1⟩ | exact ⟨⟨t, rfl⟩, h1⟩
        · cases hy with
          | head => exact ok
          | tail _ hy => exact h2 y hy
theorem valsAre_of {us : List Value} : ∀ {ss : List Str}, StrsAre us ss → (∀ x ∈ ss, PyData.strOk x = true) → ValsAre us (strsV ss) := by
  induction us with
  | nil => intro ss h _; cases ss with | nil => exact .nil | cons _ _ => cases h
  | cons u us ih =>
    intro ss h ok
    cases ss with
    | nil => cases h
    | cons x ss =>
      cases h with
      | cons _ t h => exact .cons (abs_str (ok x (List.mem_cons_self ..))) (ih h fun y hy => ok y (List.mem_cons_of_mem _ hy))
theorem vc_sorted_strs {a : Addr} {ss : List Str} (e : H a = some (.list (strsV ss))) (h64 : ss.length < 64)
    (q : ∀ ss', ss'.Perm ss → sortedS ss' = true → ∀ b, C.lo ≤ b → H b = Option.none → Q (.loc b) (upd H b (.list (strsV ss')))) : VCall C (.builtin "sorted") [.loc a] ρ H Q := by
  intro us hus A s hA R
  cases hus with
  | cons x r =>
    cases r
    cases isV_loc x
    obtain ⟨its, hl, hx, hz⟩ := R.view a _ e
    obtain ⟨hS, ok⟩ := strsAre_of hx
    refine sorted_strs hl.isList hS (by rw [hx.length]; simpa using h64) fun out ss' h1 h2 h3 => ?_
    refine Done.new (o := .list (strsV ss')) R (fun _ _ e => sortedAll_old e) (Nat.le_succ _) ?_ (q ss' h2 h3) s.toks
    obtain ⟨c, hc⟩ := sortedAll_at s.heap its out
    refine ⟨out.toList, ⟨c, by simpa using hc⟩, valsAre_of h1 fun y hy => ok y (h2.mem_iff.mp hy), ?_⟩
    have := h2.length_eq
    simp; omega
end
end Mine
end
section
set_option maxRecDepth 100000
set_option Elab.async false
set_option linter.unusedVariables false
namespace Mine
open PySem PySem.Spec PyProof.Rows
/-! plain laws: first occurrences, rising lists -/
def dstep (u : List Str) (x : Str) : List Str := if x ∈ u then u else u ++ [x]
def dd (xs : List Str) : List Str := xs.foldl dstep []
theorem dd_snoc (xs : List Str) (x : Str) : dd (xs ++ [x]) = dstep (dd xs) x := by unfold dd; rw [List.foldl_append]; rfl
theorem dd_take {l : List Str} {i : Nat} {x : Str} (h : l[i]? = some x) : dd (l.take (i + 1)) = dstep (dd (l.take i)) x := by
  rw [List.take_add_one, h]; exact dd_snoc _ _
theorem dstep_nodup {u : List Str} (h : u.Nodup) (x : Str) : (dstep u x).Nodup := by
  unfold dstep
  split
  · exact h
  · rename_i hx
    rw [List.nodup_append]
    refine ⟨h, by simp, fun a ha b hb => ?_⟩
    rw [List.mem_singleton] at hb
    subst hb
    rintro rfl; exact hx ha
theorem mem_dstep {u : List Str} {x y : Str} : y ∈ dstep u x ↔ y ∈ u ∨ y = x := by
  unfold dstep
  split
  · rename_i hx
    constructor
    · exact .inl
    · rintro (h | rfl)
      · exact h
      · exact hx
  · simp
theorem fold_nodup : ∀ (xs u : List Str), u.Nodup → (xs.foldl dstep u).Nodup
  | [], _, h => h
  | x :: xs, u, h => fold_nodup xs _ (dstep_nodup h x)
theorem mem_fold : ∀ (xs u : List Str) (y : Str), y ∈ xs.foldl dstep u ↔ y ∈ u ∨ y ∈ xs
  | [], u, y => by simp
  | x :: xs, u, y => by
    rw [List.foldl_cons, mem_fold xs _ y, mem_dstep, List.mem_cons, or_assoc]
theorem dd_nodup (xs : List Str) : (dd xs).Nodup := fold_nodup xs [] (by simp)
theorem mem_dd {xs : List Str} {y : Str} : y ∈ dd xs ↔ y ∈ xs := by unfold dd; rw [mem_fold]; simp
theorem dstep_length (u : List Str) (x : Str) : (dstep u x).length ≤ u.length + 1 := by unfold dstep; split <;> simp
theorem fold_length : ∀ (xs u : List Str), (xs.foldl dstep u).length ≤ u.length + xs.length
  | [], u => by simp
  | x :: xs, u => by
    have h1 := fold_length xs (dstep u x)
    have h2 := dstep_length u x
    rw [List.foldl_cons, List.length_cons]; omega
theorem dd_length (xs : List Str) : (dd xs).length ≤ xs.length := by have := fold_length xs []; unfold dd; simpa using this
def ltS (x y : Str) : Prop := x.cps.toList < y.cps.toList
theorem str_ext {x y : Str} (h : x.cps.toList = y.cps.toList) : x = y := by
  obtain ⟨a⟩ := x; obtain ⟨b⟩ := y
  have : a = b := Array.toList_inj.mp h
  subst this; rfl
theorem ltS_trans_not {a b c : Str} (h1 : ¬ ltS b a) (h2 : ¬ ltS c b) : ¬ ltS c a := by
  unfold ltS at *
  rw [List.not_lt] at *
  exact List.le_trans h1 h2
theorem rising_pairwise : ∀ (p : Str) (l : List Str), risingS p l = true → (p :: l).Pairwise (fun a b => ¬ ltS b a)
  | p, [], _ => by simp
  | p, x :: r, h => by
    have h' : ltCps x.cps.toList p.cps.toList = false ∧ risingS x r = true := by simpa [risingS] using h
    have ih := rising_pairwise x r h'.2
    have hx : ¬ ltS x p := by
      have := h'.1; rw [ltCps_eq, decide_eq_false_iff_not] at this; exact this
    refine List.pairwise_cons.mpr ⟨fun y hy => ?_, ih⟩
    rcases List.mem_cons.mp hy with rfl | hy
    · exact hx
    · exact ltS_trans_not hx ((List.pairwise_cons.mp ih).1 y hy)
theorem sorted_pairwise {l : List Str} (h : sortedS l = true) : l.Pairwise (fun a b => ¬ ltS b a) := by
  cases l with
  | nil => exact .nil
  | cons p l => exact rising_pairwise p l h
theorem ltS_asymm {a b : Str} (h : ltS a b) : ¬ ltS b a := fun h' => List.lt_irrefl _ (List.lt_trans h h')
/-- two rising lists of the same strs, none twice, are one -/
theorem rising_one {l m : List Str} (hl : sortedS l = true) (hm : m.Pairwise ltS) (nl : l.Nodup) (e : ∀ x, x ∈ l ↔ x ∈ m) : l = m := by
  have nm : m.Nodup := hm.imp fun {a b} h => by
    rintro rfl; exact List.lt_irrefl _ h
  refine List.Perm.eq_of_pairwise (le := fun a b => ¬ ltS b a) (fun a b _ _ h1 h2 => ?_) (sorted_pairwise hl) (hm.imp fun h => ltS_asymm h) ((List.perm_ext_iff_of_nodup nl nm).mpr e)
  unfold ltS at h1 h2
  rw [List.not_lt] at h1 h2
  exact str_ext (List.le_antisymm h1 h2)
theorem merged_is {S xs out : List Str} (hS : S.Pairwise ltS) (hx : ∀ x ∈ xs, x ∈ S) (hp : out.Perm (dd xs)) (hs : sortedS out = true) : out = S.filter fun s => decide (s ∈ xs) := by
  refine rising_one hs (hS.filter _) (hp.symm.nodup (dd_nodup xs)) fun x => ?_
  rw [hp.mem_iff, mem_dd, List.mem_filter, decide_eq_true_iff]
  exact ⟨fun h => ⟨hx x h, h⟩, fun h => h.2⟩
/-! the heap's view -/
theorem le_upd {H : HV} {b : Addr} {o : AO} (h : H b = none) : H.le (upd H b o) := fun a o' e => by
  unfold upd
  split
  · rename_i q; subst q; rw [h] at e; cases e
  · exact e
theorem HV.le_refl (H : HV) : H.le H := fun _ _ e => e
theorem HV.le.trans {H H' H'' : HV} (a : H.le H') (b : H'.le H'') : H.le H'' := fun x o e => b x o (a x o e)
theorem upd_at (H : HV) (b : Addr) (o : AO) : upd H b o b = some o := by simp [upd]
theorem upd_ne (H : HV) {a b : Addr} (o : AO) (h : a ≠ b) : upd H b o a = H a := by simp [upd, h]
theorem ne_of_new {H : HV} {a b : Addr} {o : AO} (e : H a = some o) (n : H b = none) : a ≠ b := by rintro rfl; rw [e] at n; cases n
theorem upd_old {H : HV} {a b : Addr} {o o' : AO} (e : H a = some o) (n : H b = none) : upd H b o' a = some o := by rw [upd_ne _ _ (ne_of_new e n)]; exact e
/-- a statement, then the rest, with a word between -/
theorem exs_mid {C : Cx} {st : Stmt} {rest : List Stmt} {ρ : EV} {H : HV} {Q : Fl → EV → HV → Prop} (P : EV → HV → Prop) (h : Ex C st ρ H fun fl ρ₁ H₁ => match fl with | .next => P ρ₁ H₁ | fl => Q fl ρ₁ H₁)
    (k : ∀ ρ₁ H₁, P ρ₁ H₁ → Exs C rest ρ₁ H₁ Q) : Exs C (st :: rest) ρ H Q :=
  exs_cons (fun A s hA R => wpAny_mono (h A s hA R) (fun f s' ⟨fl, ρ', H', a, b, c, d⟩ => ⟨fl, ρ', H', a, b, c, by cases fl <;> first | exact k _ _ d | exact d⟩) fun _ _ e => e)
end Mine
end
section
set_option maxRecDepth 100000
set_option Elab.async false
set_option linter.unusedVariables false
namespace Mine
open PySem PySem.Spec PyProof.Rows
open PySem.W (Frag Frag.In nsIn mg_of mg_none_of GoodWG ClaimW WData ReadsW Well WellAll ofPy)
theorem ValsAre.inj {us : List Value} {vs ws : List V} (h : ValsAre us vs) (k : ValsAre us ws) : vs = ws := by
  induction h generalizing ws with
  | nil => cases k; rfl
  | cons a _ ih =>
    cases k with
    | cons b r =>
      rw [a] at b; cases b; rw [ih r]
theorem objIs_inj {prog : Program} {w : World} {h : Heap} {a : Addr} {vs : List V} {o : AO} (x : ObjIs prog w h a (.list vs)) (y : ObjIs prog w h a o) : o = .list vs := by
  obtain ⟨its, ⟨n, e⟩, hv, _⟩ := x
  cases o with
  | list ws =>
    obtain ⟨its', ⟨n', e'⟩, hw, _⟩ := y
    rw [e] at e'
    have he : its = its' := by
      have := Option.some.inj e'
      injection this with _ _ hd _
      injection hd with hd _
      simpa using congrArg Array.toList hd
    subst he
    rw [hv.inj hw]
  | tuple ws =>
    obtain ⟨its', ⟨o', e', hc, r⟩, _⟩ := y
    rw [e] at e'; cases e'
    exact absurd hc (by intro h; injection h with h; exact absurd h (by decide))
  | dict ws =>
    obtain ⟨its', ⟨o', es, ep, e', r⟩, _⟩ := y
    rw [e] at e'; cases e'
    obtain ⟨_, hd, _⟩ := r; cases hd
theorem lk_mem {b : Addr} {o : AO} : ∀ {l : List (Addr × AO)}, l.lookup b = some o → (b, o) ∈ l
  | [], h => by cases h
  | (c, p) :: l, h => by
    rw [List.lookup_cons] at h
    split at h
    · rename_i e
      cases h
      rw [beq_iff_eq] at e; subst e
      exact List.mem_cons_self ..
    · exact List.mem_cons_of_mem _ (lk_mem h)
theorem lk_of {q : Addr × AO} : ∀ {l : List (Addr × AO)}, (l.map (·.1)).Nodup → q ∈ l → l.lookup q.1 = some q.2
  | [], _, h => by cases h
  | (c, p) :: l, nd, h => by
    rw [List.lookup_cons]
    rw [List.map_cons, List.nodup_cons] at nd
    rcases List.mem_cons.mp h with rfl | hm
    · simp
    · have : q.1 ≠ c := fun e => nd.1 (e ▸ List.mem_map_of_mem (f := (·.1)) hm)
      have e : (q.1 == c) = false := beq_eq_false_iff_ne.mpr this
      rw [e]
      exact lk_of nd.2 hm
/-- a law's call, from what the head leaves -/
theorem law_top {K : Params → Frag} {prog p : Program} {w : World} {s : Shared} {loose : List Str} {mean : ExcName → Option Value} {mg mb : Str → Option Value} {fa la : Addr} {v : Value} {ns : List Int} {c : ClaimW} {cl : Str → Option Addr} {mean' : ExcName → Option Value} {args : List WData} {fd : FuncData}
    (T : Top p loose mean mg mb s.heap) (hi : importsNone p = true) (KX : (K w.params).In s.heap) (W : Well w.params s.heap v (ofPy (.list (ns.map .int)))) (hf : mg "law" = some (.ref fa)) (hn : nsIn (K w.params) mainGlobals "law" = some (some (.ref la))) (hl : ns.length ≤ 63)
    (F : ∀ C : Cx, C.w = w → Gd K C → Fn C la ["script"] (bodyAt (K w.params) la) (namesAt (K w.params) la) fd) (gl : List (Addr × AO)) (hgl : ∀ q ∈ gl, ObjIs prog w s.heap q.1 q.2) (hnd : (gl.map (·.1)).Nodup) (h1 : ∀ q ∈ gl, q.1 ≠ 1) (hne : ∀ q ∈ gl, ∀ ns, q.2 ≠ .list (intsV ns))
    (hr : ∀ cls, c.raises args cls = false) (hp : c.post args (.bool true) args = true) (hg : s.gens = #[])
    (h : ∀ C : Cx, Gd K C → C.w = w → C.k = 50 → ∀ (H : HV) (a : Addr), H a = some (.list (intsV ns)) → (∀ q ∈ gl, H q.1 = some q.2) → FCall C ["script"] (bodyAt (K w.params) la) (namesAt (K w.params) la) [.loc a] H (fun v _ => v = .bool true)) :
    wpAny (model prog w) callerA (call (.ref fa) [v]) (fun v s' => GoodWG c cl mean' args s (.ok (.ret v)) s') (fun e s' => GoodWG c cl mean' args s (.error e) s') s := by
  obtain ⟨a, vs, rfl, hpl, hv⟩ := law_arg W
  have e := mg_of KX T.g hn
  rw [hf] at e
  cases e
  obtain ⟨mm, hsys, _⟩ := (T.seer hi).mods
  obtain ⟨so, ses, sep, hso, hsd, _⟩ := hsys
  have oa : ObjIs prog w s.heap a (.list (intsV ns)) := ⟨vs, hpl, hv, by simp; omega⟩
  let C : Cx := ⟨prog, w, s.heap, default, s.heap.objs.size, [], 50⟩
  have G : Gd K C := ⟨KX, ⟨mg, T.g⟩, ⟨mb, T.b, T.builtins⟩, T.nolimit⟩
  let H : HV := fun b => if b = a then some (.list (intsV ns)) else gl.lookup b
  have ha1 : a ≠ 1 := by
    rintro rfl
    obtain ⟨n, en⟩ := hpl
    rw [show s.heap.get? 1 = some so from hso] at en
    cases en; cases hsd
  have hH : ∀ q ∈ gl, H q.1 = some q.2 := by
    intro q hq
    have : q.1 ≠ a := by
      intro e
      have o := hgl q hq
      rw [e] at o
      exact hne q hq ns (objIs_inj oa o)
    show (if q.1 = a then _ else gl.lookup q.1) = _
    rw [if_neg this]
    exact lk_of hnd hq
  obtain ⟨_, hlen, hx⟩ := h C G rfl rfl H a (by show (if a = a then _ else _) = _; rw [if_pos rfl]) hH
  refine top_good (C := C) (H := H) hr hp hg rfl rfl (F C rfl G) T.nolimit (.cons rfl .nil) rfl ?_ ⟨?_, ⟨so, hso⟩⟩ hx
  · intro b o e
    have e : (if b = a then some (AO.list (intsV ns)) else gl.lookup b) = some o := e
    split at e
    · rename_i hb; cases e; subst hb; exact oa
    · exact hgl (b, o) (lk_mem e)
  · show (if (1 : Nat) = a then _ else gl.lookup 1) = none
    rw [if_neg (Ne.symm ha1)]
    cases e : gl.lookup (1 : Nat) with
    | none => rfl
    | some o => exact absurd rfl (h1 _ (lk_mem e))
end Mine
end
section
set_option maxRecDepth 100000
set_option Elab.async false
set_option linter.unusedVariables false
namespace Mine
open PySem PySem.Spec PyProof.Rows PySem.SeqAt
section
variable {C : Cx} {ρ : EV} {H H' : HV} {A : Around} {s : Shared} {Q : V → HV → Prop}
/-- a text's character -/
theorem sok_str {x : Str} {i : Int} {c : Nat} (h0 : 0 ≤ i) (h1 : i < 1048576) (hc : x.cps[i.toNat]? = some c) (q : Q (.str ⟨#[c]⟩) H) : SOK C (.str x) (.int i) ρ H Q := by
  intro u u' a b A s hA R
  obtain ⟨t, rfl, ok⟩ := isV_str a
  obtain ⟨t', rfl⟩ := isV_int b
  have hlt : i.toNat < x.length := (Array.getElem?_eq_some_iff.mp hc).1
  have hcv : c < 0x110000 := by
    unfold PyData.strOk at ok
    have := Array.all_eq_true'.mp ok c (Array.mem_of_getElem? hc)
    simpa using this
  refine ⟨"str", _, F.slot_str_getitem.lookup, typeIs_str _ _ _, P.getItem_str (c := c) ?_ ?_ (Done.v R ?_ q (s.toks + 1))⟩
  · have h2 : ¬ (i < -(2 ^ 63 : Int)) := by omega
    have h3 : ¬ (i ≥ 2 ^ 63) := by omega
    simp only [h2, h3, decide_false, Bool.or_self]
  · have : seqIndex? i x.length = some i.toNat := by
      unfold seqIndex?
      have h4 : ¬ i < 0 := by omega
      have h5 : i < (x.length : Int) := by omega
      simp [h4, h5, h0]
    rw [this]; exact hc
  · refine abs_str ?_
    unfold PyData.strOk
    simp [hcv]
/-- list(x) -/
theorem vc_list {a : Addr} {vs : List V} (e : H a = some (.list vs)) (q : ∀ b, C.lo ≤ b → H b = Option.none → Q (.loc b) (upd H b (.list vs))) : VCall C (.type "list") [.loc a] ρ H Q := by
  intro us hus A s hA R
  cases hus with
  | cons x r =>
    cases r
    cases isV_loc x
    obtain ⟨its, ⟨n, ho⟩, hx, hz⟩ := R.view a _ e
    refine call_list_seq a (.inl rfl) ho rfl rfl (fun h' c' hk hnew => ?_) (few hx hz)
    exact Done.new (o := .list vs) R hk (Nat.le_refl _) ⟨its, ⟨c', hnew⟩, hx, hz⟩ q s.toks
/-- a new object above all that stands -/
theorem Done.above {a : Addr} {h' : Heap} {o : AO} (R : Rel C ρ H s.heap) (k : ∀ b o, s.heap.get? b = some o → h'.get? b = some o) (ha : ∀ b o, s.heap.get? b = some o → b < a) (x : ObjIs C.prog C.w h' a o)
    (q : ∀ a, C.lo ≤ a → H a = Option.none → Q (.loc a) (upd H a o)) (t : Nat) : Done C isV ρ H s Q (.ref a) { s with heap := h', toks := t } := by
  have hn : H a = Option.none := by
    cases e : H a with
    | none => rfl
    | some o => obtain ⟨ob, eo⟩ := (R.view _ _ e).there; exact absurd (ha _ _ eo) (Nat.lt_irrefl _)
  have hlo : C.lo ≤ a := by
    obtain ⟨m, ⟨ol, _, _, el, _⟩, _⟩ := R.loc
    exact Nat.le_trans R.lloc (Nat.le_of_lt (ha _ _ el))
  have g : Gr H (upd H a o) s.heap := fun b o' e n => by
    unfold upd; rw [if_neg (Nat.ne_of_lt (ha b o' e))]; exact n
  refine ⟨_, _, rfl, kp_of _ k, R.step k (fun b o' e => ?_) g, g, q _ hlo hn⟩
  unfold upd at e
  split at e
  · rename_i ea; cases e; subst ea; exact x
  · exact (R.view b o' e).at fun ob e _ => k _ _ e
/-- tuple(list) -/
theorem vc_tuple {a : Addr} {vs : List V} (e : H a = some (.list vs)) (q : ∀ b, C.lo ≤ b → H b = Option.none → Q (.loc b) (upd H b (.tuple vs))) : VCall C (.type "tuple") [.loc a] ρ H Q := by
  intro us hus A s hA R
  cases hus with
  | cons x r =>
    cases r
    cases isV_loc x
    obtain ⟨its, hl, hx, hz⟩ := R.view a _ e
    refine call_tuple_list hl.isList (fun h' hk => ?_) (few hx hz)
    exact Done.above (o := .tuple vs) R (fun b o e => Heap.get?_push_of_some _ (hk b o e)) (fun b o e => Heap.lt_size (hk b o e)) (obj_tuple (Heap.get?_push_size _ rfl) hx hz) q s.toks
theorem vc_isinstance_str {x : Str} (q : Q (.bool true) H) : VCall C (.builtin "isinstance") [.str x, .typ "str"] ρ H Q := by
  intro us hus A s hA R
  cases hus with
  | cons a r =>
    cases r with
    | cons b r =>
      cases r
      obtain ⟨t, rfl, _⟩ := isV_str a
      cases isV_typ b
      exact call_isinstance (isinstance_true (Tx := "str") (by rfl) (by rfl)) ⟨typeIs_str _ _ _, Done.v R rfl q s.toks⟩
theorem vc_type_list {a : Addr} {vs : List V} (e : H a = some (.list vs)) (q : Q (.typ "list") H) : VCall C (.type "type") [.loc a] ρ H Q := by
  intro us hus A s hA R
  cases hus with
  | cons x r =>
    cases r
    cases isV_loc x
    obtain ⟨its, hl, hx, hz⟩ := R.view a _ e
    exact call_type_of hl.isList.typeIs (by decide) (Done.v R rfl q s.toks)
/-- a text times a number -/
theorem bok_mul_str {x : Str} {n : Int} (h0 : 1 ≤ n) (h1 : n ≤ 1000) (hx : x.length ≤ 1000) (q : PyData.strOk (Txt.mul x n) = true → Q (.str (Txt.mul x n)) H) : BOK C .Mult (.str x) (.int n) ρ H Q := by
  intro u u' a b A s hA R
  obtain ⟨t, rfl, ok⟩ := isV_str a
  obtain ⟨t', rfl⟩ := isV_int b
  have okm : PyData.strOk (Txt.mul x n) = true := by
    unfold Txt.mul
    rw [if_neg (by omega)]
    split
    · exact ok
    · unfold PyData.strOk at ok ⊢
      rw [Array.all_eq_true'] at ok ⊢
      intro c hc
      rw [← Array.mem_toList_iff, foldl_replicate_append] at hc
      simp only [List.nil_append, List.mem_flatten] at hc
      obtain ⟨l, hl, hc⟩ := hc
      rw [List.eq_of_mem_replicate hl] at hc
      exact ok c (Array.mem_toList_iff.mp hc)
  refine SB.mul ⟨?_, ?_, ?_⟩ fun t' k => Done.v R (abs_str okm) (q okm) k
  · have h2 : ¬ (n < -(2 ^ 63 : Int)) := by omega
    have h3 : ¬ (n ≥ 2 ^ 63) := by omega
    simp only [h2, h3, decide_false, Bool.or_self]
  · intro _ _ h
    have h2 : (2 ^ 63 - 1) / n ≥ 1000 := by
      refine (Int.le_ediv_iff_mul_le (by omega)).mpr ?_
      omega
    omega
  · intro _ _
    unfold Builtin.Str.tooLong
    have : x.length * n.toNat ≤ 1000 * 1000 := Nat.mul_le_mul hx (by omega)
    simp only [decide_eq_false_iff_not, Nat.not_lt]
    exact Nat.le_trans this (by decide)
end
end Mine
end
section
set_option maxRecDepth 100000
set_option Elab.async false
set_option linter.unusedVariables false
namespace Mine
open PySem PySem.Spec PyProof.Rows PySem.SeqAt
section
variable {C : Cx} {ρ : EV} {H H' : HV} {A : Around} {s : Shared} {Q : V → HV → Prop}
/-- a method of a text, with one argument -/
theorem ev_MethS {o elt : Expr} {name : Str} {id : String} {apos pos : Pos} (slot : Slot "str" name id) (hty : typeOf (.builtin id) = pure (.type "method_descriptor"))
    (h : Ev C o ρ H fun a H₁ => ∃ x, a = .str x ∧ Ev C elt ρ H₁ fun v H₂ => VCall C (.builtin id) [.str x, v] ρ H₂ Q)
    (hbase : ∀ env, attributeBase o name env (eval o env) = eval o env := by intro _; rfl)
    (hfew : ∀ env, ((backTo pos (starEach [elt] env)).all (fun x => !x.1) && (backToKw pos (keywordEach [] env)).all (fun x => x.1.isSome)
      && decide (([elt] : List Expr).length + ([] : List Keyword).length + (if ([] : List Keyword).isEmpty then 0 else 1) < 30)) = true := by intro _; rfl)
    (hline : (apos.endLine == pos.line) = true := by rfl)
    (htrees : ∀ env, backTo pos (starEach [elt] env) = [(false, eval elt env)] := by intro _; rfl) :
    Ev C (.Call (.Attribute o name apos) [elt] [] pos) ρ H Q := by
  intro A s hA R
  refine wpAny_Call_method (hbase _) (hfew _) hline F.plainAttrs_str slot hty (h.use hA R fun u v s₁ H₁ a K R₁ G q => ?_)
  obtain ⟨x, rfl, q⟩ := q
  have a' := a
  obtain ⟨t, rfl, ok⟩ := isV_str a
  refine ⟨typeIs_str _ _ _, (fun _ e => nomatch e), ?_⟩
  rw [htrees]
  refine Calls.callWith_builtin rfl (Calls.evalArgs_plain (Calls.spliced_cons (q.use hA R₁ fun u' v' s₂ H₂ b K' R₂ G' q' => Calls.spliced_nil ?_)))
  exact wpAny_mono (q' _ (.cons a' (.cons b .nil)) A s₂ hA R₂) (fun _ _ d => (d.trans K' G').trans K G) fun _ _ e => e
/-- a method of a list, with one argument -/
theorem ev_MethL {o elt : Expr} {name : Str} {id : String} {apos pos : Pos} (slot : Slot "list" name id) (hty : typeOf (.builtin id) = pure (.type "method_descriptor"))
    (h : Ev C o ρ H fun a H₁ => ∃ b vs, a = .loc b ∧ H₁ b = some (.list vs) ∧ Ev C elt ρ H₁ fun v H₂ => VCall C (.builtin id) [.loc b, v] ρ H₂ Q)
    (hbase : ∀ env, attributeBase o name env (eval o env) = eval o env := by intro _; rfl)
    (hfew : ∀ env, ((backTo pos (starEach [elt] env)).all (fun x => !x.1) && (backToKw pos (keywordEach [] env)).all (fun x => x.1.isSome)
      && decide (([elt] : List Expr).length + ([] : List Keyword).length + (if ([] : List Keyword).isEmpty then 0 else 1) < 30)) = true := by intro _; rfl)
    (hline : (apos.endLine == pos.line) = true := by rfl)
    (htrees : ∀ env, backTo pos (starEach [elt] env) = [(false, eval elt env)] := by intro _; rfl) :
    Ev C (.Call (.Attribute o name apos) [elt] [] pos) ρ H Q := by
  intro A s hA R
  refine wpAny_Call_method (hbase _) (hfew _) hline F.plainAttrs_list slot hty (h.use hA R fun u v s₁ H₁ a K R₁ G q => ?_)
  obtain ⟨x, vs, rfl, hx, q⟩ := q
  have a' := a
  cases isV_loc a
  obtain ⟨its, hl, _⟩ := R₁.view x _ hx
  refine ⟨hl.isList.typeIs, (fun b e => by cases e; obtain ⟨n, ho⟩ := hl; exact ⟨_, ho, rfl⟩), ?_⟩
  rw [htrees]
  refine Calls.callWith_builtin rfl (Calls.evalArgs_plain (Calls.spliced_cons (q.use hA R₁ fun u' v' s₂ H₂ b K' R₂ G' q' => Calls.spliced_nil ?_)))
  exact wpAny_mono (q' _ (.cons a' (.cons b .nil)) A s₂ hA R₂) (fun _ _ d => (d.trans K' G').trans K G) fun _ _ e => e
theorem strOk_iff {x : Str} : PyData.strOk x = true ↔ ∀ c ∈ x.cps.toList, c < 0x110000 := by
  unfold PyData.strOk
  rw [Array.all_eq_true']
  simp [Array.mem_toList_iff]
theorem join_ok {sep : Str} (hs : PyData.strOk sep = true) : ∀ {ys : List Str}, (∀ y ∈ ys, PyData.strOk y = true) → PyData.strOk (Str.join sep ys) = true
  | [], _ => by show PyData.strOk Str.empty = true; decide +kernel
  | [y], h => h y (List.mem_cons_self ..)
  | y :: z :: r, h => by
    show PyData.strOk (y ++ sep ++ Str.join sep (z :: r)) = true
    exact strOk_append (strOk_append (h y (List.mem_cons_self ..)) hs) (join_ok hs fun a ha => h a (List.mem_cons_of_mem _ ha))
theorem vc_join {x : Str} {a : Addr} {ys : List Str} (e : H a = some (.list (strsV ys))) (hx : x.length ≤ 16) (hw : (ys.map (·.length)).sum + ys.length ≤ 1048576) (q : Q (.str (Str.join x ys)) H) : VCall C (.builtin "str.join") [.str x, .loc a] ρ H Q := by
  intro us hus A s hA R
  cases hus with
  | cons u r =>
    cases r with
    | cons b r =>
      cases r
      obtain ⟨t, rfl, ok⟩ := isV_str u
      cases isV_loc b
      obtain ⟨its, hl, hx', hz⟩ := R.view a _ e
      obtain ⟨hS, oks⟩ := strsAre_of hx'
      refine join_listW hl.isList (by simpa using hS) hx hw fun t' k => Done.v (v := .str (Str.join x ys)) R ?_ ?_ k
      · have : Txt.join x ys = Str.join x ys := StrLaws.glued_eq_join x ys
        rw [this]; exact abs_str (join_ok ok oks)
      · exact q
theorem split_ok {x y : Str} (hx : PyData.strOk x = true) : ∀ p ∈ Txt.split x y, PyData.strOk p = true := by
  intro p hp
  rw [strOk_iff] at hx ⊢
  intro c hc
  refine hx c ?_
  have := StrLaws.join_split x y
  rw [← this]
  clear this hx
  revert hp
  generalize Txt.split x y = l
  intro hp
  have key : ∀ l : List Str, p ∈ l → c ∈ (Str.join y l).cps.toList := by
    intro l
    induction l with
    | nil => intro h; cases h
    | cons a r ih =>
      intro h
      cases r with
      | nil =>
        rw [List.mem_singleton] at h; subst h; exact hc
      | cons b r =>
        show c ∈ (a ++ y ++ Str.join y (b :: r)).cps.toList
        have e : (a ++ y ++ Str.join y (b :: r)).cps.toList = a.cps.toList ++ y.cps.toList ++ (Str.join y (b :: r)).cps.toList := by
          show (a.cps ++ y.cps ++ (Str.join y (b :: r)).cps).toList = _
          simp
        rw [e]
        rcases List.mem_cons.mp h with rfl | h
        · simp [hc]
        · have := ih h; simp [this]
  exact key l hp
theorem vc_split {x : Str} {c : Nat} (hz : x.length ≤ 1000000) (q : ∀ b, C.lo ≤ b → H b = Option.none → Q (.loc b) (upd H b (.list (strsV (Txt.split x ⟨#[c]⟩))))) : VCall C (.builtin "str.split") [.str x, .str ⟨#[c]⟩] ρ H Q := by
  intro us hus A s hA R
  cases hus with
  | cons u r =>
    cases r with
    | cons b r =>
      cases r
      obtain ⟨t, rfl, ok⟩ := isV_str u
      obtain ⟨t', rfl, ok'⟩ := isV_str b
      have hlen : (Txt.split x ⟨#[c]⟩).length ≤ 1048576 := by
        have := split_weight x ⟨#[c]⟩ (Nat.le_refl 1)
        omega
      have one : [x] = Txt.split x ⟨#[c]⟩ → Done C isV ρ H s Q (.ref s.heap.objs.size) { s with heap := s.heap.push { cls := .type "list", data := .seq [Value.str x t].toArray } } := fun e => by
        refine Done.new (o := .list (strsV (Txt.split x ⟨#[c]⟩))) R (fun _ _ e => Heap.get?_push_of_some _ e) (Nat.le_refl _) ?_ q s.toks
        rw [← e]
        exact obj_list (C := C) (Heap.get?_push_size _ rfl) (.cons (abs_str ok) .nil) (by show 1 ≤ 1048576; decide)
      cases h1 : (decide (x.length < (⟨#[c]⟩ : Str).length) || decide (Builtin.Str.strKind x < Builtin.Str.strKind ⟨#[c]⟩))
      · cases hf : (Builtin.Str.occurrences x ⟨#[c]⟩ 0 x.length (x.length + 1)).isEmpty
        · have e : Txt.split x ⟨#[c]⟩ = Builtin.Str.partsBetween x (Builtin.Str.occurrences x ⟨#[c]⟩ 0 x.length (x.length + 1)) (⟨#[c]⟩ : Str).length := by
            unfold Txt.split; rw [if_neg (ne_true_of_eq_false h1), if_neg (ne_true_of_eq_false hf)]
          refine call_meets F.slot_str_split (typeIs_str _ _ _) F.entry_str_split (F.args_str_split_2 _ _) (meets_str_split_sep x ⟨#[c]⟩ t t' h1 rfl hf (Nat.le_trans hz (by decide)) (by rw [← e]; exact Nat.le_trans hlen (by decide))) ?_
          show Done C isV ρ H s Q _ _
          refine Done.new (o := .list (strsV (Txt.split x ⟨#[c]⟩))) R (fun _ _ e => Heap.get?_push_of_some _ e) (Nat.le_refl _) ?_ q _
          refine obj_list (C := C) (Heap.get?_push_size _ rfl) ?_ (by simpa using hlen)
          rw [e, strsFrom_eq]
          have oks : ∀ p ∈ Builtin.Str.partsBetween x (Builtin.Str.occurrences x ⟨#[c]⟩ 0 x.length (x.length + 1)) (⟨#[c]⟩ : Str).length, PyData.strOk p = true := fun p hp => split_ok ok p (e ▸ hp)
          revert oks
          generalize Builtin.Str.partsBetween x (Builtin.Str.occurrences x ⟨#[c]⟩ 0 x.length (x.length + 1)) (⟨#[c]⟩ : Str).length = l
          generalize s.toks = k
          intro oks
          induction l generalizing k with
          | nil => exact .nil
          | cons p l ih => exact .cons (abs_str (oks p (List.mem_cons_self ..))) (ih _ fun a ha => oks a (List.mem_cons_of_mem _ ha))
        · have e : [x] = Txt.split x ⟨#[c]⟩ := by unfold Txt.split; rw [if_neg (ne_true_of_eq_false h1), if_pos hf]
          exact call_meets F.slot_str_split (typeIs_str _ _ _) F.entry_str_split (F.args_str_split_2 _ _) (meets_str_split_not_found x ⟨#[c]⟩ t t' h1 rfl hf) (one e)
      · have e : [x] = Txt.split x ⟨#[c]⟩ := by unfold Txt.split; rw [if_pos h1]
        exact call_meets F.slot_str_split (typeIs_str _ _ _) F.entry_str_split (F.args_str_split_2 _ _) (meets_str_split_cannot_occur x ⟨#[c]⟩ t t' h1) (one e)
end
end Mine
end
section
set_option maxRecDepth 100000
set_option Elab.async false
set_option linter.unusedVariables false
namespace Mine
open PySem PySem.Spec PyProof.Rows
theorem fm0 (c : Int) {n : Int} (h : 0 < n) : 0 ≤ c.fmod n := Int.fmod_nonneg_of_pos _ h
theorem fm1 (c : Int) {n : Int} (h : 0 < n) : c.fmod n < n := Int.fmod_lt_of_pos _ h
/-- a statement with a word behind it -/
theorem ex_mid {C : Cx} {st : Stmt} {ρ : EV} {H : HV} {Q : Fl → EV → HV → Prop} (P : EV → HV → Prop) (h : Ex C st ρ H fun fl ρ₁ H₁ => match fl with | .next => P ρ₁ H₁ | fl => Q fl ρ₁ H₁)
    (k : ∀ ρ₁ H₁, P ρ₁ H₁ → Q .next ρ₁ H₁) : Ex C st ρ H Q :=
  fun A s hA R => wpAny_mono (h A s hA R) (fun f s' ⟨fl, ρ', H', a, b, c, d⟩ => ⟨fl, ρ', H', a, b, c, by cases fl <;> first | exact k _ _ d | exact d⟩) fun _ _ e => e
theorem isV_mk {u : Value} {x : Str} {t : Tok} (hu : u = Value.str x t) (ok : PyData.strOk x = true) : isV u (.str x) := by rw [hu]; exact abs_str ok
/-! a text of words with single blanks between reads back as its words -/
theorem cut_one {c : Nat} : ∀ {p y a b : List Nat}, c ∉ p → c ∉ y → p ++ c :: a = y ++ c :: b → p = y ∧ a = b
  | [], [], a, b, _, _, h => by simp at h; exact ⟨rfl, h⟩
  | [], z :: y, a, b, _, hy, h => by simp at h; exact absurd h.1 (fun e => hy (by simp [e]))
  | x :: p, [], a, b, hp, _, h => by simp at h; exact absurd h.1 (fun e => hp (by simp [e]))
  | x :: p, z :: y, a, b, hp, hy, h => by
    simp only [List.cons_append, List.cons.injEq] at h
    obtain ⟨h1, h2⟩ := cut_one (fun e => hp (List.mem_cons_of_mem _ e)) (fun e => hy (List.mem_cons_of_mem _ e)) h.2
    exact ⟨by rw [h.1, h1], h2⟩
theorem join_cps (c : Nat) (p q : Str) (r : List Str) : (Str.join ⟨#[c]⟩ (p :: q :: r)).cps.toList = p.cps.toList ++ c :: (Str.join ⟨#[c]⟩ (q :: r)).cps.toList := by
  show (p.cps ++ #[c] ++ (Str.join ⟨#[c]⟩ (q :: r)).cps).toList = _
  simp
theorem join_inj {c : Nat} : ∀ {ps ys : List Str}, ps ≠ [] → ys ≠ [] → (∀ p ∈ ps, c ∉ p.cps.toList) → (∀ y ∈ ys, c ∉ y.cps.toList) → Str.join ⟨#[c]⟩ ps = Str.join ⟨#[c]⟩ ys → ps = ys
  | [], _, h, _, _, _, _ => absurd rfl h
  | _, [], _, h, _, _, _ => absurd rfl h
  | [p], [y], _, _, _, _, e => by
    have e : p = y := e
    rw [e]
  | [p], y :: z :: r, _, _, hp, _, e => by
    exfalso
    have e := congrArg (fun s : Str => s.cps.toList) e
    simp only [join_cps] at e
    have e : p.cps.toList = _ := e
    exact hp p (List.mem_cons_self ..) (by rw [e]; simp)
  | p :: q :: r, [y], _, _, _, hy, e => by
    exfalso
    have e := congrArg (fun s : Str => s.cps.toList) e
    simp only [join_cps] at e
    have e : _ = y.cps.toList := e
    exact hy y (List.mem_cons_self ..) (by rw [← e]; simp)
  | p :: q :: r, y :: z :: t, _, _, hp, hy, e => by
    have e := congrArg (fun s : Str => s.cps.toList) e
    simp only [join_cps] at e
    obtain ⟨h1, h2⟩ := cut_one (hp p (List.mem_cons_self ..)) (hy y (List.mem_cons_self ..)) e
    have h3 := join_inj (ps := q :: r) (ys := z :: t) (by simp) (by simp) (fun a ha => hp a (List.mem_cons_of_mem _ ha)) (fun a ha => hy a (List.mem_cons_of_mem _ ha)) (str_ext h2)
    rw [str_ext h1, h3]
theorem split_ne (x : Str) (c : Nat) : Txt.split x ⟨#[c]⟩ ≠ [] := by
  unfold Txt.split
  split
  · simp
  · split
    · simp
    · rw [StrLaws.partsBetween_eq]
      obtain ⟨p, r, e⟩ := StrLaws.partsFrom_ne x (⟨#[c]⟩ : Str).length 0 (Builtin.Str.occurrences x ⟨#[c]⟩ 0 x.length (x.length + 1))
      rw [e]; simp
theorem split_of_join {c : Nat} {ys : List Str} (hne : ys ≠ []) (hf : ∀ y ∈ ys, c ∉ y.cps.toList) : Txt.split (Str.join ⟨#[c]⟩ ys) ⟨#[c]⟩ = ys :=
  join_inj (split_ne _ _) hne (StrLaws.split_free _ c) hf (StrLaws.join_split _ _)
end Mine
end
section
set_option maxRecDepth 100000
set_option Elab.async false
set_option linter.unusedVariables false
namespace Mine
open PySem PySem.Spec PyProof.Rows
/-! grammars in the heap's view -/
abbrev Gram := List (Str × List Str)
inductive RulesAt (H : HV) (P : Addr → Prop) : List Addr → Gram → Prop
  | nil : RulesAt H P [] []
  | cons {t b : Addr} {h : Str} {bd : List Str} {ts : List Addr} {g : Gram} : P t → P b → H t = some (.tuple [.str h, .loc b]) → H b = some (.list (strsV bd)) → RulesAt H P ts g → RulesAt H P (t :: ts) ((h, bd) :: g)
section
variable {H H' : HV} {P P' : Addr → Prop} {ts ts' : List Addr} {g g' : Gram}
theorem RulesAt.length (x : RulesAt H P ts g) : ts.length = g.length := by
  induction x with
  | nil => rfl
  | cons _ _ _ _ _ ih => simp [ih]
theorem RulesAt.imp (x : RulesAt H P ts g) (h : ∀ b o, P b → H b = some o → H' b = some o) (p : ∀ b, P b → P' b) : RulesAt H' P' ts g := by
  induction x with
  | nil => exact .nil
  | cons a b c d _ ih => exact .cons (p _ a) (p _ b) (h _ _ a c) (h _ _ b d) ih
theorem RulesAt.le (x : RulesAt H P ts g) (h : H.le H') : RulesAt H' P ts g := x.imp (fun b o _ e => h b o e) fun _ p => p
theorem RulesAt.append (x : RulesAt H P ts g) (y : RulesAt H P ts' g') : RulesAt H P (ts ++ ts') (g ++ g') := by
  induction x with
  | nil => exact y
  | cons a b c d _ ih => exact .cons a b c d ih
theorem RulesAt.get (x : RulesAt H P ts g) {i : Nat} {h : Str} {bd : List Str} (e : g[i]? = some (h, bd)) : ∃ t b, ts[i]? = some t ∧ P t ∧ P b ∧ H t = some (.tuple [.str h, .loc b]) ∧ H b = some (.list (strsV bd)) := by
  induction x generalizing i with
  | nil => simp at e
  | @cons t b h' bd' ts g p q c d _ ih =>
    cases i with
    | zero => simp at e; obtain ⟨rfl, rfl⟩ := e; exact ⟨t, b, rfl, p, q, c, d⟩
    | succ i => simpa using ih (by simpa using e)
theorem RulesAt.get' (x : RulesAt H P ts g) {i : Nat} {v : V} (e : (ts.map V.loc)[i]? = some v) : ∃ t b h bd, v = .loc t ∧ g[i]? = some (h, bd) ∧ P t ∧ P b ∧ H t = some (.tuple [.str h, .loc b]) ∧ H b = some (.list (strsV bd)) := by
  rw [List.getElem?_map] at e
  obtain ⟨t, ht, rfl⟩ := Option.map_eq_some_iff.mp e
  have hlt : i < g.length := by rw [← x.length]; exact (List.getElem?_eq_some_iff.mp ht).1
  obtain ⟨t', b, h1, h2⟩ := x.get (i := i) (h := g[i].1) (bd := g[i].2) (by simp [hlt])
  rw [ht] at h1; cases h1
  exact ⟨t, b, _, _, rfl, by simp [hlt], h2⟩
/-- the grammar g stands at R -/
def GrAt (H : HV) (P : Addr → Prop) (R : Addr) (g : Gram) : Prop := ∃ ts : List Addr, H R = some (.list (ts.map V.loc)) ∧ RulesAt H P ts g
theorem GrAt.le {R : Addr} (x : GrAt H P R g) (h : H.le H') : GrAt H' P R g := let ⟨ts, a, b⟩ := x; ⟨ts, h _ _ a, b.le h⟩
def ruleD (r : Str × List Str) : PyData := .tuple [.str r.1, .list (r.2.map PyData.str)]
def gramD (g : Gram) : PyData := .list (g.map ruleD)
theorem ruleD_inj (r r' : Str × List Str) (h : ruleD r = ruleD r') : r = r' := by
  unfold ruleD at h
  have h := PyData.tuple.inj h
  simp only [List.cons.injEq, and_true] at h
  obtain ⟨a, b⟩ := r; obtain ⟨c, d⟩ := r'
  have h1 : a = c := PyData.str.inj h.1
  have h2 : b = d := strs_inj.mp h.2
  rw [h1, h2]
theorem gramD_inj {g g' : Gram} : gramD g = gramD g' ↔ g = g' := list_inj ruleD_inj
theorem RulesAt.den (x : RulesAt H P ts g) : DenAll H 2 (ts.map V.loc) (g.map ruleD) := by
  induction x with
  | nil => exact .nil
  | cons _ _ c d _ ih => exact .cons (.tuple c (.cons .str (.cons (.list d (den_strs 0 _)) .nil))) ih
theorem GrAt.den {R : Addr} (x : GrAt H P R g) : Den H 3 (.loc R) (gramD g) := let ⟨_, a, b⟩ := x; .list a b.den
theorem cok_ne_gram {C : Cx} {ρ : EV} {Q : V → HV → Prop} {R R' : Addr} (x : GrAt H P R g) (y : GrAt H P' R' g') (q : Q (.bool (!decide (g = g'))) H) : COK C .NotEq (.loc R) (.loc R') ρ H Q :=
  cok_ne_den (n := 3) (m := 3) x.den y.den (by rw [same_dec gramD_inj]; exact q)
end
/-- a new object, or one turned, leaves what is elsewhere -/
theorem upd_keep {H : HV} {b d : Addr} {o o' : AO} (h : d ≠ b) (e : H d = some o) : upd H b o' d = some o := by rw [upd_ne _ _ h]; exact e
theorem HV.le.none {H H' : HV} (h : H.le H') {b : Addr} (n : H' b = none) : H b = none := by
  cases e : H b with
  | none => rfl
  | some o => rw [h b o e] at n; cases n
theorem rng_get {a : Int} {n i : Nat} {v : V} (h : (Src.rng a n).vals[i]? = some v) : i < n ∧ v = .int (a + i) := by
  have hi : i < n := by
    have := (List.getElem?_eq_some_iff.mp h).1
    simpa [Src.vals] using this
  refine ⟨hi, ?_⟩
  simp [Src.vals, hi] at h; exact h.symm
theorem rng_len (a : Int) (n : Nat) : (Src.rng a n).vals.length = n := by simp [Src.vals]
theorem strs_get {a : Addr} {ss : List Str} {i : Nat} {v : V} (h : (Src.list a (strsV ss)).vals[i]? = some v) : ∃ x, ss[i]? = some x ∧ v = .str x := by
  have h : (strsV ss)[i]? = some v := h
  rw [List.getElem?_map] at h
  obtain ⟨x, hx, rfl⟩ := Option.map_eq_some_iff.mp h
  exact ⟨x, hx, rfl⟩
theorem take_snoc {α : Type} {l : List α} {i : Nat} {x : α} (h : l[i]? = some x) : l.take (i + 1) = l.take i ++ [x] := by rw [List.take_add_one, h]; rfl
end Mine
end
section
set_option maxRecDepth 100000
set_option Elab.async false
set_option linter.unusedVariables false
namespace Mine
open PySem PySem.Spec PyProof.Rows
/-! replaying a derivation, plain -/
def plc (hs fm : List Str) : Nat := (fm.takeWhile fun s => decide (s ∉ hs)).length
theorem plc_le (hs fm : List Str) : plc hs fm ≤ fm.length := by
  induction fm with
  | nil => simp [plc]
  | cons x fm ih =>
    unfold plc at *
    rw [List.takeWhile_cons]
    split
    · simpa using ih
    · simp
theorem plc_lt {hs fm : List Str} {p : Nat} (h : p < plc hs fm) : ∃ x, fm[p]? = some x ∧ x ∉ hs := by
  induction fm generalizing p with
  | nil => simp [plc] at h
  | cons y fm ih =>
    unfold plc at h ih
    rw [List.takeWhile_cons] at h
    split at h
    · rename_i hy
      cases p with
      | zero => exact ⟨y, rfl, by simpa using hy⟩
      | succ p => simpa using ih (by simpa using h)
    · simp at h
theorem plc_at {hs fm : List Str} (h : plc hs fm < fm.length) : ∃ x, fm[plc hs fm]? = some x ∧ x ∈ hs := by
  induction fm with
  | nil => simp at h
  | cons y fm ih =>
    unfold plc at h ih ⊢
    rw [List.takeWhile_cons] at h ⊢
    by_cases hy : y ∈ hs
    · rw [if_neg (by simpa using hy)]; exact ⟨y, rfl, hy⟩
    · rw [if_pos (by simpa using hy)] at h ⊢
      simpa using ih (by simpa using h)
theorem plc_mid {hs a b : List Str} {x : Str} (h : ∀ s ∈ a, s ∉ hs) (hx : x ∈ hs) : plc hs (a ++ x :: b) = a.length := by
  induction a with
  | nil => simp [plc, hx]
  | cons y a ih =>
    have hy : y ∉ hs := h y (List.mem_cons_self ..)
    have := ih fun s hs' => h s (List.mem_cons_of_mem _ hs')
    unfold plc at this ⊢
    simp only [List.cons_append, List.takeWhile_cons]
    rw [if_pos (by simpa using hy)]
    simpa using this
theorem plc_end {hs a : List Str} (h : ∀ s ∈ a, s ∉ hs) : plc hs a = a.length := by
  induction a with
  | nil => simp [plc]
  | cons y a ih =>
    have hy : y ∉ hs := h y (List.mem_cons_self ..)
    have := ih fun s hs' => h s (List.mem_cons_of_mem _ hs')
    unfold plc at this ⊢
    rw [List.takeWhile_cons, if_pos (by simpa using hy)]
    simpa using this
/-- the form behind the steps, or none -/
def rep (g : Gram) (hs : List Str) : List Str → List Int → Option (List Str)
  | fm, [] => some fm
  | fm, k :: ks =>
    if plc hs fm = fm.length ∨ k < 0 ∨ k ≥ (g.length : Int) ∨ (g[k.toNat]?).map (·.1) ≠ fm[plc hs fm]? then none
    else rep g hs (fm.take (plc hs fm) ++ ((g[k.toNat]?).getD ("", [])).2 ++ fm.drop (plc hs fm + 1)) ks
theorem rep_snoc (g : Gram) (hs : List Str) (k : Int) : ∀ (ks : List Int) (fm : List Str), rep g hs fm (ks ++ [k]) = (rep g hs fm ks).bind fun f => rep g hs f [k]
  | [], fm => rfl
  | j :: ks, fm => by
    show rep g hs fm (j :: (ks ++ [k])) = _
    rw [rep]
    conv => rhs; rw [rep]
    split
    · rfl
    · exact rep_snoc g hs k ks _
def OptAt (H : HV) (v : V) : Option (List Str) → Prop
  | none => v = .none
  | some f => ∃ b, v = .loc b ∧ H b = some (.list (strsV f))
def optD : Option (List Str) → PyData
  | none => .none
  | some f => .list (f.map PyData.str)
theorem optD_inj {o o' : Option (List Str)} : optD o = optD o' ↔ o = o' := by
  cases o <;> cases o' <;> simp only [optD, reduceCtorEq, Option.some.injEq]
  exact strs_inj
theorem OptAt.den {H : HV} {v : V} {o : Option (List Str)} (x : OptAt H v o) : Den H 1 v (optD o) := by
  cases o with
  | none => have : v = .none := x; subst this; exact .none
  | some f => obtain ⟨b, rfl, e⟩ := x; exact .list e (den_strs 0 f)
theorem OptAt.le {H H' : HV} {v : V} {o : Option (List Str)} (x : OptAt H v o) (h : H.le H') : OptAt H' v o := by
  cases o with
  | none => exact x
  | some f => obtain ⟨b, rfl, e⟩ := x; exact ⟨b, rfl, h _ _ e⟩
theorem OptAt.turn {H : HV} {v : V} {o : Option (List Str)} {b : Addr} {ob : AO} (x : OptAt H v o) (h : ∀ d, v = .loc d → d ≠ b) : OptAt (upd H b ob) v o := by
  cases o with
  | none => exact x
  | some f => obtain ⟨d, rfl, e⟩ := x; exact ⟨d, rfl, upd_keep (h d rfl) e⟩
theorem cok_ne_opt {C : Cx} {ρ : EV} {H : HV} {Q : V → HV → Prop} {v v' : V} {o o' : Option (List Str)} (x : OptAt H v o) (y : OptAt H v' o') (q : Q (.bool (!decide (o = o'))) H) : COK C .NotEq v v' ρ H Q :=
  cok_ne_den (n := 1) (m := 1) x.den y.den (by rw [same_dec optD_inj]; exact q)
end Mine
namespace Mine
open PySem PySem.Spec PyProof.Rows
section
variable {C : Cx} {ρ : EV} {H H' : HV} {A : Around} {s : Shared}
/-- a comprehension stored in a name that is a cell -/
theorem ex_AssignCompC {elt iter : Expr} {x y : Str} {px py pos spos : Pos} {ifs : List Expr} {scope : Scope} {Q : Fl → EV → HV → Prop}
    (h : Its C iter ρ H fun src H₁ => ∃ Inv, CompOK C elt x ifs scope.names src ρ H₁ Inv ∧ ∀ ys H', Inv src.vals.length ys H' → ∀ a, C.lo ≤ a → H' a = Option.none → Q .next (put ρ y (.loc a)) (upd H' a (.list ys)))
    (hy : C.nms.lookup y = some .cell)
    (hf : scopeFits C.nms scope.names x = true := by rfl) (hkind : scope.kind = .function := by rfl) (hs : ∀ env v, foldedSetIterable iter env v = pure v := by intros; rfl) :
    Ex C (.Assign [.Name y py] (.ListComp elt [⟨.Name x px, iter, ifs, 0⟩] scope pos) spos) ρ H Q := by
  intro A s hA R
  have hswap : swapsWith (.ListComp elt [⟨.Name x px, iter, ifs, 0⟩] scope pos) (some (.Name y py)) spos.line C.env = pure false := by
    show pure (C.env.blockKind == .function && C.env.kindOf y == some .local && py.line == pos.line && !(scope.names.any fun (n, k) => n == y && (k == .local || k == .cell))) = (pure false : Sem Bool)
    have e2 : (C.env.kindOf y == some NameKind.local) = false := by rw [R.kindOf, hy]; rfl
    rw [e2]; simp
  exact wpAny_Assign_Name (TG.use (ev_ListComp (Q := fun v H₁ => Q .next (put ρ y v) H₁) h hf hkind hs) hA R fun u v s₁ H₁ a K R₁ G q => store_name (.inr hy) R₁ a fun s' K' R' => ⟨.next, _, H₁, trivial, (SKp.of_kp K G).trans K', R', q⟩) hswap
end
theorem ints_get {a : Addr} {ns : List Int} {i : Nat} {v : V} (h : (Src.list a (intsV ns)).vals[i]? = some v) : ∃ x, ns[i]? = some x ∧ v = .int x := by
  have h : (intsV ns)[i]? = some v := h
  rw [List.getElem?_map] at h
  obtain ⟨x, hx, rfl⟩ := Option.map_eq_some_iff.mp h
  exact ⟨x, hx, rfl⟩
theorem le_turn {H H' : HV} {b : Addr} {o : AO} (h : H.le H') (n : H b = none) : H.le (upd H' b o) := fun a o' e => by
  rw [upd_ne _ _ (ne_of_new e n)]; exact h a o' e
end Mine
end
section
open PySem PySem.W PyProof.Rows
set_option Elab.async false
set_option maxRecDepth 100000
set_option maxHeartbeats 8000000
namespace Mine
open_top hd for PySem.Challenge.rw_k18_0025
end Mine
end
section
set_option maxRecDepth 100000
set_option Elab.async false
set_option linter.unusedVariables false
namespace Mine
open PySem PySem.Spec PyProof.Rows
noncomputable abbrev K25 := Mine.hd.heap_39
variable {C : Cx} {H : HV} {Q : V → HV → Prop}
set_option maxHeartbeats 1000000
theorem fn_heads (G : Gd K25 C) : Fn C 21 ["g"] (bodyAt (K25 C.w.params) 21) (namesAt (K25 C.w.params) 21) (fdAt (K25 C.w.params) 21) :=
  fn_of G rfl rfl rfl rfl rfl rfl rfl rfl rfl rfl rfl rfl rfl rfl (fun vals h => match vals, h with | [_], _ => rfl) rfl rfl (of_decide_eq_true rfl)
theorem fn_replayed (G : Gd K25 C) : Fn C 28 ["g", "derivation"] (bodyAt (K25 C.w.params) 28) (namesAt (K25 C.w.params) 28) (fdAt (K25 C.w.params) 28) :=
  fn_of G rfl rfl rfl rfl rfl rfl rfl rfl rfl rfl rfl rfl rfl rfl (fun vals h => match vals, h with | [_, _], _ => rfl) rfl rfl (of_decide_eq_true rfl)
theorem fn_cell (G : Gd K25 C) : Fn C 37 ["script", "i"] (bodyAt (K25 C.w.params) 37) (namesAt (K25 C.w.params) 37) (fdAt (K25 C.w.params) 37) :=
  fn_of G rfl rfl rfl rfl rfl rfl rfl rfl rfl rfl rfl rfl rfl rfl (fun vals h => match vals, h with | [_, _], _ => rfl) rfl rfl (of_decide_eq_true rfl)
theorem fn_law (G : Gd K25 C) : Fn C 42 ["script"] (bodyAt (K25 C.w.params) 42) (namesAt (K25 C.w.params) 42) (fdAt (K25 C.w.params) 42) :=
  fn_of G rfl rfl rfl rfl rfl rfl rfl rfl rfl rfl rfl rfl rfl rfl (fun vals h => match vals, h with | [_], _ => rfl) rfl rfl (of_decide_eq_true rfl)
local macro_rules | `(tactic| w_left) => `(tactic| first
  | with_reducible refine exs_cons ?_
  | with_reducible refine exs_nil ?_
  | with_reducible refine ex_Return ?_
  | ((with_reducible refine ex_Assign ?k ?_ ?s); (case k => first | exact .inl rfl | exact .inr rfl); (case s => intros; exact rfl))
  | with_reducible refine ex_If ?_
  | ((with_reducible refine t_Compare ?_ ?m); (case m => exact rfl))
  | with_reducible refine t_Not ?_
  | with_reducible refine t_And ?_
  | with_reducible refine t_Or ?_
  | with_reducible refine t_and_cons ?_
  | with_reducible refine t_or_cons ?_
  | with_reducible refine t_and_nil ?_
  | with_reducible refine t_or_nil ?_
  | with_reducible refine ev_int ?_
  | ((with_reducible refine ev_str ?_ ?o); (case o => decide +kernel))
  | with_reducible refine ev_bool ?_
  | with_reducible refine ev_none ?_
  | ((with_reducible refine ev_Name (v := ?v) ?e ?_ ?d ?n); (case e => first | exact rfl | assumption); (case d => decide); (case n => decide))
  | with_reducible refine ev_BinOp ?_
  | ((with_reducible refine ev_Compare ?_ ?m); (case m => exact rfl))
  | with_reducible refine ev_SliceAll ?_
  | with_reducible refine ev_SliceUpto ?_
  | with_reducible refine ev_SliceFrom ?_
  | ((with_reducible refine ev_Sub ?_ ?m); (case m => intros; exact rfl))
  | with_reducible refine ev_List ?_
  | with_reducible refine ev_Tuple ?_
  | with_reducible refine ev_IfExp ?_
  | with_reducible refine ev_Not ?_
  | ((with_reducible refine args_cons ?_ ?m); (case m => intros; exact rfl))
  | with_reducible refine args_nil ?_
  | with_reducible refine bok_add_int ?_
  | with_reducible refine bok_sub_int ?_
  | ((with_reducible refine bok_mul_int ?m ?_); (case m => first | exact .of_left (by decide) | exact .of_right (by decide)))
  | with_reducible refine cok_eq_int ?_
  | with_reducible refine cok_ne_int ?_
  | with_reducible refine cok_lt_int ?_
  | with_reducible refine cok_gt_int ?_
  | with_reducible refine cok_le_int ?_
  | with_reducible refine cok_ge_int ?_
  | with_reducible refine cok_eq_str ?_
  | with_reducible refine cok_ne_str ?_
  | with_reducible refine tr_bool ?_
  | with_reducible refine tr_int ?_
  | with_reducible refine t_Name ?_
  | with_reducible refine t_Call ?_
  | with_reducible refine t_Sub ?_
  | ((with_reducible refine bok_mod ?n ?_); (case n => decide))
  | ((with_reducible refine bok_floordiv ?n ?m ?_); (case n => decide); (case m => decide))
  | ((with_reducible refine ev_CallB (id := ?id) ?g ?k ?_ ?hs ?hp ?hd); (case g => (refine Gd.blt (K := ?K1) ?G1 ?ge1 ?gv1 ?gn1); (case G1 => first | assumption | ((refine Gd.cast (C := ?Ca1) ?Ga1 ?ha1 ?hb1); (case Ga1 => assumption); (case ha1 => exact rfl); (case hb1 => exact rfl))); (case ge1 => exact rfl); (case gv1 => exact rfl); (case gn1 => decide)); (case k => exact rfl); (case hs => intro _; exact rfl); (case hp => intro _; exact rfl); (case hd => decide))
  | ((with_reducible refine ev_CallT (T := ?id) ?g ?k ?_ ?hs ?hp ?hd); (case g => (refine Gd.blt (K := ?K2) ?G2 ?ge2 ?gv2 ?gn2); (case G2 => first | assumption | ((refine Gd.cast (C := ?Ca2) ?Ga2 ?ha2 ?hb2); (case Ga2 => assumption); (case ha2 => exact rfl); (case hb2 => exact rfl))); (case ge2 => exact rfl); (case gv2 => exact rfl); (case gn2 => decide)); (case k => exact rfl); (case hs => intro _; exact rfl); (case hp => intro _; exact rfl); (case hd => decide))
  | ((with_reducible refine vc_len_list (vs := ?vs) ?e ?_); (case e => (first | assumption | rfl)))
  | ((with_reducible refine ev_Glob (u := ?u) (v := ?v) ?g ?k ?e ?_ ?d); (case g => (refine Gd.glob (K := ?K3) ?G3 ?ge3); (case G3 => first | assumption | ((refine Gd.cast (C := ?Ca3) ?Ga3 ?ha3 ?hb3); (case Ga3 => assumption); (case ha3 => exact rfl); (case hb3 => exact rfl))); (case ge3 => exact rfl)); (case k => exact rfl); (case e => first | exact rfl | ((refine isV_mk (x := ?xx) (t := ?tt) ?hu ?ok); (case hu => exact rfl); (case ok => decide +kernel))); (case d => decide))
  | ((with_reducible refine ev_CallF (fa := ?fa) (fd := ?fd) (params := ?ps) (body := ?bd) (nms := ?nn) ?F ?lim ?g ?k ?_ ?hs ?hp ?hd); (case g => (refine Gd.glob (K := ?K4) ?G4 ?ge4); (case G4 => first | assumption | ((refine Gd.cast (C := ?Ca4) ?Ga4 ?ha4 ?hb4); (case Ga4 => assumption); (case ha4 => exact rfl); (case hb4 => exact rfl))); (case ge4 => exact rfl)); (case F => first | ((refine fn_heads ?GF); (case GF => first | assumption | ((refine Gd.cast (C := ?CaF) ?GaF ?haF ?hbF); (case GaF => assumption); (case haF => exact rfl); (case hbF => exact rfl)))) | ((refine fn_replayed ?GF); (case GF => first | assumption | ((refine Gd.cast (C := ?CaF) ?GaF ?haF ?hbF); (case GaF => assumption); (case haF => exact rfl); (case hbF => exact rfl)))) | ((refine fn_cell ?GF); (case GF => first | assumption | ((refine Gd.cast (C := ?CaF) ?GaF ?haF ?hbF); (case GaF => assumption); (case haF => exact rfl); (case hbF => exact rfl))))); (case lim => (refine Gd.lim (K := ?K5) ?G5); (case G5 => first | assumption | ((refine Gd.cast (C := ?Ca5) ?Ga5 ?ha5 ?hb5); (case Ga5 => assumption); (case ha5 => exact rfl); (case hb5 => exact rfl)))); (case k => exact rfl); (case hs => intro _; exact rfl); (case hp => intro _; exact rfl); (case hd => decide))
  | ((with_reducible refine ev_CallF0 (fa := ?fa) (fd := ?fd) (body := ?bd) (nms := ?nn) ?F ?lim ?g ?k ?_ ?hd); (case g => (refine Gd.glob (K := ?K6) ?G6 ?ge6); (case G6 => first | assumption | ((refine Gd.cast (C := ?Ca6) ?Ga6 ?ha6 ?hb6); (case Ga6 => assumption); (case ha6 => exact rfl); (case hb6 => exact rfl))); (case ge6 => exact rfl)); (case F => first | ((refine fn_heads ?GF); (case GF => first | assumption | ((refine Gd.cast (C := ?CaF) ?GaF ?haF ?hbF); (case GaF => assumption); (case haF => exact rfl); (case hbF => exact rfl)))) | ((refine fn_replayed ?GF); (case GF => first | assumption | ((refine Gd.cast (C := ?CaF) ?GaF ?haF ?hbF); (case GaF => assumption); (case haF => exact rfl); (case hbF => exact rfl)))) | ((refine fn_cell ?GF); (case GF => first | assumption | ((refine Gd.cast (C := ?CaF) ?GaF ?haF ?hbF); (case GaF => assumption); (case haF => exact rfl); (case hbF => exact rfl))))); (case lim => (refine Gd.lim (K := ?K7) ?G7); (case G7 => first | assumption | ((refine Gd.cast (C := ?Ca7) ?Ga7 ?ha7 ?hb7); (case Ga7 => assumption); (case ha7 => exact rfl); (case hb7 => exact rfl)))); (case k => exact rfl); (case hd => decide))
  | ((with_reducible refine ev_Glob (u := ?u) (v := ?v) ?g ?k ?e ?_ ?d); (case g => (refine Gd.blt (K := ?K8) ?G8 ?ge8 ?gv8 ?gn8); (case G8 => first | assumption | ((refine Gd.cast (C := ?Ca8) ?Ga8 ?ha8 ?hb8); (case Ga8 => assumption); (case ha8 => exact rfl); (case hb8 => exact rfl))); (case ge8 => exact rfl); (case gv8 => exact rfl); (case gn8 => decide)); (case k => exact rfl); (case e => exact rfl); (case d => decide)))
theorem heads_ok {P : Addr → Prop} (G : Gd K25 C) (hk : 0 < C.k) {R : Addr} {g : Gram} (hg : GrAt H P R g) (hl : g.length ≤ 100)
    (q : ∀ H' b, H.le H' → H' b = some (.list (strsV (dd (g.map (·.1))))) → H b = none → C.lo ≤ b → Q (.loc b) H') :
    FCall C ["g"] (bodyAt (K25 C.w.params) 21) (namesAt (K25 C.w.params) 21) [.loc R] H Q := by
  refine ⟨hk, rfl, fun env lo hlo h2 => ?_⟩
  obtain ⟨ts, eR, rs⟩ := hg
  change Exs _ (_ :: _) _ _ _
  repeat w_left
  refine ⟨by decide, fun u hu nu => ?_⟩
  repeat w_left
  refine ex_For (.inl rfl) (its_list ?_)
  repeat w_left
  refine ⟨R, _, rfl, upd_old eR nu, ?_⟩
  refine ⟨fun i ρ' H' => ρ' "heads" = some (.loc u) ∧ H' = upd H u (.list (strsV (dd ((g.map (·.1)).take i)))), ⟨rfl, rfl⟩, ?_, ?_⟩
  · rintro i v ρ' H' hv ⟨r1, rfl⟩ ok
    obtain ⟨t, b, h, bd, rfl, hgi, _, _, et, eb⟩ := rs.get' hv
    have hx : (g.map (·.1))[i]? = some h := by rw [List.getElem?_map, hgi]; rfl
    repeat w_left
    refine sok_tuple (upd_old et nu) (by decide) rfl ?_
    repeat w_left
    refine cok_notin_strs (upd_at _ _ _) ?_
    repeat w_left
    by_cases hm : h ∈ dd ((g.map (·.1)).take i)
    · have e : dd ((g.map (·.1)).take (i + 1)) = dd ((g.map (·.1)).take i) := by rw [dd_take hx]; unfold dstep; rw [if_pos hm]
      rw [show (!decide (h ∈ dd ((g.map (·.1)).take i))) = false by simp [hm], if_neg (by decide)]
      repeat w_left
      exact ⟨⟨r1, by rw [e]⟩, ok⟩
    · have e : dd ((g.map (·.1)).take (i + 1)) = dd ((g.map (·.1)).take i) ++ [h] := by rw [dd_take hx]; unfold dstep; rw [if_neg hm]
      rw [show (!decide (h ∈ dd ((g.map (·.1)).take i))) = true by simp [hm], if_pos rfl]
      refine exs_cons (ex_append ?_)
      repeat w_left
      refine ⟨u, rfl, ⟨_, upd_at _ _ _⟩, ?_⟩
      repeat w_left
      refine sok_tuple (upd_old et nu) (by decide) rfl ?_
      refine ⟨_, upd_at _ _ _, hu, ?_, ?_⟩
      · have := dd_length ((g.map (·.1)).take i)
        simp at this ⊢; omega
      · repeat w_left
        refine ⟨⟨r1, ?_⟩, ?_⟩
        · rw [e]; funext d; unfold upd; split <;> simp
        · show upd _ u _ R = _
          have : R ≠ u := ne_of_new eR nu
          rw [upd_ne _ _ this]; exact ok
  · rintro ρ' H' ⟨r1, rfl⟩ ok
    have : (Src.list R (ts.map V.loc)).vals.length = (g.map (·.1)).length := by show (ts.map V.loc).length = _; rw [List.length_map, rs.length, List.length_map]
    rw [this, List.take_length]
    repeat w_left
    exact q _ u (le_upd nu) (upd_at _ _ _) nu (Nat.le_trans hlo hu)
theorem replayed_ok {P : Addr → Prop} (G : Gd K25 C) (hk : 1 < C.k) {R D : Addr} {g : Gram} {ds : List Int} (hg : GrAt H P R g) (hl : g.length ≤ 100) (hne : g ≠ []) (hb : ∀ r ∈ g, r.2.length ≤ 100) (hd : H D = some (.list (intsV ds))) (hdl : ds.length ≤ 100)
    (q : ∀ H' v, H.le H' → OptAt H' v (rep g (dd (g.map (·.1))) [(g.headD ("", [])).1] ds) → (∀ b, v = .loc b → H b = none) → Q v H') :
    FCall C ["g", "derivation"] (bodyAt (K25 C.w.params) 28) (namesAt (K25 C.w.params) 28) [.loc R, .loc D] H Q := by
  refine ⟨by omega, rfl, fun env lo hlo h2 => ?_⟩
  have hk0 : 0 < C.k - 1 := by omega
  change Exs _ (_ :: _) _ _ _
  repeat w_left
  refine heads_ok (by exact G.cast rfl rfl) hk0 hg hl fun H1 hh le1 eh nh lh => ?_
  generalize hhs : dd (g.map (·.1)) = hs at eh q
  obtain ⟨ts, eR, rs⟩ := hg
  obtain ⟨r0, gt, rfl⟩ := List.exists_cons_of_ne_nil hne
  obtain ⟨t0, b0, ht0, _, _, et0, eb0⟩ := rs.get (i := 0) (h := r0.1) (bd := r0.2) rfl
  repeat w_left
  refine sok_list (le1 _ _ eR) (by decide) (v := .loc t0) (by rw [show (0 : Int).toNat = 0 from rfl, List.getElem?_map, ht0]; rfl) ?_
  refine ev_int ?_
  refine sok_tuple (le1 _ _ et0) (by decide) rfl ?_
  repeat w_left
  refine ⟨by simp, fun f0 lf0 nf0 => ?_⟩
  have eR1 := upd_old (o' := .list [.str r0.1]) (le1 _ _ eR) nf0
  have ed1 := upd_old (o' := .list [.str r0.1]) (le1 _ _ hd) nf0
  have eh1 := upd_old (o' := .list [.str r0.1]) eh nf0
  have ef1 : upd H1 f0 (.list [.str r0.1]) f0 = some (.list (strsV [r0.1])) := upd_at ..
  have le2 := le1.trans (le_upd (o := .list [.str r0.1]) nf0)
  have nf0' : H f0 = none := le1.none nf0
  generalize upd H1 f0 (.list [.str r0.1]) = H2 at *
  have q' : ∀ H' v, H.le H' → OptAt H' v (rep (r0 :: gt) hs [r0.1] ds) → (∀ b, v = .loc b → H b = none) → Q v H' := q
  repeat w_left
  refine ex_For (.inl rfl) (its_list ?_)
  repeat w_left
  refine ⟨D, _, rfl, ed1, ?_⟩
  refine ⟨fun i ρ' H' => ρ' "heads" = some (.loc hh) ∧ ρ' "g" = some (.loc R) ∧ H2.le H' ∧ ∃ f fm, ρ' "form" = some (.loc f) ∧ H' f = some (.list (strsV fm)) ∧ H f = none ∧ fm.length ≤ 1 + 100 * i ∧ rep (r0 :: gt) hs fm (ds.drop i) = rep (r0 :: gt) hs [r0.1] ds,
    ⟨rfl, rfl, HV.le_refl _, f0, [r0.1], rfl, ef1, nf0', by simp, rfl⟩, ?_, ?_⟩
  · rintro i v ρ' H' hv ⟨n1, n2, le, f, fm, n3, ef, nf, fl, er⟩ ok
    have hv' : (intsV ds)[i]? = some v := hv
    rw [List.getElem?_map] at hv'
    obtain ⟨k, hkk, rfl⟩ := Option.map_eq_some_iff.mp hv'
    have hi : i < 100 := Nat.lt_of_lt_of_le (List.getElem?_eq_some_iff.mp hkk).1 hdl
    have hdrop : ds.drop i = k :: ds.drop (i + 1) := by
      have := (List.getElem?_eq_some_iff.mp hkk).1
      rw [List.drop_eq_getElem_cons this]
      congr 1
      exact (List.getElem?_eq_some_iff.mp hkk).2
    rw [hdrop] at er
    have ok' : H' D = some (.list (intsV ds)) := ok
    repeat w_left
    refine ex_mid (fun ρ₁ H₁ => H₁ = H' ∧ ρ₁ "heads" = some (.loc hh) ∧ ρ₁ "g" = some (.loc R) ∧ ρ₁ "form" = some (.loc f) ∧ ρ₁ "k" = some (.int k) ∧ ρ₁ "place" = some (.int (plc hs fm))) ?_ ?_
    · refine ex_While (fun n ρ₂ H₂ => H₂ = H' ∧ ρ₂ "heads" = some (.loc hh) ∧ ρ₂ "g" = some (.loc R) ∧ ρ₂ "form" = some (.loc f) ∧ ρ₂ "k" = some (.int k) ∧ ∃ p : Nat, ρ₂ "place" = some (.int p) ∧ p ≤ plc hs fm ∧ n = plc hs fm - p) ?_ _ ⟨rfl, n1, n2, n3, rfl, 0, rfl, Nat.zero_le _, rfl⟩
      rintro n ρ₂ H₂ ⟨rfl, m1, m2, m3, m4, p, m5, hp, rfl⟩
      have pl := plc_le hs fm
      repeat w_left
      by_cases hpl : p < fm.length
      · rw [show decide ((p : Int) < ((strsV fm).length : Int)) = true by simp [hpl], if_pos rfl]
        repeat w_left
        refine sok_list ef (by omega) (v := .str fm[p]) (by simp [hpl]) ?_
        repeat w_left
        refine cok_notin_strs (le _ _ eh1) ?_
        repeat w_left
        rcases Nat.lt_or_eq_of_le hp with hlt | heq
        · obtain ⟨x, hx, hxs⟩ := plc_lt hlt
          have : fm[p] = x := by rw [List.getElem?_eq_getElem hpl] at hx; exact Option.some.inj hx
          rw [this, show (!decide (x ∈ hs)) = true by simp [hxs], if_pos rfl]
          repeat w_left
          rw [if_pos rfl]
          repeat w_left
          exact ⟨plc hs fm - (p + 1), by omega, rfl, m1, m2, m3, m4, p + 1, rfl, hlt, rfl⟩
        · obtain ⟨x, hx, hxs⟩ := plc_at (hs := hs) (fm := fm) (by omega)
          rw [← heq] at hx
          have : fm[p] = x := by rw [List.getElem?_eq_getElem hpl] at hx; exact Option.some.inj hx
          rw [this, show (!decide (x ∈ hs)) = false by simp [hxs], if_neg (by decide), if_neg (by decide)]
          exact ⟨rfl, m1, m2, m3, m4, heq ▸ m5⟩
      · rw [show decide ((p : Int) < ((strsV fm).length : Int)) = false by simp; omega, if_neg (by decide), if_neg (by decide)]
        have heq : p = plc hs fm := by omega
        exact ⟨rfl, m1, m2, m3, m4, heq ▸ m5⟩
    rintro ρ₁ H₁ ⟨rfl, m1, m2, m3, m4, m5⟩
    generalize hpp : plc hs fm = p at m5
    have none_out : rep (r0 :: gt) hs fm (k :: ds.drop (i + 1)) = none → Q .none H₁ := fun e =>
      q' H₁ .none (le2.trans le) (by rw [← er, e]; exact rfl) (fun b e => by cases e)
    repeat w_left
    by_cases c1 : p = fm.length
    · rw [if_pos (by simp [c1]), if_pos rfl]
      repeat w_left
      exact none_out (by rw [rep, if_pos]; left; rw [hpp]; exact c1)
    rw [if_neg (by simp; omega)]
    repeat w_left
    by_cases c2 : k < 0
    · rw [if_pos (by simpa using c2), if_pos rfl]
      repeat w_left
      exact none_out (by rw [rep, if_pos]; right; left; exact c2)
    rw [if_neg (by simpa using c2)]
    have eRk := le _ _ eR1
    repeat w_left
    have hts : ts.length = (r0 :: gt).length := rs.length
    by_cases c3 : k ≥ ((r0 :: gt).length : Int)
    · rw [if_pos (by simp [hts]; simpa using c3), if_pos rfl]
      repeat w_left
      exact none_out (by rw [rep, if_pos]; right; right; left; exact c3)
    rw [if_neg (by simp [hts]; simp at c3; omega)]
    have kl : k.toNat < (r0 :: gt).length := by omega
    obtain ⟨t, b, htk, _, _, et, eb⟩ := rs.get (i := k.toNat) (h := (r0 :: gt)[k.toNat].1) (bd := (r0 :: gt)[k.toNat].2) (by rw [List.getElem?_eq_getElem kl])
    have hpf : p < fm.length := by have := plc_le hs fm; omega
    repeat w_left
    refine sok_list eRk (by omega) (v := .loc t) (by rw [List.getElem?_map, htk]; rfl) ?_
    repeat w_left
    refine sok_tuple (le _ _ (le2 _ _ et)) (by decide) rfl ?_
    repeat w_left
    refine sok_list ef (by omega) (v := .str fm[p]) (by simp [hpf]) ?_
    repeat w_left
    by_cases c4 : (r0 :: gt)[k.toNat].1 = fm[p]
    · rw [if_neg (by simp [c4])]
      repeat w_left
      rw [if_neg (by decide)]
      repeat w_left
      refine ⟨f, _, (p : Int), rfl, rfl, by omega, ef, fun s1 ls1 ns1 => ?_⟩
      have x1 := le_upd (o := .list ((strsV fm).take (p : Int).toNat)) ns1
      repeat w_left
      refine sok_list (x1 _ _ eRk) (by omega) (v := .loc t) (by rw [List.getElem?_map, htk]; rfl) ?_
      repeat w_left
      refine sok_tuple (x1 _ _ (le _ _ (le2 _ _ et))) (by decide) rfl ?_
      have hbk : (r0 :: gt)[k.toNat].2.length ≤ 100 := hb _ (List.getElem_mem kl)
      refine bok_add_list (vs := strsV (fm.take p)) (ws := strsV (r0 :: gt)[k.toNat].2) (by rw [upd_at]; simp) (x1 _ _ (le _ _ (le2 _ _ eb))) (by simp; omega) fun s2 ls2 ns2 => ?_
      have x2 := x1.trans (le_upd (o := .list (strsV (fm.take p) ++ strsV (r0 :: gt)[k.toNat].2)) ns2)
      repeat w_left
      refine ⟨f, _, (p : Int) + 1, rfl, rfl, by omega, x2 _ _ ef, fun s3 ls3 ns3 => ?_⟩
      have x3 := x2.trans (le_upd (o := .list ((strsV fm).drop ((p : Int) + 1).toNat)) ns3)
      have hp1 : ((p : Int) + 1).toNat = p + 1 := by omega
      refine bok_add_list (vs := strsV (fm.take p ++ (r0 :: gt)[k.toNat].2)) (ws := strsV (fm.drop (p + 1))) (upd_old (by rw [upd_at]; simp) ns3) (by rw [upd_at, hp1]; simp) (by simp; omega) fun s4 ls4 ns4 => ?_
      have x4 := x3.trans (le_upd (o := .list (strsV (fm.take p ++ (r0 :: gt)[k.toNat].2) ++ strsV (fm.drop (p + 1)))) ns4)
      have er' : rep (r0 :: gt) hs (fm.take p ++ (r0 :: gt)[k.toNat].2 ++ fm.drop (p + 1)) (ds.drop (i + 1)) = rep (r0 :: gt) hs [r0.1] ds := by
        rw [← er, rep, hpp, if_neg, List.getElem?_eq_getElem kl]
        · rfl
        · rw [List.getElem?_eq_getElem kl, List.getElem?_eq_getElem hpf]
          rintro (h | h | h | h)
          · exact c1 h
          · exact c2 h
          · exact c3 h
          · exact h (by rw [← c4]; rfl)
      repeat w_left
      refine ⟨⟨m1, m2, le.trans x4, s4, _, rfl, by rw [upd_at]; simp, ?_, ?_, er'⟩, x4 _ _ ok'⟩
      · exact le2.none (le.none (x3.none ns4))
      · simp; omega
    · rw [if_pos (by simpa using c4), if_pos rfl]
      repeat w_left
      exact none_out (by
        rw [rep, if_pos]
        right; right; right
        rw [hpp, List.getElem?_eq_getElem kl, List.getElem?_eq_getElem hpf]
        intro h; exact c4 (Option.some.inj h))
  · rintro ρ' H' ⟨n1, n2, le, f, fm, n3, ef, nf, fl, er⟩ ok
    have : (Src.list D (intsV ds)).vals.length = ds.length := by show (intsV ds).length = _; simp
    rw [this, List.drop_length] at er
    repeat w_left
    refine q' H' (.loc f) (le2.trans le) ?_ (fun b e => by cases e; exact nf)
    rw [← er]
    exact ⟨f, rfl, ef⟩
end Mine
end
section
set_option maxRecDepth 100000
set_option Elab.async false
set_option linter.unusedVariables false
namespace Mine
open PySem PySem.Spec PyProof.Rows
variable {C : Cx} {H : HV} {Q : V → HV → Prop}
set_option maxHeartbeats 1000000
local macro_rules | `(tactic| w_left) => `(tactic| first
  | with_reducible refine exs_cons ?_
  | with_reducible refine exs_nil ?_
  | with_reducible refine ex_Return ?_
  | ((with_reducible refine ex_Assign ?k ?_ ?s); (case k => first | exact .inl rfl | exact .inr rfl); (case s => intros; exact rfl))
  | with_reducible refine ex_If ?_
  | ((with_reducible refine t_Compare ?_ ?m); (case m => exact rfl))
  | with_reducible refine t_Not ?_
  | with_reducible refine t_And ?_
  | with_reducible refine t_Or ?_
  | with_reducible refine t_and_cons ?_
  | with_reducible refine t_or_cons ?_
  | with_reducible refine t_and_nil ?_
  | with_reducible refine t_or_nil ?_
  | with_reducible refine ev_int ?_
  | ((with_reducible refine ev_str ?_ ?o); (case o => decide +kernel))
  | with_reducible refine ev_bool ?_
  | with_reducible refine ev_none ?_
  | ((with_reducible refine ev_Name (v := ?v) ?e ?_ ?d ?n); (case e => first | exact rfl | assumption); (case d => decide); (case n => decide))
  | with_reducible refine ev_BinOp ?_
  | ((with_reducible refine ev_Compare ?_ ?m); (case m => exact rfl))
  | with_reducible refine ev_SliceAll ?_
  | with_reducible refine ev_SliceUpto ?_
  | with_reducible refine ev_SliceFrom ?_
  | ((with_reducible refine ev_Sub ?_ ?m); (case m => intros; exact rfl))
  | with_reducible refine ev_List ?_
  | with_reducible refine ev_Tuple ?_
  | with_reducible refine ev_IfExp ?_
  | with_reducible refine ev_Not ?_
  | ((with_reducible refine args_cons ?_ ?m); (case m => intros; exact rfl))
  | with_reducible refine args_nil ?_
  | with_reducible refine bok_add_int ?_
  | with_reducible refine bok_sub_int ?_
  | ((with_reducible refine bok_mul_int ?m ?_); (case m => first | exact .of_left (by decide) | exact .of_right (by decide)))
  | with_reducible refine cok_eq_int ?_
  | with_reducible refine cok_ne_int ?_
  | with_reducible refine cok_lt_int ?_
  | with_reducible refine cok_gt_int ?_
  | with_reducible refine cok_le_int ?_
  | with_reducible refine cok_ge_int ?_
  | with_reducible refine cok_eq_str ?_
  | with_reducible refine cok_ne_str ?_
  | with_reducible refine tr_bool ?_
  | with_reducible refine tr_int ?_
  | with_reducible refine t_Name ?_
  | with_reducible refine t_Call ?_
  | with_reducible refine t_Sub ?_
  | ((with_reducible refine bok_mod ?n ?_); (case n => decide))
  | ((with_reducible refine bok_floordiv ?n ?m ?_); (case n => decide); (case m => decide))
  | ((with_reducible refine ev_CallB (id := ?id) ?g ?k ?_ ?hs ?hp ?hd); (case g => (refine Gd.blt (K := ?K1) ?G1 ?ge1 ?gv1 ?gn1); (case G1 => first | assumption | ((refine Gd.cast (C := ?Ca1) ?Ga1 ?ha1 ?hb1); (case Ga1 => assumption); (case ha1 => exact rfl); (case hb1 => exact rfl))); (case ge1 => exact rfl); (case gv1 => exact rfl); (case gn1 => decide)); (case k => exact rfl); (case hs => intro _; exact rfl); (case hp => intro _; exact rfl); (case hd => decide))
  | ((with_reducible refine ev_CallT (T := ?id) ?g ?k ?_ ?hs ?hp ?hd); (case g => (refine Gd.blt (K := ?K2) ?G2 ?ge2 ?gv2 ?gn2); (case G2 => first | assumption | ((refine Gd.cast (C := ?Ca2) ?Ga2 ?ha2 ?hb2); (case Ga2 => assumption); (case ha2 => exact rfl); (case hb2 => exact rfl))); (case ge2 => exact rfl); (case gv2 => exact rfl); (case gn2 => decide)); (case k => exact rfl); (case hs => intro _; exact rfl); (case hp => intro _; exact rfl); (case hd => decide))
  | ((with_reducible refine vc_len_list (vs := ?vs) ?e ?_); (case e => (first | assumption | rfl)))
  | ((with_reducible refine ev_Glob (u := ?u) (v := ?v) ?g ?k ?e ?_ ?d); (case g => (refine Gd.glob (K := ?K3) ?G3 ?ge3); (case G3 => first | assumption | ((refine Gd.cast (C := ?Ca3) ?Ga3 ?ha3 ?hb3); (case Ga3 => assumption); (case ha3 => exact rfl); (case hb3 => exact rfl))); (case ge3 => exact rfl)); (case k => exact rfl); (case e => first | exact rfl | ((refine isV_mk (x := ?xx) (t := ?tt) ?hu ?ok); (case hu => exact rfl); (case ok => decide +kernel))); (case d => decide))
  | ((with_reducible refine ev_CallF (fa := ?fa) (fd := ?fd) (params := ?ps) (body := ?bd) (nms := ?nn) ?F ?lim ?g ?k ?_ ?hs ?hp ?hd); (case g => (refine Gd.glob (K := ?K4) ?G4 ?ge4); (case G4 => first | assumption | ((refine Gd.cast (C := ?Ca4) ?Ga4 ?ha4 ?hb4); (case Ga4 => assumption); (case ha4 => exact rfl); (case hb4 => exact rfl))); (case ge4 => exact rfl)); (case F => first | ((refine fn_heads ?GF); (case GF => first | assumption | ((refine Gd.cast (C := ?CaF) ?GaF ?haF ?hbF); (case GaF => assumption); (case haF => exact rfl); (case hbF => exact rfl)))) | ((refine fn_replayed ?GF); (case GF => first | assumption | ((refine Gd.cast (C := ?CaF) ?GaF ?haF ?hbF); (case GaF => assumption); (case haF => exact rfl); (case hbF => exact rfl)))) | ((refine fn_cell ?GF); (case GF => first | assumption | ((refine Gd.cast (C := ?CaF) ?GaF ?haF ?hbF); (case GaF => assumption); (case haF => exact rfl); (case hbF => exact rfl))))); (case lim => (refine Gd.lim (K := ?K5) ?G5); (case G5 => first | assumption | ((refine Gd.cast (C := ?Ca5) ?Ga5 ?ha5 ?hb5); (case Ga5 => assumption); (case ha5 => exact rfl); (case hb5 => exact rfl)))); (case k => exact rfl); (case hs => intro _; exact rfl); (case hp => intro _; exact rfl); (case hd => decide))
  | ((with_reducible refine ev_CallF0 (fa := ?fa) (fd := ?fd) (body := ?bd) (nms := ?nn) ?F ?lim ?g ?k ?_ ?hd); (case g => (refine Gd.glob (K := ?K6) ?G6 ?ge6); (case G6 => first | assumption | ((refine Gd.cast (C := ?Ca6) ?Ga6 ?ha6 ?hb6); (case Ga6 => assumption); (case ha6 => exact rfl); (case hb6 => exact rfl))); (case ge6 => exact rfl)); (case F => first | ((refine fn_heads ?GF); (case GF => first | assumption | ((refine Gd.cast (C := ?CaF) ?GaF ?haF ?hbF); (case GaF => assumption); (case haF => exact rfl); (case hbF => exact rfl)))) | ((refine fn_replayed ?GF); (case GF => first | assumption | ((refine Gd.cast (C := ?CaF) ?GaF ?haF ?hbF); (case GaF => assumption); (case haF => exact rfl); (case hbF => exact rfl)))) | ((refine fn_cell ?GF); (case GF => first | assumption | ((refine Gd.cast (C := ?CaF) ?GaF ?haF ?hbF); (case GaF => assumption); (case haF => exact rfl); (case hbF => exact rfl))))); (case lim => (refine Gd.lim (K := ?K7) ?G7); (case G7 => first | assumption | ((refine Gd.cast (C := ?Ca7) ?Ga7 ?ha7 ?hb7); (case Ga7 => assumption); (case ha7 => exact rfl); (case hb7 => exact rfl)))); (case k => exact rfl); (case hd => decide))
  | ((with_reducible refine ev_Glob (u := ?u) (v := ?v) ?g ?k ?e ?_ ?d); (case g => (refine Gd.blt (K := ?K8) ?G8 ?ge8 ?gv8 ?gn8); (case G8 => first | assumption | ((refine Gd.cast (C := ?Ca8) ?Ga8 ?ha8 ?hb8); (case Ga8 => assumption); (case ha8 => exact rfl); (case hb8 => exact rfl))); (case ge8 => exact rfl); (case gv8 => exact rfl); (case gn8 => decide)); (case k => exact rfl); (case e => exact rfl); (case d => decide)))
def cellv (ns : List Int) (i : Int) : Int := (ns[i.toNat]?).getD 0
theorem cell_ok (G : Gd K25 C) (hk : 0 < C.k) {a : Addr} {ns : List Int} (ha : H a = some (.list (ns.map .int))) {i : Int} (h0 : 0 ≤ i) (q : Q (.int (cellv ns i)) H) :
    FCall C ["script", "i"] (bodyAt (K25 C.w.params) 37) (namesAt (K25 C.w.params) 37) [.loc a, .int i] H Q := by
  refine ⟨hk, rfl, fun env lo h1 h2 => ?_⟩
  change Exs _ (_ :: _) _ _ _
  repeat w_left
  by_cases hi : i.toNat < ns.length
  · have : decide (i < ((ns.map V.int).length : Int)) = true := by simp; omega
    rw [this, if_pos rfl]
    repeat w_left
    refine sok_list ha h0 (v := .int ns[i.toNat]) (by simp [hi]) ?_
    have e : cellv ns i = ns[i.toNat] := by unfold cellv; rw [List.getElem?_eq_getElem hi]; rfl
    exact e ▸ q
  · have : decide (i < ((ns.map V.int).length : Int)) = false := by simp; omega
    rw [this, if_neg (by decide)]
    repeat w_left
    have e : cellv ns i = 0 := by unfold cellv; rw [List.getElem?_eq_none (by omega)]; rfl
    exact e ▸ q
def pool : List Str := ["a", "S", "A", "B", "id"]
def names : List Str := ["S", "A", "B"]
theorem pick {l : List Str} {n : Int} (hn : (l.length : Int) = n) (h0 : 0 < n) (c : Int) : (strsV l)[(c.fmod n).toNat]? = some (.str (l.getD (c.fmod n).toNat "")) := by
  have h1 := fm0 c h0
  have h2 := fm1 c h0
  have h3 : (c.fmod n).toNat < l.length := by omega
  rw [List.getElem?_map, List.getD_eq_getElem?_getD, List.getElem?_eq_getElem h3]; rfl
def bodyOf (code : Int) (i n : Nat) : List Str := (List.range n).map fun (j : Nat) => pool.getD ((code.fdiv (5 ^ j) + (i : Int) + (j : Int)).fmod 5).toNat ""
def codeOf (ns : List Int) (i : Nat) : Int := (cellv ns (2 + (i : Int))).fmod 1500
def ruleOf (ns : List Int) (i : Nat) : Str × List Str := (names.getD ((codeOf ns i + (i : Int)).fmod 3).toNat "", bodyOf (codeOf ns i) i ((codeOf ns i + 2).fmod 4).toNat)
def gramOf (ns : List Int) (n : Nat) : Gram := (List.range n).map (ruleOf ns)
theorem gramOf_succ (ns : List Int) (n : Nat) : gramOf ns (n + 1) = gramOf ns n ++ [ruleOf ns n] := by simp [gramOf, List.range_succ]
theorem gramOf_small (ns : List Int) (n : Nat) : ∀ r ∈ gramOf ns n, r.2.length ≤ 3 := by
  intro r hr
  obtain ⟨i, _, rfl⟩ := List.mem_map.mp hr
  have h1 := fm0 (codeOf ns i + 2) (n := 4) (by decide)
  have h2 := fm1 (codeOf ns i + 2) (n := 4) (by decide)
  show ((List.range _).map _).length ≤ 3
  rw [List.length_map, List.length_range]; omega
/-- the rules that fit -/
def fits (hl rest : List Str) (n : Nat) : List Int := ((List.range n).filter fun r => decide (hl.getD r "" ∈ rest.take 1)).map fun (r : Nat) => (r : Int)
theorem mem_fits {hl rest : List Str} {n : Nat} {k : Int} : k ∈ fits hl rest n ↔ 0 ≤ k ∧ k.toNat < n ∧ hl.getD k.toNat "" ∈ rest.take 1 := by
  unfold fits
  simp only [List.mem_map, List.mem_filter, List.mem_range, decide_eq_true_iff]
  constructor
  · rintro ⟨r, ⟨h1, h2⟩, rfl⟩; exact ⟨by omega, by simpa using h1, by simpa using h2⟩
  · rintro ⟨h0, h1, h2⟩; exact ⟨k.toNat, ⟨h1, h2⟩, by omega⟩
theorem rep_fit {g : Gram} {hs dn rest : List Str} {k : Int} (hfree : ∀ s ∈ dn, s ∉ hs) (hin : ∀ r ∈ g, r.1 ∈ hs) (hk : k ∈ fits (g.map (·.1)) rest g.length) :
    rep g hs (dn ++ rest) [k] = some (dn ++ ((g[k.toNat]?).getD ("", [])).2 ++ rest.drop 1) := by
  obtain ⟨h0, h1, h2⟩ := mem_fits.mp hk
  cases rest with
  | nil => simp at h2
  | cons x r =>
    have hx : g[k.toNat].1 = x := by
      rw [List.getD_eq_getElem?_getD, List.getElem?_map, List.getElem?_eq_getElem h1] at h2
      simpa using h2
    have hxs : x ∈ hs := hx ▸ hin _ (List.getElem_mem h1)
    have hp := plc_mid (a := dn) (b := r) hfree hxs
    rw [rep, hp, if_neg, rep]
    · simp
    · rw [List.getElem?_eq_getElem h1]
      rintro (h | h | h | h)
      · simp at h
      · omega
      · omega
      · simp [hx] at h
theorem rep_nofit {g : Gram} {hs dn rest : List Str} {k : Int} (hfree : ∀ s ∈ dn, s ∉ hs) (hr : ∀ x r, rest = x :: r → x ∈ hs) (hk : k ∉ fits (g.map (·.1)) rest g.length) :
    rep g hs (dn ++ rest) [k] = none := by
  rw [rep, if_pos]
  cases rest with
  | nil => left; rw [List.append_nil]; exact plc_end hfree
  | cons x r =>
    right
    have hp := plc_mid (a := dn) (b := r) hfree (hr x r rfl)
    rw [hp]
    by_cases h0 : k < 0
    · exact .inl h0
    by_cases h1 : k ≥ (g.length : Int)
    · exact .inr (.inl h1)
    · right; right
      have hlt : k.toNat < g.length := by omega
      intro e
      rw [List.getElem?_eq_getElem hlt] at e
      simp at e
      exact hk (mem_fits.mpr ⟨by omega, hlt, by rw [List.getD_eq_getElem?_getD, List.getElem?_map, List.getElem?_eq_getElem hlt]; simp [e]⟩)
/-- where the law's reckoning stands behind t steps -/
structure St (g : Gram) (hs : List Str) (f0 : List Str) (t : Nat) (ok : Bool) (dn rest : List Str) (steps : List Int) : Prop where
  len : steps.length = t
  small : dn.length + rest.length ≤ 1 + 3 * t
  free : ∀ s ∈ dn, s ∉ hs
  is : rep g hs f0 steps = if ok = true then some (dn ++ rest) else none
theorem St.shift {g : Gram} {hs f0 : List Str} {t : Nat} {ok : Bool} {dn rest : List Str} {x : Str} {steps : List Int} (h : St g hs f0 t ok dn (x :: rest) steps) (hx : x ∉ hs) : St g hs f0 t ok (dn ++ [x]) rest steps :=
  ⟨h.len, by have := h.small; simp at this ⊢; omega, fun s hs' => by
    rcases List.mem_append.mp hs' with h' | h'
    · exact h.free s h'
    · rw [List.mem_singleton.mp h']; exact hx, by rw [h.is]; simp⟩
theorem St.fit {g : Gram} {hs f0 : List Str} {t : Nat} {ok : Bool} {dn rest : List Str} {steps : List Int} {k : Int} (h : St g hs f0 t ok dn rest steps) (hin : ∀ r ∈ g, r.1 ∈ hs) (hb : ∀ r ∈ g, r.2.length ≤ 3) (hk : k ∈ fits (g.map (·.1)) rest g.length) :
    St g hs f0 (t + 1) ok dn (((g[k.toNat]?).getD ("", [])).2 ++ rest.drop 1) (steps ++ [k]) := by
  obtain ⟨h0, h1, h2⟩ := mem_fits.mp hk
  refine ⟨by simp [h.len], ?_, h.free, ?_⟩
  · have := h.small
    have hb' := hb _ (List.getElem_mem h1)
    rw [List.getElem?_eq_getElem h1]
    cases rest with
    | nil => simp at h2
    | cons x r => simp at this ⊢; omega
  · rw [rep_snoc, h.is]
    cases ok with
    | false => rfl
    | true => simp only [if_true, Option.bind_some]; rw [rep_fit h.free hin hk]; simp
theorem St.bad {g : Gram} {hs f0 : List Str} {t : Nat} {ok : Bool} {dn rest : List Str} {steps : List Int} {k : Int} (h : St g hs f0 t ok dn rest steps) (hr : ∀ x r, rest = x :: r → x ∈ hs) (hk : k ∉ fits (g.map (·.1)) rest g.length) :
    St g hs f0 (t + 1) false dn rest (steps ++ [k]) := by
  refine ⟨by simp [h.len], by have := h.small; omega, h.free, ?_⟩
  rw [rep_snoc, h.is]
  cases ok with
  | false => rfl
  | true => simp only [if_true, Option.bind_some]; rw [rep_nofit h.free hr hk]; rfl
end Mine
end
section
set_option maxRecDepth 100000
set_option Elab.async false
set_option linter.unusedVariables false
namespace Mine
open PySem PySem.Spec PyProof.Rows
variable {C : Cx} {H : HV} {Q : V → HV → Prop}
set_option maxHeartbeats 4000000
local macro_rules | `(tactic| w_left) => `(tactic| first
  | with_reducible refine exs_cons ?_
  | with_reducible refine exs_nil ?_
  | with_reducible refine ex_Return ?_
  | ((with_reducible refine ex_Assign ?k ?_ ?s); (case k => first | exact .inl rfl | exact .inr rfl); (case s => intros; exact rfl))
  | with_reducible refine ex_If ?_
  | ((with_reducible refine t_Compare ?_ ?m); (case m => exact rfl))
  | with_reducible refine t_Not ?_
  | with_reducible refine t_And ?_
  | with_reducible refine t_Or ?_
  | with_reducible refine t_and_cons ?_
  | with_reducible refine t_or_cons ?_
  | with_reducible refine t_and_nil ?_
  | with_reducible refine t_or_nil ?_
  | with_reducible refine ev_int ?_
  | ((with_reducible refine ev_str ?_ ?o); (case o => decide +kernel))
  | with_reducible refine ev_bool ?_
  | with_reducible refine ev_none ?_
  | ((with_reducible refine ev_Name (v := ?v) ?e ?_ ?d ?n); (case e => first | exact rfl | assumption); (case d => decide); (case n => decide))
  | with_reducible refine ev_BinOp ?_
  | ((with_reducible refine ev_Compare ?_ ?m); (case m => exact rfl))
  | with_reducible refine ev_SliceAll ?_
  | with_reducible refine ev_SliceUpto ?_
  | with_reducible refine ev_SliceFrom ?_
  | ((with_reducible refine ev_Sub ?_ ?m); (case m => intros; exact rfl))
  | with_reducible refine ev_List ?_
  | with_reducible refine ev_Tuple ?_
  | with_reducible refine ev_IfExp ?_
  | with_reducible refine ev_Not ?_
  | ((with_reducible refine args_cons ?_ ?m); (case m => intros; exact rfl))
  | with_reducible refine args_nil ?_
  | with_reducible refine bok_add_int ?_
  | with_reducible refine bok_sub_int ?_
  | ((with_reducible refine bok_mul_int ?m ?_); (case m => first | exact .of_left (by decide) | exact .of_right (by decide)))
  | with_reducible refine cok_eq_int ?_
  | with_reducible refine cok_ne_int ?_
  | with_reducible refine cok_lt_int ?_
  | with_reducible refine cok_gt_int ?_
  | with_reducible refine cok_le_int ?_
  | with_reducible refine cok_ge_int ?_
  | with_reducible refine cok_eq_str ?_
  | with_reducible refine cok_ne_str ?_
  | with_reducible refine tr_bool ?_
  | with_reducible refine tr_int ?_
  | with_reducible refine t_Name ?_
  | with_reducible refine t_Call ?_
  | with_reducible refine t_Sub ?_
  | ((with_reducible refine bok_mod ?n ?_); (case n => decide))
  | ((with_reducible refine bok_floordiv ?n ?m ?_); (case n => decide); (case m => decide))
  | ((with_reducible refine ev_CallB (id := ?id) ?g ?k ?_ ?hs ?hp ?hd); (case g => (refine Gd.blt (K := ?K1) ?G1 ?ge1 ?gv1 ?gn1); (case G1 => first | assumption | ((refine Gd.cast (C := ?Ca1) ?Ga1 ?ha1 ?hb1); (case Ga1 => assumption); (case ha1 => exact rfl); (case hb1 => exact rfl))); (case ge1 => exact rfl); (case gv1 => exact rfl); (case gn1 => decide)); (case k => exact rfl); (case hs => intro _; exact rfl); (case hp => intro _; exact rfl); (case hd => decide))
  | ((with_reducible refine ev_CallT (T := ?id) ?g ?k ?_ ?hs ?hp ?hd); (case g => (refine Gd.blt (K := ?K2) ?G2 ?ge2 ?gv2 ?gn2); (case G2 => first | assumption | ((refine Gd.cast (C := ?Ca2) ?Ga2 ?ha2 ?hb2); (case Ga2 => assumption); (case ha2 => exact rfl); (case hb2 => exact rfl))); (case ge2 => exact rfl); (case gv2 => exact rfl); (case gn2 => decide)); (case k => exact rfl); (case hs => intro _; exact rfl); (case hp => intro _; exact rfl); (case hd => decide))
  | ((with_reducible refine vc_len_list (vs := ?vs) ?e ?_); (case e => (first | assumption | rfl)))
  | ((with_reducible refine ev_Glob (u := ?u) (v := ?v) ?g ?k ?e ?_ ?d); (case g => (refine Gd.glob (K := ?K3) ?G3 ?ge3); (case G3 => first | assumption | ((refine Gd.cast (C := ?Ca3) ?Ga3 ?ha3 ?hb3); (case Ga3 => assumption); (case ha3 => exact rfl); (case hb3 => exact rfl))); (case ge3 => exact rfl)); (case k => exact rfl); (case e => first | exact rfl | ((refine isV_mk (x := ?xx) (t := ?tt) ?hu ?ok); (case hu => exact rfl); (case ok => decide +kernel))); (case d => decide))
  | ((with_reducible refine ev_CallF (fa := ?fa) (fd := ?fd) (params := ?ps) (body := ?bd) (nms := ?nn) ?F ?lim ?g ?k ?_ ?hs ?hp ?hd); (case g => (refine Gd.glob (K := ?K4) ?G4 ?ge4); (case G4 => first | assumption | ((refine Gd.cast (C := ?Ca4) ?Ga4 ?ha4 ?hb4); (case Ga4 => assumption); (case ha4 => exact rfl); (case hb4 => exact rfl))); (case ge4 => exact rfl)); (case F => first | ((refine fn_heads ?GF); (case GF => first | assumption | ((refine Gd.cast (C := ?CaF) ?GaF ?haF ?hbF); (case GaF => assumption); (case haF => exact rfl); (case hbF => exact rfl)))) | ((refine fn_replayed ?GF); (case GF => first | assumption | ((refine Gd.cast (C := ?CaF) ?GaF ?haF ?hbF); (case GaF => assumption); (case haF => exact rfl); (case hbF => exact rfl)))) | ((refine fn_cell ?GF); (case GF => first | assumption | ((refine Gd.cast (C := ?CaF) ?GaF ?haF ?hbF); (case GaF => assumption); (case haF => exact rfl); (case hbF => exact rfl))))); (case lim => (refine Gd.lim (K := ?K5) ?G5); (case G5 => first | assumption | ((refine Gd.cast (C := ?Ca5) ?Ga5 ?ha5 ?hb5); (case Ga5 => assumption); (case ha5 => exact rfl); (case hb5 => exact rfl)))); (case k => exact rfl); (case hs => intro _; exact rfl); (case hp => intro _; exact rfl); (case hd => decide))
  | ((with_reducible refine ev_CallF0 (fa := ?fa) (fd := ?fd) (body := ?bd) (nms := ?nn) ?F ?lim ?g ?k ?_ ?hd); (case g => (refine Gd.glob (K := ?K6) ?G6 ?ge6); (case G6 => first | assumption | ((refine Gd.cast (C := ?Ca6) ?Ga6 ?ha6 ?hb6); (case Ga6 => assumption); (case ha6 => exact rfl); (case hb6 => exact rfl))); (case ge6 => exact rfl)); (case F => first | ((refine fn_heads ?GF); (case GF => first | assumption | ((refine Gd.cast (C := ?CaF) ?GaF ?haF ?hbF); (case GaF => assumption); (case haF => exact rfl); (case hbF => exact rfl)))) | ((refine fn_replayed ?GF); (case GF => first | assumption | ((refine Gd.cast (C := ?CaF) ?GaF ?haF ?hbF); (case GaF => assumption); (case haF => exact rfl); (case hbF => exact rfl)))) | ((refine fn_cell ?GF); (case GF => first | assumption | ((refine Gd.cast (C := ?CaF) ?GaF ?haF ?hbF); (case GaF => assumption); (case haF => exact rfl); (case hbF => exact rfl))))); (case lim => (refine Gd.lim (K := ?K7) ?G7); (case G7 => first | assumption | ((refine Gd.cast (C := ?Ca7) ?Ga7 ?ha7 ?hb7); (case Ga7 => assumption); (case ha7 => exact rfl); (case hb7 => exact rfl)))); (case k => exact rfl); (case hd => decide))
  | ((with_reducible refine ev_Glob (u := ?u) (v := ?v) ?g ?k ?e ?_ ?d); (case g => (refine Gd.blt (K := ?K8) ?G8 ?ge8 ?gv8 ?gn8); (case G8 => first | assumption | ((refine Gd.cast (C := ?Ca8) ?Ga8 ?ha8 ?hb8); (case Ga8 => assumption); (case ha8 => exact rfl); (case hb8 => exact rfl))); (case ge8 => exact rfl); (case gv8 => exact rfl); (case gn8 => decide)); (case k => exact rfl); (case e => exact rfl); (case d => decide)))
theorem pow_small {j : Nat} (h : j ≤ 3) : ((5 : Int) ^ j) ≠ 0 ∧ ((5 : Int) ^ j).natAbs < 1073741824 := by
  have : j = 0 ∨ j = 1 ∨ j = 2 ∨ j = 3 := by omega
  rcases this with rfl | rfl | rfl | rfl <;> decide
theorem law_ok (G : Gd K25 C) (hk : 5 < C.k) {a : Addr} {ns : List Int} (ha : H a = some (.list (intsV ns))) (hp : H 29 = some (.tuple (strsV pool))) (hn : H 30 = some (.tuple (strsV names))) :
    FCall C ["script"] (bodyAt (K25 C.w.params) 42) (namesAt (K25 C.w.params) 42) [.loc a] H (fun v _ => v = .bool true) := by
  refine ⟨by omega, rfl, fun env lo hlo h2 => ?_⟩
  have hk0 : 0 < C.k - 1 := by omega
  have hk1 : 1 < C.k - 1 := by omega
  change Exs _ (_ :: _) _ _ _
  repeat w_left
  refine cell_ok (by exact G.cast rfl rfl) hk0 ha (by decide) ?_
  repeat w_left
  refine cell_ok (by exact G.cast rfl rfl) hk0 ha (by decide) ?_
  repeat w_left
  have n0 := fm0 (cellv ns 0) (n := 4) (by decide)
  have n1 := fm1 (cellv ns 0) (n := 4) (by decide)
  have m0 := fm0 (cellv ns 1 + 2) (n := 6) (by decide)
  have m1 := fm1 (cellv ns 1 + 2) (n := 6) (by decide)
  obtain ⟨N, hN⟩ : ∃ N : Nat, 1 + (cellv ns 0).fmod 4 = (N : Int) := ⟨(1 + (cellv ns 0).fmod 4).toNat, by omega⟩
  obtain ⟨M, hM⟩ : ∃ M : Nat, (cellv ns 1 + 2).fmod 6 = (M : Int) := ⟨((cellv ns 1 + 2).fmod 6).toNat, by omega⟩
  rw [hN, hM]
  have N1 : 1 ≤ N := by omega
  have N4 : N ≤ 4 := by omega
  have M5 : M ≤ 5 := by omega
  clear hN hM n0 n1 m0 m1
  refine ⟨by decide, fun R lR nR => ?_⟩
  repeat w_left
  refine ⟨by decide, fun B0 lB0 nB0 => ?_⟩
  have B0R : B0 ≠ R := by rintro rfl; rw [upd_at] at nB0; cases nB0
  repeat w_left
  refine ex_mid (fun ρ₁ H₁ => ρ₁ "script" = some (.loc a) ∧ ρ₁ "n" = some (.int N) ∧ ρ₁ "m" = some (.int M) ∧ ρ₁ "g" = some (.loc R) ∧ H.le H₁ ∧ GrAt H₁ (fun _ => True) R (gramOf ns N) ∧ ∃ bo bl, ρ₁ "body" = some (.loc bo) ∧ H₁ bo = some (.list (strsV bl)) ∧ bl.length ≤ 3 ∧ lo ≤ bo) ?_ ?_
  · refine ex_For (.inr rfl) (its_range1 (Gd.blt (K := K25) (by exact G.cast rfl rfl) rfl rfl (by decide)) rfl ?_)
    repeat w_left
    refine ⟨N, rfl, by omega, by omega, ?_⟩
    rw [Int.toNat_natCast]
    refine ⟨fun i ρ' H' => ρ' "script" = some (.loc a) ∧ ρ' "n" = some (.int N) ∧ ρ' "m" = some (.int M) ∧ ρ' "g" = some (.loc R) ∧ H.le H' ∧ (∃ ts : List Addr, H' R = some (.list (ts.map V.loc)) ∧ RulesAt H' (· ≠ R) ts (gramOf ns i)) ∧ ∃ bo bl, ρ' "body" = some (.loc bo) ∧ H' bo = some (.list (strsV bl)) ∧ bl.length ≤ 3 ∧ lo ≤ bo ∧ bo ≠ R,
      ⟨rfl, rfl, rfl, rfl, (le_upd nR).trans (le_upd nB0), ⟨[], upd_keep B0R.symm (upd_at _ _ _), .nil⟩, B0, [], rfl, upd_at _ _ _, by decide, lB0, B0R⟩, ?_, ?_⟩
    · rintro i v ρ' H' hv ⟨r1, r2, r3, r4, le, ⟨ts, eR, rs⟩, bo, bl, r5, ebo, lbl, lbo, boR⟩ ok
      obtain ⟨hi, rfl⟩ := rng_get hv
      have hts : ts.length = i := by rw [rs.length]; simp [gramOf]
      rw [Int.zero_add]
      repeat w_left
      refine cell_ok (by exact G.cast rfl rfl) hk0 (le _ _ ha) (by omega) ?_
      repeat w_left
      have er : ruleOf ns i = (names.getD ((codeOf ns i + (i : Int)).fmod 3).toNat "", bodyOf (codeOf ns i) i ((codeOf ns i + 2).fmod 4).toNat) := rfl
      have ec : (cellv ns (2 + (i : Int))).fmod 1500 = codeOf ns i := rfl
      rw [ec]
      generalize codeOf ns i = code at er
      have s0 := fm0 (code + 2) (n := 4) (by decide)
      have s1 := fm1 (code + 2) (n := 4) (by decide)
      refine ex_AssignComp (its_range1 (Gd.blt (K := K25) (by exact G.cast rfl rfl) rfl rfl (by decide)) rfl ?_) rfl
      repeat w_left
      refine ⟨_, rfl, by omega, by omega, ?_⟩
      generalize hsz : ((code + 2).fmod 4).toNat = sz at er
      have sz3 : sz ≤ 3 := by omega
      refine ⟨fun j ys H'' => H'' = H' ∧ ys = strsV (bodyOf code i j), ⟨⟨rfl, rfl⟩, ?_⟩, ?_⟩
      · rintro j v ys H'' hv ⟨rfl, rfl⟩ ok' env'
        obtain ⟨hj, rfl⟩ := rng_get hv
        rw [Int.zero_add]
        refine ifs_nil ?_
        show Ev _ _ _ _ _
        repeat w_left
        refine bok_pow (by omega) (by omega) (by decide) ?_
        rw [Int.toNat_natCast]
        have ⟨p1, p2⟩ := pow_small (j := j) (by omega)
        refine bok_floordiv p1 p2 ?_
        repeat w_left
        refine sok_tuple (le _ _ hp) (fm0 _ (by decide)) (pick (l := pool) (n := 5) rfl (by decide) _) ?_
        refine ⟨⟨rfl, ?_⟩, ok'⟩
        simp [bodyOf, List.range_succ]
      · rintro ys H'' ⟨rfl, rfl⟩ b lb nb
        rw [rng_len]
        have x1 := le_upd (o := .list (strsV (bodyOf code i sz))) nb
        have bR : b ≠ R := (ne_of_new eR nb).symm
        refine exs_cons (ex_append ?_)
        repeat w_left
        refine ⟨R, rfl, ⟨_, x1 _ _ eR⟩, ?_⟩
        repeat w_left
        refine sok_tuple (x1 _ _ (le _ _ hn)) (fm0 _ (by decide)) (pick (l := names) (n := 3) rfl (by decide) _) ?_
        repeat w_left
        refine ⟨by simp, fun t lt nt => ?_⟩
        have x2 := x1.trans (le_upd (o := .tuple [.str (names.getD ((code + (i : Int)).fmod 3).toNat ""), .loc b]) nt)
        have tR : t ≠ R := (ne_of_new (x1 _ _ eR) nt).symm
        have tb : b ≠ t := ne_of_new (upd_at _ _ _) nt
        refine ⟨_, x2 _ _ eR, lR, by simp [hts]; omega, ?_⟩
        repeat w_left
        refine ⟨⟨r1, r2, r3, r4, le_turn (le.trans x2) nR, ⟨ts ++ [t], by rw [upd_at]; simp, ?_⟩, b, bodyOf code i sz, rfl, upd_keep bR (upd_keep tb (upd_at _ _ _)), by simp [bodyOf]; omega, lb, bR⟩, ok⟩
        rw [gramOf_succ, er]
        refine RulesAt.append (rs.imp (fun d o p e => upd_keep p (x2 _ _ e)) fun _ p => p) (.cons tR bR ?_ ?_ .nil)
        · exact upd_keep tR (upd_at _ _ _)
        · exact upd_keep bR (upd_keep tb (upd_at _ _ _))
    · rintro ρ' H' ⟨r1, r2, r3, r4, le, ⟨ts, eR, rs⟩, bo, bl, r5, ebo, lbl, lbo, boR⟩ ok
      rw [rng_len] at rs
      exact ⟨r1, r2, r3, r4, le, ⟨ts, eR, rs.imp (fun _ _ _ e => e) fun _ _ => trivial⟩, bo, bl, r5, ebo, lbl, lbo⟩
  rintro ρ₁ H1 ⟨r1, r2, r3, r4, le1, ⟨ts, eR, rs⟩, bo, bl, r5, ebo, lbl, lbo⟩
  have gs := gramOf_small ns N
  have gl : (gramOf ns N).length = N := by simp [gramOf]
  have ha1 := le1 _ _ ha
  generalize gramOf ns N = g at rs gs gl
  have hne : g ≠ [] := by intro h; rw [h] at gl; simp at gl; omega
  refine exs_cons (ex_AssignCompC (its_list ?_) rfl)
  repeat w_left
  refine ⟨R, _, rfl, eR, ?_⟩
  refine ⟨fun i ys H' => H' = H1 ∧ ys = strsV ((g.map (·.1)).take i), ⟨⟨rfl, rfl⟩, ?_⟩, ?_⟩
  · rintro i v ys H' hv ⟨rfl, rfl⟩ ok env'
    obtain ⟨t, b, h, bd, rfl, hgi, _, _, et, eb⟩ := rs.get' hv
    refine ifs_nil ?_
    show Ev _ _ _ _ _
    repeat w_left
    refine sok_tuple et (by decide) rfl ?_
    exact ⟨⟨rfl, by rw [take_snoc (show (g.map (·.1))[i]? = some h by rw [List.getElem?_map, hgi]; rfl)]; simp⟩, ok⟩
  rintro ys H' ⟨rfl, rfl⟩ hd lhd nhd
  have hts : ts.length = g.length := rs.length
  have : (Src.list R (ts.map V.loc)).vals.length = (g.map (·.1)).length := by show (ts.map V.loc).length = _; rw [List.length_map, hts, List.length_map]
  rw [this, List.take_length]
  have ehd := upd_at H' hd (.list (strsV (g.map (·.1))))
  have leb := le_upd (o := .list (strsV (g.map (·.1)))) nhd
  generalize upd H' hd (.list (strsV (g.map (·.1)))) = Hb at ehd leb
  have eRb := leb _ _ eR
  have rsb := rs.le leb
  have hab := leb _ _ ha1
  have ebob := leb _ _ ebo
  obtain ⟨r0, gt, hg0⟩ := List.exists_cons_of_ne_nil hne
  obtain ⟨t0, b0, ht0, _, _, et0, eb0⟩ := rsb.get (i := 0) (h := r0.1) (bd := r0.2) (by rw [hg0]; rfl)
  repeat w_left
  refine ⟨by decide, fun dn ldn ndn => ?_⟩
  have y1 := le_upd (o := .list []) ndn
  repeat w_left
  refine sok_list (y1 _ _ eRb) (by decide) (v := .loc t0) (by rw [show (0 : Int).toNat = 0 from rfl, List.getElem?_map, ht0]; rfl) ?_
  refine ev_int (sok_tuple (y1 _ _ et0) (by decide) rfl ?_)
  repeat w_left
  refine ⟨by simp, fun rs0 lrs0 nrs0 => ?_⟩
  have y2 := y1.trans (le_upd (o := .list [.str r0.1]) nrs0)
  have rsdn : rs0 ≠ dn := (ne_of_new (upd_at _ _ _) nrs0).symm
  repeat w_left
  refine ⟨by decide, fun st lst nst => ?_⟩
  have y3 := y2.trans (le_upd (o := .list []) nst)
  have stdn : st ≠ dn := by rintro rfl; rw [upd_ne _ _ rsdn.symm, upd_at] at nst; cases nst
  have stn : st ≠ rs0 := (ne_of_new (upd_at _ _ _) nst).symm
  have nstb : Hb st = none := y2.none nst
  have hin : ∀ r ∈ g, r.1 ∈ dd (g.map (·.1)) := fun r hr => mem_dd.mpr (List.mem_map_of_mem hr)
  repeat w_left
  refine ex_mid (fun ρ₂ H₂ => ρ₂ "g" = some (.loc R) ∧ ρ₂ "body" = some (.loc bo) ∧ ρ₂ "steps" = some (.loc st) ∧ ρ₂ "done" = some (.loc dn) ∧ Hb.le H₂ ∧ ∃ rsa ok D L S, ρ₂ "rest" = some (.loc rsa) ∧ ρ₂ "ok" = some (.bool ok) ∧ H₂ dn = some (.list (strsV D)) ∧ H₂ rsa = some (.list (strsV L)) ∧ H₂ st = some (.list (intsV S)) ∧ St g (dd (g.map (·.1))) [r0.1] M ok D L S) ?_ ?_
  · refine ex_For (.inl rfl) (its_range1 (Gd.blt (K := K25) (by exact G.cast rfl rfl) rfl rfl (by decide)) rfl ?_)
    repeat w_left
    refine ⟨M, rfl, by omega, by omega, ?_⟩
    rw [Int.toNat_natCast]
    refine ⟨fun t ρ₂ H₂ => ρ₂ "script" = some (.loc a) ∧ ρ₂ "n" = some (.int N) ∧ ρ₂ "heads" = some (.loc hd) ∧ ρ₂ "g" = some (.loc R) ∧ ρ₂ "body" = some (.loc bo) ∧ ρ₂ "steps" = some (.loc st) ∧ ρ₂ "done" = some (.loc dn) ∧ Hb.le H₂ ∧ ∃ rsa ok D L S, ρ₂ "rest" = some (.loc rsa) ∧ ρ₂ "ok" = some (.bool ok) ∧ rsa ≠ dn ∧ rsa ≠ st ∧ H₂ dn = some (.list (strsV D)) ∧ H₂ rsa = some (.list (strsV L)) ∧ H₂ st = some (.list (intsV S)) ∧ St g (dd (g.map (·.1))) [r0.1] t ok D L S,
      ⟨r1, r2, rfl, r4, r5, rfl, rfl, y3, rs0, true, [], [r0.1], [], rfl, rfl, rsdn, stn.symm, upd_keep stdn.symm (upd_keep rsdn.symm (upd_at _ _ _)), upd_keep stn.symm (upd_at _ _ _), upd_at _ _ _, ⟨rfl, by simp, by simp, rfl⟩⟩, ?_, ?_⟩
    · rintro t v ρ₂ H₂ hv ⟨q1, q2, q3, q4, q5, q6, q7, le, rsa, ok, D, L, S, q8, q9, a1, a2, ed, el, es, sS⟩ okr
      obtain ⟨ht, rfl⟩ := rng_get hv
      rw [Int.zero_add]
      refine exs_mid (fun ρ₃ H₃ => ρ₃ "script" = some (.loc a) ∧ ρ₃ "n" = some (.int N) ∧ ρ₃ "t" = some (.int t) ∧ ρ₃ "heads" = some (.loc hd) ∧ ρ₃ "g" = some (.loc R) ∧ ρ₃ "body" = some (.loc bo) ∧ ρ₃ "steps" = some (.loc st) ∧ ρ₃ "done" = some (.loc dn) ∧ Hb.le H₃ ∧ ∃ rsa D L, ρ₃ "rest" = some (.loc rsa) ∧ ρ₃ "ok" = some (.bool ok) ∧ rsa ≠ dn ∧ rsa ≠ st ∧ H₃ dn = some (.list (strsV D)) ∧ H₃ rsa = some (.list (strsV L)) ∧ H₃ st = some (.list (intsV S)) ∧ St g (dd (g.map (·.1))) [r0.1] t ok D L S ∧ ∀ x r, L = x :: r → x ∈ dd (g.map (·.1))) ?_ ?_
      · refine ex_While (fun n ρ₃ H₃ => ρ₃ "script" = some (.loc a) ∧ ρ₃ "n" = some (.int N) ∧ ρ₃ "t" = some (.int t) ∧ ρ₃ "heads" = some (.loc hd) ∧ ρ₃ "g" = some (.loc R) ∧ ρ₃ "body" = some (.loc bo) ∧ ρ₃ "steps" = some (.loc st) ∧ ρ₃ "done" = some (.loc dn) ∧ Hb.le H₃ ∧ ∃ rsa D L, ρ₃ "rest" = some (.loc rsa) ∧ ρ₃ "ok" = some (.bool ok) ∧ rsa ≠ dn ∧ rsa ≠ st ∧ H₃ dn = some (.list (strsV D)) ∧ H₃ rsa = some (.list (strsV L)) ∧ H₃ st = some (.list (intsV S)) ∧ St g (dd (g.map (·.1))) [r0.1] t ok D L S ∧ n = L.length) ?_ _ ⟨q1, q2, rfl, q3, q4, q5, q6, q7, le, rsa, D, L, q8, q9, a1, a2, ed, el, es, sS, rfl⟩
        rintro n ρ₃ H₃ ⟨q1, q2, qt, q3, q4, q5, q6, q7, le, rsa, D, L, q8, q9, a1, a2, ed, el, es, sS, rfl⟩
        repeat w_left
        cases L with
        | nil =>
          rw [if_neg (by simp), if_neg (by simp)]
          exact ⟨q1, q2, qt, q3, q4, q5, q6, q7, le, rsa, D, [], q8, q9, a1, a2, ed, el, es, sS, fun x r e => by cases e⟩
        | cons x L =>
          rw [if_pos (by simp)]
          repeat w_left
          refine sok_list el (by decide) (v := .str x) rfl ?_
          repeat w_left
          refine cok_notin_strs (le _ _ ehd) ?_
          repeat w_left
          by_cases hx : x ∈ g.map (·.1)
          · rw [if_neg (by simpa using hx), if_neg (by simp)]
            exact ⟨q1, q2, qt, q3, q4, q5, q6, q7, le, rsa, D, _, q8, q9, a1, a2, ed, el, es, sS, fun y r e => by cases e; exact mem_dd.mpr hx⟩
          · rw [if_pos (by simpa using hx)]
            repeat w_left
            rw [if_pos rfl]
            refine exs_cons (ex_append ?_)
            repeat w_left
            refine ⟨dn, rfl, ⟨_, ed⟩, ?_⟩
            repeat w_left
            refine sok_list el (by decide) (v := .str x) rfl ?_
            refine ⟨_, ed, ldn, ?_, ?_⟩
            · have := sS.small; simp at this ⊢; omega
            repeat w_left
            have el2 : upd H₃ dn (.list (strsV D ++ [.str x])) rsa = some (.list (strsV (x :: L))) := upd_keep a1 el
            refine ⟨rsa, _, 1, rfl, rfl, by decide, el2, fun r2 lr2 nr2 => ?_⟩
            have nr2' := nr2
            have r2dn : r2 ≠ dn := (ne_of_new (upd_at _ _ _) nr2).symm
            have r2st : r2 ≠ st := by
              rintro rfl; rw [upd_ne _ _ stdn, es] at nr2; cases nr2
            repeat w_left
            refine ⟨L.length, by simp, q1, q2, qt, q3, q4, q5, q6, q7, (le_turn le ndn).trans (le_upd nr2), r2, D ++ [x], L, rfl, q9, r2dn, r2st, upd_keep r2dn.symm (by rw [upd_at]; simp), by rw [upd_at]; rfl, upd_keep r2st.symm (upd_keep stdn es), sS.shift (fun h => hx (mem_dd.mp h)), rfl⟩
      rintro ρ₃ H₃ ⟨q1, q2, qt, q3, q4, q5, q6, q7, le, rsa, D, L, q8, q9, a1, a2, ed, el, es, sS, hL⟩
      refine exs_cons (ex_AssignComp (its_range1 (Gd.blt (K := K25) (by exact G.cast rfl rfl) rfl rfl (by decide)) rfl ?_) rfl)
      repeat w_left
      refine ⟨N, rfl, by omega, by omega, ?_⟩
      rw [Int.toNat_natCast]
      refine ⟨fun i ys H' => H₃.le H' ∧ ys = intsV (fits (g.map (·.1)) L i), ⟨⟨HV.le_refl _, rfl⟩, ?_⟩, ?_⟩
      · rintro i v ys H' hv ⟨le4, rfl⟩ ok' env'
        obtain ⟨hi, rfl⟩ := rng_get hv
        rw [Int.zero_add]
        refine ifs_one ?_
        have hil : i < (g.map (·.1)).length := by rw [List.length_map, gl]; exact hi
        repeat w_left
        refine sok_list (le4 _ _ (le _ _ ehd)) (by omega) (v := .str (g.map (·.1))[i]) (by rw [Int.toNat_natCast, List.getElem?_map, List.getElem?_eq_getElem hil]; rfl) ?_
        repeat w_left
        refine ⟨rsa, _, 1, rfl, rfl, by decide, le4 _ _ el, fun s1 ls1 ns1 => ?_⟩
        refine cok_in_strs (ss := L.take 1) (by rw [upd_at]; simp) ?_
        repeat w_left
        have e : fits (g.map (·.1)) L (i + 1) = fits (g.map (·.1)) L i ++ if (g.map (·.1))[i] ∈ L.take 1 then [(i : Int)] else [] := by
          unfold fits
          rw [List.range_succ, List.filter_append, List.map_append]
          congr 1
          rw [List.filter_cons, List.getD_eq_getElem?_getD, List.getElem?_eq_getElem hil]
          simp only [Option.getD_some]
          split <;> simp_all
        by_cases hm : (g.map (·.1))[i] ∈ L.take 1
        · rw [if_pos (by simpa using hm)]
          repeat w_left
          exact ⟨⟨le4.trans (le_upd ns1), by rw [e, if_pos hm]; simp⟩, ok'⟩
        · rw [if_neg (by simpa using hm)]
          exact ⟨⟨le4.trans (le_upd ns1), by rw [e, if_neg hm]; simp⟩, ok'⟩
      rintro ys H' ⟨le4, rfl⟩ gd lgd ngd
      rw [rng_len]
      have le5 := le4.trans (le_upd (o := .list (intsV (fits (g.map (·.1)) L N))) ngd)
      have egd := upd_at H' gd (.list (intsV (fits (g.map (·.1)) L N)))
      have gddn : gd ≠ dn := (ne_of_new (le4 _ _ ed) ngd).symm
      have gdst : gd ≠ st := (ne_of_new (le4 _ _ es) ngd).symm
      generalize upd H' gd (.list (intsV (fits (g.map (·.1)) L N))) = H5 at le5 egd
      repeat w_left
      refine cell_ok (by exact G.cast rfl rfl) hk0 (le5 _ _ (le _ _ hab)) (by omega) ?_
      repeat w_left
      refine bok_mod (by omega) ?_
      generalize cellv ns (6 + (t : Int)) = c
      refine exs_mid (fun ρ₄ H₄ => H₄ = H5 ∧ ρ₄ "script" = some (.loc a) ∧ ρ₄ "n" = some (.int N) ∧ ρ₄ "heads" = some (.loc hd) ∧ ρ₄ "g" = some (.loc R) ∧ ρ₄ "body" = some (.loc bo) ∧ ρ₄ "steps" = some (.loc st) ∧ ρ₄ "done" = some (.loc dn) ∧ ρ₄ "rest" = some (.loc rsa) ∧ ρ₄ "ok" = some (.bool ok) ∧ ρ₄ "good" = some (.loc gd) ∧ ∃ k : Int, ρ₄ "k" = some (.int k)) ?_ ?_
      · refine ex_If (TG.mono (Q := fun b H₁ => H₁ = H5 ∧ (b = true → 0 < (fits (g.map (·.1)) L N).length)) ?_ ?_)
        · repeat w_left
          by_cases c1 : c.fmod 8 < 4
          · rw [if_pos (by simpa using c1)]
            repeat w_left
            by_cases c2 : 0 < (fits (g.map (·.1)) L N).length
            · rw [if_pos (by simpa using c2)]
              repeat w_left
              exact ⟨rfl, fun _ => c2⟩
            · rw [if_neg (by simpa using c2)]
              exact ⟨rfl, fun h => by cases h⟩
          · rw [if_neg (by simpa using c1)]
            exact ⟨rfl, fun h => by cases h⟩
        · rintro b H₁ ⟨rfl, hb⟩
          cases b with
          | true =>
            have hp := hb rfl
            rw [if_pos rfl]
            repeat w_left
            have hpos : (0 : Int) < ((intsV (fits (g.map (·.1)) L N)).length : Int) := by simpa using hp
            refine bok_mod (by omega) ?_
            have i0 := fm0 c hpos
            have i1 := fm1 c hpos
            have hlt : (c.fmod ((intsV (fits (g.map (·.1)) L N)).length : Int)).toNat < (fits (g.map (·.1)) L N).length := by simp at i1 ⊢; omega
            refine sok_list egd i0 (v := .int (fits (g.map (·.1)) L N)[(c.fmod ((intsV (fits (g.map (·.1)) L N)).length : Int)).toNat]) (by rw [List.getElem?_map, List.getElem?_eq_getElem hlt]; rfl) ?_
            repeat w_left
            exact ⟨rfl, q1, q2, q3, q4, q5, q6, q7, q8, q9, rfl, _, rfl⟩
          | false =>
            rw [if_neg (by decide)]
            repeat w_left
            split
            · repeat w_left
              exact ⟨rfl, q1, q2, q3, q4, q5, q6, q7, q8, q9, rfl, _, rfl⟩
            · repeat w_left
              split
              · repeat w_left
                exact ⟨rfl, q1, q2, q3, q4, q5, q6, q7, q8, q9, rfl, _, rfl⟩
              · repeat w_left
                split
                · repeat w_left
                  exact ⟨rfl, q1, q2, q3, q4, q5, q6, q7, q8, q9, rfl, _, rfl⟩
                · repeat w_left
                  exact ⟨rfl, q1, q2, q3, q4, q5, q6, q7, q8, q9, rfl, _, rfl⟩
      rintro ρ₄ H₄ ⟨rfl, q1, q2, q3, q4, q5, q6, q7, q8, q9, q10, k, q11⟩
      refine exs_cons (ex_append ?_)
      repeat w_left
      refine ⟨st, rfl, ⟨_, le5 _ _ es⟩, ?_⟩
      repeat w_left
      refine ⟨_, le5 _ _ es, lst, by have := sS.len; simp; omega, ?_⟩
      have es6 : upd H₄ st (.list (intsV S ++ [.int k])) st = some (.list (intsV (S ++ [k]))) := by rw [upd_at]; simp
      have ed6 : upd H₄ st (.list (intsV S ++ [.int k])) dn = some (.list (strsV D)) := upd_keep stdn.symm (le5 _ _ ed)
      have el6 : upd H₄ st (.list (intsV S ++ [.int k])) rsa = some (.list (strsV L)) := upd_keep a2 (le5 _ _ el)
      have eg6 : upd H₄ st (.list (intsV S ++ [.int k])) gd = some (.list (intsV (fits (g.map (·.1)) L N))) := upd_keep gdst egd
      have le6 : Hb.le (upd H₄ st (.list (intsV S ++ [.int k]))) := le_turn (le.trans le5) nstb
      generalize upd H₄ st (.list (intsV S ++ [.int k])) = H6 at es6 ed6 el6 eg6 le6
      repeat w_left
      refine cok_in_ints eg6 ?_
      repeat w_left
      by_cases hkf : k ∈ fits (g.map (·.1)) L N
      · rw [if_pos (by simpa using hkf)]
        obtain ⟨k0, k1, k2⟩ := mem_fits.mp hkf
        have hkf' : k ∈ fits (g.map (·.1)) L g.length := by rw [gl]; exact hkf
        have kl : k.toNat < g.length := by rw [gl]; exact k1
        obtain ⟨tt, tb, htk, _, _, ett, etb⟩ := (rsb.le le6).get (i := k.toNat) (h := g[k.toNat].1) (bd := g[k.toNat].2) (by rw [List.getElem?_eq_getElem kl])
        have sS' := sS.fit hin gs hkf'
        rw [List.getElem?_eq_getElem kl] at sS'
        repeat w_left
        refine sok_list (le6 _ _ eRb) k0 (v := .loc tt) (by rw [List.getElem?_map, htk]; rfl) ?_
        repeat w_left
        refine sok_tuple ett (by decide) rfl ?_
        repeat w_left
        refine ⟨rsa, _, 1, rfl, rfl, by decide, el6, fun s1 ls1 ns1 => ?_⟩
        have w1 := le_upd (o := .list ((strsV L).drop (1 : Int).toNat)) ns1
        refine bok_add_list (vs := strsV g[k.toNat].2) (ws := strsV (L.drop 1)) (w1 _ _ etb) (by rw [upd_at]; simp) ?_ fun s2 ls2 ns2 => ?_
        · have := gs _ (List.getElem_mem kl)
          have := sS.small
          simp; omega
        have w2 := w1.trans (le_upd (o := .list (strsV g[k.toNat].2 ++ strsV (L.drop 1))) ns2)
        repeat w_left
        refine ⟨⟨q1, q2, q3, q4, q5, q6, q7, le6.trans w2, s2, ok, D, _, S ++ [k], rfl, q9, ?_, ?_, w2 _ _ ed6, by rw [upd_at]; simp, w2 _ _ es6, sS'⟩, okr⟩
        · exact (ne_of_new (w1 _ _ ed6) ns2).symm
        · exact (ne_of_new (w1 _ _ es6) ns2).symm
      · rw [if_neg (by simpa using hkf)]
        have hkf' : k ∉ fits (g.map (·.1)) L g.length := by rw [gl]; exact hkf
        repeat w_left
        exact ⟨⟨q1, q2, q3, q4, q5, q6, q7, le6, rsa, false, D, L, S ++ [k], q8, rfl, a1, a2, ed6, el6, es6, sS.bad hL hkf'⟩, okr⟩
    · rintro ρ₂ H₂ ⟨q1, q2, q3, q4, q5, q6, q7, le, rsa, ok, D, L, S, q8, q9, a1, a2, ed, el, es, sS⟩ okr
      rw [rng_len] at sS
      exact ⟨q4, q5, q6, q7, le, rsa, ok, D, L, S, q8, q9, ed, el, es, sS⟩
  rintro ρ₂ H2 ⟨q4, q5, q6, q7, le, rsa, ok, D, L, S, q8, q9, ed, el, es, sS⟩
  have le0 : H'.le H2 := leb.trans le
  have eh0 : (g.headD ("", [])).1 = r0.1 := by rw [hg0]; rfl
  refine exs_cons (ex_Assign (.inl rfl) (ev_none ?_))
  refine exs_mid (fun ρ₃ H₃ => ρ₃ "g" = some (.loc R) ∧ ρ₃ "body" = some (.loc bo) ∧ ρ₃ "steps" = some (.loc st) ∧ H2.le H₃ ∧ ∃ wv, ρ₃ "want" = some wv ∧ OptAt H₃ wv (rep g (dd (g.map (·.1))) [r0.1] S) ∧ (∀ b, wv = .loc b → b ≠ bo)) ?_ ?_
  · repeat w_left
    rw [sS.is]
    cases ok with
    | true =>
      rw [if_pos rfl, if_pos rfl]
      repeat w_left
      refine bok_add_list ed el (by have := sS.small; simp; omega) fun b lb nb => ?_
      repeat w_left
      exact ⟨q4, q5, q6, le_upd nb, _, rfl, ⟨b, rfl, by rw [upd_at]; simp⟩, fun b' e => by cases e; exact (ne_of_new (le0 _ _ ebo) nb).symm⟩
    | false =>
      rw [if_neg (by decide), if_neg (by decide)]
      repeat w_left
      exact ⟨q4, q5, q6, HV.le_refl _, _, rfl, rfl, fun b' e => by cases e⟩
  rintro ρ₃ H3 ⟨p1, p2, p3, le3, wv, p4, ow, nw⟩
  have rs3 := (rsb.le le).le le3
  have eR3 := le3 _ _ (le _ _ eRb)
  have ebo3 := le3 _ _ (le _ _ ebob)
  have es3 := le3 _ _ es
  refine exs_cons (ex_AssignComp (its_list ?_) rfl)
  repeat w_left
  refine ⟨R, _, rfl, eR3, ?_⟩
  refine ⟨fun i ys H' => H3.le H' ∧ ∃ ts' : List Addr, ys = ts'.map V.loc ∧ RulesAt H' (fun _ => True) ts' (g.take i), ⟨⟨HV.le_refl _, [], rfl, .nil⟩, ?_⟩, ?_⟩
  · rintro i v ys H4 hv ⟨le4, ts', rfl, rs4⟩ ok4 env'
    obtain ⟨t, b, h, bd, rfl, hgi, _, _, et, eb⟩ := rs3.get' hv
    have hbd := gs _ (List.mem_of_getElem? hgi)
    have hbd : bd.length ≤ 3 := hbd
    refine ifs_nil ?_
    show Ev _ _ _ _ _
    repeat w_left
    refine sok_tuple (le4 _ _ et) (by decide) rfl ?_
    repeat w_left
    refine sok_tuple (le4 _ _ et) (by decide) rfl ?_
    repeat w_left
    refine ⟨by decide, fun c1 lc1 nc1 => ?_⟩
    have x1 := le_upd (o := .list []) nc1
    refine bok_add_list (ws := []) (x1 _ _ (le4 _ _ eb)) (upd_at _ _ _) (by simp; omega) fun c2 lc2 nc2 => ?_
    rw [List.append_nil]
    have x2 := x1.trans (le_upd (o := .list (strsV bd)) nc2)
    repeat w_left
    refine ⟨by simp, fun c3 lc3 nc3 => ?_⟩
    have x3 := x2.trans (le_upd (o := .tuple [.str h, .loc c2]) nc3)
    have c23 : c2 ≠ c3 := ne_of_new (upd_at _ _ _) nc3
    refine ⟨⟨le4.trans x3, ts' ++ [c3], by simp, ?_⟩, x3 _ _ ok4⟩
    rw [take_snoc hgi]
    exact RulesAt.append (rs4.le x3) (.cons trivial trivial (upd_at _ _ _) (upd_keep c23 (upd_at _ _ _)) .nil)
  rintro ys H4 ⟨le4, ts', rfl, rs4⟩ kp lkp nkp
  have hlen : (Src.list R (ts.map V.loc)).vals.length = g.length := by show (ts.map V.loc).length = _; rw [List.length_map, hts]
  rw [hlen, List.take_length] at rs4
  have x5 := le_upd (o := .list (ts'.map V.loc)) nkp
  have gk : GrAt (upd H4 kp (.list (ts'.map V.loc))) (fun _ => True) kp g := ⟨ts', upd_at _ _ _, rs4.le x5⟩
  have gg : GrAt (upd H4 kp (.list (ts'.map V.loc))) (fun _ => True) R g := ⟨ts, (le4.trans x5) _ _ eR3, rs3.le (le4.trans x5)⟩
  have ebo5 := (le4.trans x5) _ _ ebo3
  have es5 := (le4.trans x5) _ _ es3
  have ow5 := ow.le (le4.trans x5)
  generalize upd H4 kp (.list (ts'.map V.loc)) = H5 at gk gg ebo5 es5 ow5
  repeat w_left
  refine ⟨by decide, fun c1 lc1 nc1 => ?_⟩
  have x1 := le_upd (o := .list []) nc1
  have S5 := sS.len
  refine bok_add_list (ws := []) (x1 _ _ es5) (upd_at _ _ _) (by simp; omega) fun nu lnu nnu => ?_
  rw [List.append_nil]
  have x2 := x1.trans (le_upd (o := .list (intsV S)) nnu)
  have enu := upd_at (upd H5 c1 (.list [])) nu (.list (intsV S))
  generalize upd (upd H5 c1 (.list [])) nu (.list (intsV S)) = H6 at x2 enu
  repeat w_left
  refine replayed_ok (by exact G.cast rfl rfl) hk1 (gg.le x2) (by omega) hne (fun r hr => Nat.le_trans (gs r hr) (by decide)) (x2 _ _ es5) (by omega) fun H7 gv le7 og ngv => ?_
  rw [eh0] at og
  repeat w_left
  refine cok_ne_gram ((gg.le x2).le le7) ((gk.le x2).le le7) ?_
  repeat w_left
  rw [show (!decide (g = g)) = false by simp, if_neg (by decide)]
  repeat w_left
  refine cok_ne_ints (le7 _ _ (x2 _ _ es5)) (le7 _ _ enu) ?_
  repeat w_left
  rw [show (!decide (S = S)) = false by simp, if_neg (by decide)]
  refine exs_nil (exs_cons (ex_append ?_))
  repeat w_left
  have ebo7 := le7 _ _ (x2 _ _ ebo5)
  refine ⟨bo, rfl, ⟨_, ebo7⟩, ?_⟩
  repeat w_left
  refine ⟨_, ebo7, lbo, by simp; omega, ?_⟩
  have ngv' : ∀ b, gv = .loc b → b ≠ bo := fun b e => (ne_of_new (x2 _ _ ebo5) (ngv b e)).symm
  repeat w_left
  refine cok_ne_opt (og.turn ngv') (((ow5.le x2).le le7).turn nw) ?_
  repeat w_left
  rw [if_neg (by simp)]
  repeat w_left
  rfl
end Mine
end
section
set_option maxRecDepth 100000
set_option Elab.async false
set_option linter.unusedVariables false
open PySem PySem.W PyProof.Rows
set_option maxHeartbeats 8000000
theorem PySem.Challenge.cw_k18_0025_holds : PySem.Challenge.rw_k18_0025.Holds := by
  apply Mine.hd
  w_strict (
  k_fill;
  intro w s₀ s₁ mg mb G Y fa o pm cd doc dV kV ho hd hcd hD hmg hg args vals as hpre hlay hrd hwl hlo;
  have KX := kIn_of Y;
  refine Ground.open G ?_;
  intro T B D TE TW;
  wrow_args hpre hlay hrd hwl hlo;
  refine Mine.law_top (K := Mine.hd.heap_39) (la := 42) (ns := ?ns) (fd := Mine.fdAt (Mine.hd.heap_39 w.params) 42) T ?i KX ?W hmg ?n ?l ?F [(29, .tuple (Mine.strsV Mine.pool)), (30, .tuple (Mine.strsV Mine.names))] ?gl ?nd ?h1 ?ne ?r ?p hg ?h)
  case W => assumption
  case i => decide +kernel
  case n => rfl
  case l => omega
  case F => exact fun C hC G => by have := Mine.fn_law G; rw [hC] at this; exact this
  case gl =>
    intro q hq
    simp only [List.mem_cons, List.not_mem_nil, or_false] at hq
    rcases hq with rfl | rfl
    · refine Mine.obj_tuple (C := ⟨_, w, s₁.heap, default, 0, [], 0⟩) (KX 29 _ rfl) ?_ (by decide)
      repeat first | exact .nil | refine .cons (Mine.abs_str (by decide +kernel)) ?_
    · refine Mine.obj_tuple (C := ⟨_, w, s₁.heap, default, 0, [], 0⟩) (KX 30 _ rfl) ?_ (by decide)
      repeat first | exact .nil | refine .cons (Mine.abs_str (by decide +kernel)) ?_
  case nd => decide
  case h1 => intro q hq; simp only [List.mem_cons, List.not_mem_nil, or_false] at hq; rcases hq with rfl | rfl <;> decide
  case ne => intro q hq ns; simp only [List.mem_cons, List.not_mem_nil, or_false] at hq; rcases hq with rfl | rfl <;> simp
  case r => exact fun _ => rfl
  case p => first | rfl | wrow_post
  case h => exact fun C G hC hk H a ha hgl => by have := Mine.law_ok G (by omega) ha (hgl (29, .tuple (Mine.strsV Mine.pool)) (by simp)) (hgl (30, .tuple (Mine.strsV Mine.names)) (by simp)); rw [hC] at this; exact this
end
