import PyProof.Rows.All
import Wide.All
import OpenK.AllK
import Wide.FinOn
import Lean
import PySem.Challenge.RW_k18_0052
section
set_option maxRecDepth 100000
set_option Elab.async false
set_option linter.unusedVariables false
namespace Mine
open PySem PySem.Spec PyProof.Rows
/-- abstract values: values without tokens -/
inductive V where
  | none | bool (b : Bool) | int (i : Int) | str (s : Str) | loc (a : Addr) | typ (n : String)
noncomputable def absV : Value → Option V
  | .none => some .none
  | .bool b => some (.bool b)
  | .int i _ => some (.int i)
  | .str x _ => if PyData.strOk x = true then some (.str x) else Option.none
  | .ref a => some (.loc a)
  | .type n => some (.typ n)
  | _ => Option.none
/-- abstract objects -/
inductive AO where
  | list (vs : List V) | tuple (vs : List V) | dict (kvs : List (Str × V))
abbrev HV := Addr → Option AO
abbrev EV := Str → Option V
noncomputable def upd (H : HV) (a : Addr) (o : AO) : HV := fun b => if b = a then some o else H b
noncomputable def put (ρ : EV) (x : Str) (v : V) : EV := fun y => if y = x then some v else ρ y
noncomputable def HV.le (H H' : HV) : Prop := ∀ a o, H a = some o → H' a = some o
inductive ValsAre : List Value → List V → Prop
  | nil : ValsAre [] []
  | cons {x : Value} {v : V} {xs : List Value} {vs : List V} : absV x = some v → ValsAre xs vs → ValsAre (x :: xs) (v :: vs)
theorem ValsAre.length {xs : List Value} {vs : List V} (h : ValsAre xs vs) : xs.length = vs.length := by
  induction h with
  | nil => rfl
  | cons _ _ ih => simp [ih]
theorem ValsAre.append {xs ys : List Value} {vs us : List V} (h : ValsAre xs vs) (k : ValsAre ys us) : ValsAre (xs ++ ys) (vs ++ us) := by
  induction h with
  | nil => exact k
  | cons a _ ih => exact .cons a ih
theorem ValsAre.one {x : Value} {v : V} (h : absV x = some v) : ValsAre [x] [v] := .cons h .nil
theorem ValsAre.get {xs : List Value} {vs : List V} (h : ValsAre xs vs) {i : Nat} {v : V} (e : vs[i]? = some v) : ∃ x, xs[i]? = some x ∧ absV x = some v := by
  induction h generalizing i with
  | nil => simp at e
  | @cons x u xs vs a _ ih =>
    cases i with
    | zero => simp at e; subst e; exact ⟨x, rfl, a⟩
    | succ i => simpa using ih (by simpa using e)
theorem ValsAre.take {xs : List Value} {vs : List V} (h : ValsAre xs vs) (n : Nat) : ValsAre (xs.take n) (vs.take n) := by
  induction h generalizing n with
  | nil => simp; exact .nil
  | cons a _ ih =>
    cases n with
    | zero => simp; exact .nil
    | succ n => simp only [List.take_succ_cons]; exact .cons a (ih n)
theorem ValsAre.drop {xs : List Value} {vs : List V} (h : ValsAre xs vs) (n : Nat) : ValsAre (xs.drop n) (vs.drop n) := by
  induction h generalizing n with
  | nil => simp; exact .nil
  | cons a r ih =>
    cases n with
    | zero => simp only [List.drop_zero]; exact .cons a r
    | succ n => simp only [List.drop_succ_cons]; exact ih n
section
variable (prog : Program) (w : World)
/-- the object at a is o -/
noncomputable def ObjIs (h : Heap) (a : Addr) : AO → Prop
  | .list vs => ∃ its : List Value, h.PlainList a its.toArray ∧ ValsAre its vs ∧ vs.length ≤ 1048576
  | .tuple vs => ∃ its : List Value, h.IsTuple a its.toArray ∧ ValsAre its vs ∧ vs.length ≤ 1048576
  | .dict kvs => ∃ cs : List (Str × Value), h.DictOf (strKind prog w) a cs ∧ cs.map (·.1) = kvs.map (·.1) ∧ ValsAre (cs.map (·.2)) (kvs.map (·.2)) ∧ kvs.length ≤ 1048576
end
/-- the room that k nested calls want -/
structure Rm (A : Around) (k : Nat) : Prop where
  hd : A.handled = Option.none
  dp : A.depth + k ≤ 900
  un : A.units + 8 * k ≤ 9000
structure EnvOk (env : Env) (nms : List (Str × NameKind)) : Prop where
  kind : env.scope.kind = .function
  glob : env.globals = mainGlobals
  bui : env.builtins = builtinsNs
  names : env.scope.names = nms
/-- where the walk stands: the program, the world, the heap ahead of the law's call, the activation's names, the first address of its own things, how many calls deep it may go -/
structure Cx where
  prog : Program
  w : World
  B : Heap
  env : Env
  lo : Nat
  nms : List (Str × NameKind)
  k : Nat
/-- a table of a code object: the one kind of thing that may grow beside the ledger -/
noncomputable def tabl (o : Obj) : Bool := match o.cls, o.data with
  | .none, .fields _ => true
  | _, _ => false
theorem tabl_dict {o : Obj} {xs : Array DictEntry} {n : Nat} (h : o.data = .dict xs n) : tabl o = false := by
  obtain ⟨c, d, dt, sl⟩ := o; cases h; unfold tabl; cases c <;> rfl
theorem tabl_cell {o : Obj} {v : Option Value} (h : o.data = .cell v) : tabl o = false := by
  obtain ⟨c, d, dt, sl⟩ := o; cases h; unfold tabl; cases c <;> rfl
theorem tabl_func {o : Obj} {f : FuncData} (h : o.data = .func f) : tabl o = false := by
  obtain ⟨c, d, dt, sl⟩ := o; cases h; unfold tabl; cases c <;> rfl
theorem tabl_type {o : Obj} {n : String} (h : o.cls = .type n) : tabl o = false := by
  obtain ⟨c, d, dt, sl⟩ := o; cases h; rfl
/-- a code object and its table -/
noncomputable def CT (h : Heap) (c P : Addr) (ps : Array Value) : Prop := h.IsCode c P ps ∧ h.TableAt c P ps
/-- code objects keep their tables, which may grow -/
noncomputable def TabK (h h' : Heap) : Prop := ∀ c P ps, CT h c P ps → ∃ ps', CT h' c P ps'
theorem isCode_at {h h' : Heap} {c P : Addr} {ps : Array Value} (x : CT h c P ps) (k : ∀ o, h.get? c = some o → h'.get? c = some o) (k' : ∀ o, h.get? P = some o → h'.get? P = some o) : CT h' c P ps := by
  obtain ⟨⟨o, vs, file, tf, flags, tg, inF, text, tt, op, a, r1, r2, r3, r4, r5, r6, b, r⟩, ⟨o', vs', a', r'⟩, b'⟩ := x
  exact ⟨⟨o, vs, file, tf, flags, tg, inF, text, tt, op, k _ a, r1, r2, r3, r4, r5, r6, k' _ b, r⟩, ⟨o', vs', k _ a', r'⟩, k' _ b'⟩
theorem isCode_there {h : Heap} {c P : Addr} {ps : Array Value} (x : CT h c P ps) : (∃ o vs, h.get? c = some o ∧ o.data = .fields vs) ∧ ∃ o vs, h.get? P = some o ∧ o.data = .fields vs := by
  obtain ⟨⟨o, vs, file, tf, flags, tg, inF, text, tt, op, a, r1, r2, r3, r4, r5, r6, b, r, _⟩, _⟩ := x
  exact ⟨⟨o, vs, a, r1⟩, op, ps, b, r⟩
theorem TabK.refl (h : Heap) : TabK h h := fun c P ps x => ⟨ps, x⟩
theorem TabK.trans {h h₁ h₂ : Heap} (a : TabK h h₁) (b : TabK h₁ h₂) : TabK h h₂ := fun c P ps x => let ⟨ps', y⟩ := a c P ps x; b c P ps' y
theorem TabK.of_keep {h h' : Heap} (k : ∀ b o, h.get? b = some o → h'.get? b = some o) : TabK h h' := fun c P ps x => ⟨ps, isCode_at x (k _) (k _)⟩
theorem TabK.but {h h' : Heap} {a : Addr} (hx : ∀ b o, b ≠ a → h.get? b = some o → h'.get? b = some o) (ha : ∀ o vs, h.get? a = some o → o.data ≠ .fields vs) : TabK h h' := fun c P ps x => by
  obtain ⟨⟨o, vs, e, d⟩, o', vs', e', d'⟩ := isCode_there x
  have h1 : c ≠ a := by rintro rfl; exact ha _ _ e d
  have h2 : P ≠ a := by rintro rfl; exact ha _ _ e' d'
  exact ⟨ps, isCode_at x (fun o e => hx _ o h1 e) fun o e => hx _ o h2 e⟩
theorem TabK.since {h h₁ h' : Heap} (a : TabK h h₁) (hx : ∀ b o o₀, h.get? b = some o₀ → h₁.get? b = some o → h'.get? b = some o) : TabK h h' := fun c P ps x => by
  obtain ⟨ps', y⟩ := a c P ps x
  obtain ⟨⟨o, vs, e, d⟩, o', vs', e', d'⟩ := isCode_there x
  exact ⟨ps', isCode_at y (fun o₁ e₁ => hx _ _ _ e e₁) fun o₁ e₁ => hx _ _ _ e' e₁⟩
/-- how the abstract state lies in the heap -/
structure Rel (C : Cx) (ρ : EV) (H : HV) (h : Heap) : Prop where
  eok : EnvOk C.env C.nms
  base : ∀ b o, C.B.get? b = some o → tabl o = false → h.get? b = some o
  old : OldK C.B h
  blo : C.B.objs.size ≤ C.lo
  view : ∀ a o, H a = some o → ObjIs C.prog C.w h a o
  dom : ∀ x v, ρ x = some v → C.nms.lookup x = some .local ∨ C.nms.lookup x = some .cell ∨ C.nms.lookup x = some .free
  loc : ∃ m, h.Ns C.env.locals m ∧ ∀ x v, C.nms.lookup x = some .local → ρ x = some v → ∃ u, m x = some u ∧ absV u = some v
  cel : ∀ x, C.nms.lookup x = some .cell ∨ C.nms.lookup x = some .free → ∃ c u, C.env.cells.lookup x = some c ∧ h.IsCell c u ∧ ∀ v, ρ x = some v → ∃ y, u = some y ∧ absV y = some v
  apart : ∀ x y c, (x, c) ∈ C.env.cells → (y, c) ∈ C.env.cells → x = y
  cloc : ∀ x c, (x, c) ∈ C.env.cells → c ≠ C.env.locals ∧ C.lo ≤ c ∧ H c = Option.none ∧ ∃ o, h.get? c = some o
  hloc : H C.env.locals = Option.none
  lloc : C.lo ≤ C.env.locals
  sysm : H sysModules = Option.none ∧ ∃ o, h.get? sysModules = some o
  code : TabK C.B h
/-- H' grows at addresses that are new -/
noncomputable def Gr (H H' : HV) (h : Heap) : Prop := ∀ b o, h.get? b = some o → H b = Option.none → H' b = Option.none
theorem Gr.refl (H : HV) (h : Heap) : Gr H H h := fun _ _ _ e => e
theorem Gr.trans {H H' H'' : HV} {h h' : Heap} (g : Gr H H' h) (k : ∀ b o, h.get? b = some o → ∃ o', h'.get? b = some o') (g' : Gr H' H'' h') : Gr H H'' h :=
  fun b o e n => let ⟨_, e'⟩ := k b o e; g' b _ e' (g b o e n)
/-- generators may come, none goes -/
noncomputable def GB (a b : Array GenState) : Prop := (AllBare a → AllBare b) ∧ a.size ≤ b.size
theorem GB.refl (a : Array GenState) : GB a a := ⟨fun x => x, Nat.le_refl _⟩
theorem GB.trans {a b c : Array GenState} (x : GB a b) (y : GB b c) : GB a c := ⟨fun z => y.1 (x.1 z), Nat.le_trans x.2 y.2⟩
/-- what an expression leaves: all that stood stands, tables apart -/
structure Kp (s s' : Shared) : Prop where
  get : ∀ b o, s.heap.get? b = some o → tabl o = false → s'.heap.get? b = some o
  there : ∀ b o, s.heap.get? b = some o → ∃ o', s'.heap.get? b = some o'
  os : s'.os = s.os
  gens : GB s.gens s'.gens
  tab : TabK s.heap s'.heap
theorem kp_refl (s : Shared) : Kp s s := ⟨fun _ _ e _ => e, fun _ o e => ⟨o, e⟩, rfl, GB.refl _, .refl _⟩
theorem Kp.trans {s s₁ s₂ : Shared} (a : Kp s s₁) (b : Kp s₁ s₂) : Kp s s₂ :=
  ⟨fun x o e t => b.get x o (a.get x o e t) t, fun x o e => let ⟨o', e'⟩ := a.there x o e; b.there x o' e', b.os.trans a.os, a.gens.trans b.gens, a.tab.trans b.tab⟩
theorem kp_tok (s : Shared) (t : Nat) : Kp s { s with toks := t } := ⟨fun _ _ e _ => e, fun _ o e => ⟨o, e⟩, rfl, GB.refl _, .refl _⟩
theorem kp_of {s : Shared} {h : Heap} (t : Nat) (k : ∀ b o, s.heap.get? b = some o → h.get? b = some o) : Kp s { s with heap := h, toks := t } :=
  ⟨fun b o e _ => k b o e, fun b o e => ⟨o, k b o e⟩, rfl, GB.refl _, .of_keep k⟩
section
variable {prog : Program} {w : World} {h h' : Heap}
theorem ObjIs.at {a : Addr} {o : AO} (x : ObjIs prog w h a o) (k : ∀ ob, h.get? a = some ob → tabl ob = false → h'.get? a = some ob) : ObjIs prog w h' a o := by
  cases o with
  | list vs => obtain ⟨its, ⟨n, e⟩, q⟩ := x; exact ⟨its, ⟨n, k _ e rfl⟩, q⟩
  | tuple vs => obtain ⟨its, ⟨ob, e, c, r⟩, q⟩ := x; exact ⟨its, ⟨ob, k _ e (tabl_type c), c, r⟩, q⟩
  | dict kvs => obtain ⟨cs, ⟨ob, es, ep, e, c, d, r⟩, q⟩ := x; exact ⟨cs, ⟨ob, es, ep, k _ e (tabl_dict d), c, d, r⟩, q⟩
theorem ObjIs.there {a : Addr} {o : AO} (x : ObjIs prog w h a o) : ∃ ob, h.get? a = some ob := by
  cases o with
  | list vs => obtain ⟨its, ⟨n, e⟩, q⟩ := x; exact ⟨_, e⟩
  | tuple vs => obtain ⟨its, ⟨ob, e, r⟩, q⟩ := x; exact ⟨ob, e⟩
  | dict kvs => obtain ⟨cs, ⟨ob, es, ep, e, r⟩, q⟩ := x; exact ⟨ob, e⟩
theorem ns_at {a : Addr} {m : Str → Option Value} (x : h.Ns a m) (k : ∀ ob, h.get? a = some ob → tabl ob = false → h'.get? a = some ob) : h'.Ns a m :=
  let ⟨o, es, ep, e, d, r⟩ := x; ⟨o, es, ep, k _ e (tabl_dict d), d, r⟩
theorem cell_at {a : Addr} {v : Option Value} (x : h.IsCell a v) (k : ∀ ob, h.get? a = some ob → tabl ob = false → h'.get? a = some ob) : h'.IsCell a v :=
  let ⟨o, e, d⟩ := x; ⟨o, k _ e (tabl_cell d), d⟩
end
section
variable {C : Cx} {ρ : EV} {H H' : HV} {h h' : Heap}
theorem Rel.kindOf (R : Rel C ρ H h) (x : Str) : C.env.kindOf x = C.nms.lookup x := by unfold Env.kindOf; rw [R.eok.names]
theorem Rel.new (R : Rel C ρ H h) : H h.objs.size = Option.none := by
  cases e : H h.objs.size with
  | none => rfl
  | some o => obtain ⟨ob, eo⟩ := (R.view _ _ e).there; exact absurd (Heap.lt_size eo) (Nat.lt_irrefl _)
theorem Rel.lo_size (R : Rel C ρ H h) : C.lo ≤ h.objs.size := by
  obtain ⟨m, hn, _⟩ := R.loc
  exact Nat.le_trans R.lloc (Nat.le_of_lt hn.lt)
theorem Rel.stepT (R : Rel C ρ H h) (k : ∀ b o, h.get? b = some o → tabl o = false → h'.get? b = some o) (th : ∀ b o, h.get? b = some o → ∃ o', h'.get? b = some o') (old : OldK C.B h') (tb : TabK h h')
    (v : ∀ a o, H' a = some o → ObjIs C.prog C.w h' a o) (g : Gr H H' h) : Rel C ρ H' h' := by
  obtain ⟨m, hn, hm⟩ := R.loc
  refine ⟨R.eok, fun b o e t => k _ _ (R.base b o e t) t, old, R.blo, v, R.dom, ⟨m, ns_at hn (k _), hm⟩, fun x hx => ?_, R.apart, fun x c hm => ?_, ?_, R.lloc, ?_, R.code.trans tb⟩
  · obtain ⟨c, u, a1, a2, a3⟩ := R.cel x hx
    exact ⟨c, u, a1, cell_at a2 (k _), a3⟩
  · obtain ⟨h1, h2, h3, o, h4⟩ := R.cloc x c hm
    exact ⟨h1, h2, g c o h4 h3, th _ _ h4⟩
  · obtain ⟨o, _, _, ho, _⟩ := hn
    exact g _ o ho R.hloc
  · obtain ⟨h1, o, h2⟩ := R.sysm
    exact ⟨g _ o h2 h1, th _ _ h2⟩
theorem Rel.step (R : Rel C ρ H h) (k : ∀ b o, h.get? b = some o → h'.get? b = some o) (v : ∀ a o, H' a = some o → ObjIs C.prog C.w h' a o) (g : Gr H H' h) : Rel C ρ H' h' :=
  R.stepT (fun b o e _ => k b o e) (fun b o e => ⟨o, k b o e⟩) (R.old.step_keeps k) (.of_keep k) v g
theorem Rel.keep (R : Rel C ρ H h) (k : ∀ b o, h.get? b = some o → h'.get? b = some o) : Rel C ρ H h' :=
  R.step k (fun a o e => (R.view a o e).at fun ob e' _ => k a ob e') (Gr.refl _ _)
/-- a new object, behind others that are forgotten -/
theorem Rel.mint (R : Rel C ρ H h) {a : Addr} {o : AO} (k : ∀ b o, h.get? b = some o → h'.get? b = some o) (ha : h.objs.size ≤ a) (x : ObjIs C.prog C.w h' a o) : Rel C ρ (upd H a o) h' ∧ Gr H (upd H a o) h := by
  have ne : ∀ b o, h.get? b = some o → b ≠ a := fun b o e => Nat.ne_of_lt (Nat.lt_of_lt_of_le (Heap.lt_size e) ha)
  have g : Gr H (upd H a o) h := fun b o' e n => by
    unfold upd; rw [if_neg (ne b o' e)]; exact n
  refine ⟨R.step k (fun b o' e => ?_) g, g⟩
  unfold upd at e
  split at e
  · rename_i ea; cases e; subst ea; exact x
  · exact (R.view b o' e).at fun ob e _ => k _ _ e
theorem Rel.fresh (R : Rel C ρ H h) {a : Addr} (ha : h.objs.size ≤ a) : C.lo ≤ a ∧ H a = Option.none := by
  refine ⟨Nat.le_trans R.lo_size ha, ?_⟩
  cases e : H a with
  | none => rfl
  | some o => obtain ⟨ob, eo⟩ := (R.view _ _ e).there; exact absurd (Heap.lt_size eo) (Nat.not_lt.mpr ha)
end
noncomputable def isV (u : Value) (v : V) : Prop := absV u = some v
section
variable {α β : Type} (C : Cx) (r : α → β → Prop)
/-- where an expression's tree ends -/
noncomputable def Done (ρ : EV) (H : HV) (s : Shared) (Q : β → HV → Prop) (u : α) (s' : Shared) : Prop :=
  ∃ v H', r u v ∧ Kp s s' ∧ Rel C ρ H' s'.heap ∧ Gr H H' s.heap ∧ Q v H'
/-- the tree t, from ρ and H, ends in Q and keeps the heap -/
noncomputable def TG (t : Sem α) (ρ : EV) (H : HV) (Q : β → HV → Prop) : Prop :=
  ∀ (A : Around) (s : Shared), Rm A C.k → Rel C ρ H s.heap → wpAny (model C.prog C.w) A t (Done C r ρ H s Q) (fun _ _ => False) s
end
abbrev nay : Value → Shared → Prop := fun _ _ => False
section
variable {C : Cx} {ρ : EV} {H H' : HV} {A : Around} {s : Shared} {α β : Type} {r : α → β → Prop}
theorem TG.use {t : Sem α} {Q : β → HV → Prop} (x : TG C r t ρ H Q) (hA : Rm A C.k) (R : Rel C ρ H s.heap) {P : α → Shared → Prop} {E : Value → Shared → Prop}
    (g : ∀ u v s₁ H₁, r u v → Kp s s₁ → Rel C ρ H₁ s₁.heap → Gr H H₁ s.heap → Q v H₁ → P u s₁) : wpAny (model C.prog C.w) A t P E s :=
  wpAny_mono (x A s hA R) (fun u s₁ ⟨v, H₁, a, b, c, d, e⟩ => g u v s₁ H₁ a b c d e) fun _ _ e => e.elim
theorem Done.trans {s s₁ s₂ : Shared} {H H₁ : HV} {Q : β → HV → Prop} {u : α} (K : Kp s s₁) (G : Gr H H₁ s.heap) (d : Done C r ρ H₁ s₁ Q u s₂) : Done C r ρ H s Q u s₂ := by
  obtain ⟨v, H', a, b, c, d, e⟩ := d
  exact ⟨v, H', a, K.trans b, c, G.trans (K.there) d, e⟩
theorem Done.v {Q : V → HV → Prop} {u : Value} {v : V} (R : Rel C ρ H s.heap) (e : absV u = some v) (q : Q v H) (t : Nat) : Done C isV ρ H s Q u { s with toks := t } :=
  ⟨v, H, e, kp_tok _ _, R, Gr.refl _ _, q⟩
theorem Done.b {Q : Bool → HV → Prop} {b : Bool} (R : Rel C ρ H s.heap) (q : Q b H) : Done C (fun a b => a = b) ρ H s Q b s :=
  ⟨b, H, rfl, kp_refl _, R, Gr.refl _ _, q⟩
theorem Done.new {Q : V → HV → Prop} {a : Addr} {h' : Heap} {o : AO} (R : Rel C ρ H s.heap) (k : ∀ b o, s.heap.get? b = some o → h'.get? b = some o) (ha : s.heap.objs.size ≤ a) (x : ObjIs C.prog C.w h' a o)
    (q : ∀ a, C.lo ≤ a → H a = Option.none → Q (.loc a) (upd H a o)) (t : Nat) : Done C isV ρ H s Q (.ref a) { s with heap := h', toks := t } :=
  ⟨_, _, rfl, kp_of _ k, (R.mint k ha x).1, (R.mint k ha x).2, q _ (R.fresh ha).1 (R.fresh ha).2⟩
end
end Mine
end
section
set_option maxRecDepth 100000
set_option Elab.async false
set_option linter.unusedVariables false
namespace Mine
open PySem PySem.Spec PyProof.Rows
abbrev Ev (C : Cx) (e : Expr) (ρ : EV) (H : HV) (Q : V → HV → Prop) : Prop := TG C isV (eval e C.env) ρ H Q
/-- a test: a tree that gives a Bool -/
abbrev Tst (C : Cx) (e : Expr) (ρ : EV) (H : HV) (Q : Bool → HV → Prop) : Prop := TG C (fun a b => a = b) (isTrue e C.env (eval e C.env)) ρ H Q
noncomputable def BOK (C : Cx) (op : Operator) (a b : V) (ρ : EV) (H : HV) (Q : V → HV → Prop) : Prop := ∀ u u', isV u a → isV u' b → TG C isV (binaryOp op u u') ρ H Q
noncomputable def COK (C : Cx) (op : CmpOp) (a b : V) (ρ : EV) (H : HV) (Q : V → HV → Prop) : Prop := ∀ u u', isV u a → isV u' b → TG C isV (compareOp op u u') ρ H Q
noncomputable def TrOK (C : Cx) (a : V) (ρ : EV) (H : HV) (Q : Bool → HV → Prop) : Prop := ∀ u, isV u a → TG C (fun a b => a = b) (truthy u) ρ H Q
noncomputable def GlobIs (C : Cx) (x : Str) (u : Value) : Prop :=
  ∃ mg, C.B.Ns mainGlobals mg ∧ (mg x = some u ∨ (mg x = Option.none ∧ ∃ mb, C.B.Ns builtinsNs mb ∧ mb x = some u))
theorem abs_str {x : Str} {t : Tok} (h : PyData.strOk x = true) : absV (.str x t) = some (.str x) := by simp [absV, h]
theorem isV_int {u : Value} {i : Int} (h : isV u (.int i)) : ∃ t, u = .int i t := by
  unfold isV at h
  cases u <;> simp only [absV] at h <;> (try split at h) <;> cases h; exact ⟨_, rfl⟩
theorem isV_str {u : Value} {x : Str} (h : isV u (.str x)) : ∃ t, u = .str x t ∧ PyData.strOk x = true := by
  unfold isV at h
  cases u <;> simp only [absV] at h <;> (try split at h) <;> cases h; exact ⟨_, rfl, by assumption⟩
theorem isV_bool {u : Value} {b : Bool} (h : isV u (.bool b)) : u = .bool b := by
  unfold isV at h
  cases u <;> simp only [absV] at h <;> (try split at h) <;> cases h; rfl
theorem isV_none {u : Value} (h : isV u .none) : u = .none := by
  unfold isV at h
  cases u <;> simp only [absV] at h <;> (try split at h) <;> cases h; rfl
theorem isV_loc {u : Value} {a : Addr} (h : isV u (.loc a)) : u = .ref a := by
  unfold isV at h
  cases u <;> simp only [absV] at h <;> (try split at h) <;> cases h; rfl
section
variable {C : Cx} {ρ : EV} {H : HV} {Q : V → HV → Prop} {A : Around} {s : Shared}
theorem ev_int {i : Int} {kd : Nat} {pos : Pos} (q : Q (.int i) H) : Ev C (.Constant (.int i) kd pos) ρ H Q :=
  fun A s hA R => wpAny_Constant_int (Done.v R rfl q _)
theorem ev_str {x : Str} {kd : Nat} {pos : Pos} (q : Q (.str x) H) (hx : PyData.strOk x = true := by decide) : Ev C (.Constant (.str x) kd pos) ρ H Q :=
  fun A s hA R => Calls.Constant_str (Done.v R (abs_str hx) q _)
theorem ev_bool {b : Bool} {kd : Nat} {pos : Pos} (q : Q (.bool b) H) : Ev C (.Constant (.bool b) kd pos) ρ H Q :=
  fun A s hA R => wpAny_pure (Done.v R rfl q s.toks)
theorem ev_none {kd : Nat} {pos : Pos} (q : Q .none H) : Ev C (.Constant .none kd pos) ρ H Q :=
  fun A s hA R => wpAny_pure (Done.v R rfl q s.toks)
theorem ev_Name {x : Str} {pos : Pos} {v : V} (e : ρ x = some v) (q : Q v H) (hd : (x == ("__debug__" : Str)) = false := by decide) (hn : (x == ("__classdict__" : Str)) = false := by decide) : Ev C (.Name x pos) ρ H Q := by
  intro A s hA R
  refine wpAny_Name ?_ hd
  rcases R.dom x v e with h | h | h
  all_goals have h' := (R.kindOf x).trans h
  · obtain ⟨m, hns, hm⟩ := R.loc
    obtain ⟨u, hu, ha⟩ := hm x v h e
    exact wpAny_loadName_local R.eok.kind h' hns hu (Done.v R ha q s.toks)
  · obtain ⟨c, u, hc, hcell, hu⟩ := R.cel x (.inl h)
    obtain ⟨y, rfl, ha⟩ := hu v e
    exact wpAny_loadName_cell R.eok.kind h' hc hcell (Done.v R ha q s.toks)
  · obtain ⟨c, u, hc, hcell, hu⟩ := R.cel x (.inr h)
    obtain ⟨y, rfl, ha⟩ := hu v e
    exact wpAny_loadName_free R.eok.kind h' hc hcell (Done.v R ha q s.toks) hn
theorem glob_load {x : Str} {pos : Pos} {u : Value} {P : Value → Shared → Prop} {E : Value → Shared → Prop} (R : Rel C ρ H s.heap) (g : GlobIs C x u) (hk : C.nms.lookup x = some .globalImplicit) (q : P u s) (hd : (x == ("__debug__" : Str)) = false) :
    wpAny (model C.prog C.w) A (eval (.Name x pos) C.env) P E s := by
  obtain ⟨mg, hg, g⟩ := g
  refine Calls.Name_function_global R.eok.kind ((R.kindOf x).trans hk) ?_ hd
  rcases g with g | ⟨g, mb, hb, e⟩
  · exact Calls.loadGlobal_global (by rw [R.eok.glob]; exact ns_at hg (R.base _)) g q
  · exact Calls.loadGlobal_builtin (by rw [R.eok.glob]; exact ns_at hg (R.base _)) g (by rw [R.eok.bui]; exact ns_at hb (R.base _)) e q
theorem ev_Glob {x : Str} {pos : Pos} {u : Value} {v : V} (g : GlobIs C x u) (hk : C.nms.lookup x = some .globalImplicit) (e : isV u v) (q : Q v H) (hd : (x == ("__debug__" : Str)) = false := by decide) : Ev C (.Name x pos) ρ H Q :=
  fun A s hA R => glob_load R g hk (Done.v R e q s.toks) hd
theorem ev_BinOp {l r : Expr} {op : Operator} {pos : Pos} (h : Ev C l ρ H fun a H₁ => Ev C r ρ H₁ fun b H₂ => BOK C op a b ρ H₂ Q) : Ev C (.BinOp l op r pos) ρ H Q :=
  fun A s hA R => wpAny_BinOp (h.use hA R fun u v s₁ H₁ a K R₁ G q => q.use hA R₁ fun u' v' s₂ H₂ a' K' R₂ G' q' =>
    wpAny_mono (q' u u' a a' A s₂ hA R₂) (fun _ _ d => (d.trans K' G').trans K G) fun _ _ e => e)
theorem ev_Compare {l r : Expr} {op : CmpOp} {pos : Pos} (h : Ev C l ρ H fun a H₁ => Ev C r ρ H₁ fun b H₂ => COK C op a b ρ H₂ Q) (hm : behindInMarks op r = false := by rfl) : Ev C (.Compare l [op] [r] pos) ρ H Q :=
  fun A s hA R => wpAny_Compare1 (h.use hA R fun u v s₁ H₁ a K R₁ G q => q.use hA R₁ fun u' v' s₂ H₂ a' K' R₂ G' q' =>
    wpAny_mono (q' u u' a a' A s₂ hA R₂) (fun _ _ d => (d.trans K' G').trans K G) fun _ _ e => e) hm
theorem bok_add_int {i j : Int} (q : Q (.int (i + j)) H) : BOK C .Add (.int i) (.int j) ρ H Q := by
  intro u u' a b A s hA R
  obtain ⟨t, rfl⟩ := isV_int a; obtain ⟨t', rfl⟩ := isV_int b
  exact wpAny_add_int (Done.v R rfl q _)
theorem bok_sub_int {i j : Int} (q : Q (.int (i - j)) H) : BOK C .Sub (.int i) (.int j) ρ H Q := by
  intro u u' a b A s hA R
  obtain ⟨t, rfl⟩ := isV_int a; obtain ⟨t', rfl⟩ := isV_int b
  exact P.sub_int (Done.v R rfl q _)
theorem bok_mul_int {i j : Int} (hm : IntMulOk i j) (q : Q (.int (i * j)) H) : BOK C .Mult (.int i) (.int j) ρ H Q := by
  intro u u' a b A s hA R
  obtain ⟨t, rfl⟩ := isV_int a; obtain ⟨t', rfl⟩ := isV_int b
  exact P.mul_int (Done.v R rfl q _) hm
theorem cok_eq_int {i j : Int} (q : Q (.bool (i == j)) H) : COK C .Eq (.int i) (.int j) ρ H Q := by
  intro u u' a b A s hA R
  obtain ⟨t, rfl⟩ := isV_int a; obtain ⟨t', rfl⟩ := isV_int b
  exact P.eq_int (Done.v R rfl q s.toks)
theorem cok_lt_int {i j : Int} (q : Q (.bool (decide (i < j))) H) : COK C .Lt (.int i) (.int j) ρ H Q := by
  intro u u' a b A s hA R
  obtain ⟨t, rfl⟩ := isV_int a; obtain ⟨t', rfl⟩ := isV_int b
  exact P.lt_int (Done.v R rfl q s.toks)
theorem tr_bool {b : Bool} {Q : Bool → HV → Prop} (q : Q b H) : TrOK C (.bool b) ρ H Q := by
  intro u a A s hA R
  cases isV_bool a
  exact wpAny_truthy_bool (Done.b R q)
/-- tests -/
theorem t_Compare {l r : Expr} {op : CmpOp} {pos : Pos} {Q : Bool → HV → Prop} (h : Ev C l ρ H fun a H₁ => Ev C r ρ H₁ fun b H₂ => COK C op a b ρ H₂ fun c H₃ => TrOK C c ρ H₃ Q) (hm : behindInMarks op r = false := by rfl) :
    Tst C (.Compare l [op] [r] pos) ρ H Q :=
  fun A s hA R => wpAny_isTrue_Compare1 (h.use hA R fun u v s₁ H₁ a K R₁ G q => q.use hA R₁ fun u' v' s₂ H₂ a' K' R₂ G' q' =>
    (q' u u' a a').use hA R₂ fun u'' v'' s₃ H₃ a'' K'' R₃ G'' q'' => wpAny_mono (q'' u'' a'' A s₃ hA R₃) (fun _ _ d => ((d.trans K'' G'').trans K' G').trans K G) fun _ _ e => e) hm
theorem t_Not {x : Expr} {pos : Pos} {Q : Bool → HV → Prop} (h : Tst C x ρ H fun b H₁ => Q (!b) H₁) : Tst C (.UnaryOp .Not x pos) ρ H Q := by
  intro A s hA R
  show wpAny _ A (do return !(← isTrue x C.env (eval x C.env))) _ _ s
  exact wpAny_bind (h.use hA R fun u v s₁ H₁ a K R₁ G q => wpAny_pure ⟨!v, H₁, by rw [show u = v from a], K, R₁, G, q⟩)
theorem t_And {vs : List Expr} {pos : Pos} {Q : Bool → HV → Prop} (h : TG C (fun a b => a = b) (allTrue .And vs C.env) ρ H Q) : Tst C (.BoolOp .And vs pos) ρ H Q := h
theorem t_Or {vs : List Expr} {pos : Pos} {Q : Bool → HV → Prop} (h : TG C (fun a b => a = b) (allTrue .Or vs C.env) ρ H Q) : Tst C (.BoolOp .Or vs pos) ρ H Q := h
theorem t_or_nil {Q : Bool → HV → Prop} (h : Q false H) : TG C (fun a b => a = b) (allTrue .Or [] C.env) ρ H Q := fun A s hA R => wpAny_pure (Done.b R h)
theorem t_and_cons {x : Expr} {rest : List Expr} {Q : Bool → HV → Prop} (h : Tst C x ρ H fun b H₁ => if b = true then TG C (fun a b => a = b) (allTrue .And rest C.env) ρ H₁ Q else Q false H₁) : TG C (fun a b => a = b) (allTrue .And (x :: rest) C.env) ρ H Q := by
  intro A s hA R
  refine wpAny_allTrue_And_cons (h.use hA R fun u v s₁ H₁ a K R₁ G q => ?_)
  cases (show u = v from a)
  cases u with
  | false => exact ⟨false, H₁, rfl, K, R₁, G, q⟩
  | true => exact wpAny_mono (q A s₁ hA R₁) (fun _ _ d => d.trans K G) fun _ _ e => e
theorem t_or_cons {x : Expr} {rest : List Expr} {Q : Bool → HV → Prop} (h : Tst C x ρ H fun b H₁ => if b = true then Q true H₁ else TG C (fun a b => a = b) (allTrue .Or rest C.env) ρ H₁ Q) : TG C (fun a b => a = b) (allTrue .Or (x :: rest) C.env) ρ H Q := by
  intro A s hA R
  refine wpAny_allTrue_Or_cons (h.use hA R fun u v s₁ H₁ a K R₁ G q => ?_)
  cases (show u = v from a)
  cases u with
  | true => exact ⟨true, H₁, rfl, K, R₁, G, q⟩
  | false => exact wpAny_mono (q A s₁ hA R₁) (fun _ _ d => d.trans K G) fun _ _ e => e
/-- a test that is a plain value -/
theorem t_val {e : Expr} {Q : Bool → HV → Prop} (hp : isTrue e C.env (eval e C.env) = (do let v ← eval e C.env; standAt e.pos; holding [v] (truthy v))) (h : Ev C e ρ H fun a H₁ => TrOK C a ρ H₁ Q) : Tst C e ρ H Q := by
  intro A s hA R
  show wpAny _ A (isTrue e C.env (eval e C.env)) _ _ s
  rw [hp]
  exact wpAny_bind (h.use hA R fun u v s₁ H₁ a K R₁ G q => wpAny_bind (wpAny_standAt (wpAny_holding (wpAny_mono (q u a A s₁ hA R₁) (fun _ _ d => d.trans K G) fun _ _ e => e))))
theorem t_Name {x : Str} {pos : Pos} {Q : Bool → HV → Prop} (h : Ev C (.Name x pos) ρ H fun a H₁ => TrOK C a ρ H₁ Q) : Tst C (.Name x pos) ρ H Q := t_val rfl h
theorem t_Call {f : Expr} {as : List Expr} {ks : List Keyword} {pos : Pos} {Q : Bool → HV → Prop} (h : Ev C (.Call f as ks pos) ρ H fun a H₁ => TrOK C a ρ H₁ Q) : Tst C (.Call f as ks pos) ρ H Q := t_val rfl h
end
end Mine
end
section
set_option maxRecDepth 100000
set_option Elab.async false
set_option linter.unusedVariables false
namespace Mine
open PySem PySem.Spec PyProof.Rows
section
variable {C : Cx} {ρ : EV} {H : HV} {Q : V → HV → Prop} {A : Around} {s : Shared}
/-- arguments, items of a display -/
abbrev Args (C : Cx) (pos : Pos) (es : List Expr) (ρ : EV) (H : HV) (Q : List V → HV → Prop) : Prop := TG C ValsAre (spliced (backTo pos (starEach es C.env))) ρ H Q
theorem args_nil {pos : Pos} {Q : List V → HV → Prop} (q : Q [] H) : Args C pos [] ρ H Q :=
  fun A s hA R => Calls.spliced_nil ⟨[], H, .nil, kp_refl _, R, Gr.refl _ _, q⟩
theorem args_cons {e : Expr} {es : List Expr} {pos : Pos} {Q : List V → HV → Prop} (h : Ev C e ρ H fun v H₁ => Args C pos es ρ H₁ fun vs H₂ => Q (v :: vs) H₂)
    (hs : starEach (e :: es) C.env = (false, eval e C.env) :: starEach es C.env := by rfl) : Args C pos (e :: es) ρ H Q := by
  intro A s hA R
  rw [hs]
  show wpAny _ A (spliced ((false, eval e C.env) :: backTo pos (starEach es C.env))) _ _ s
  exact Calls.spliced_cons (h.use hA R fun u v s₁ H₁ a K R₁ G q => q.use hA R₁ fun us vs s₂ H₂ as K' R₂ G' q' =>
    Done.trans K G (Done.trans K' G' ⟨v :: vs, H₂, .cons a as, kp_refl _, R₂, Gr.refl _ _, q'⟩))
theorem obj_list {h : Heap} {a : Addr} {n : Nat} {us : List Value} {vs : List V} (e : h.get? a = some { cls := .type "list", data := .seq us.toArray n }) (x : ValsAre us vs) (z : vs.length ≤ 1048576) : ObjIs C.prog C.w h a (.list vs) :=
  ⟨us, ⟨n, e⟩, x, z⟩
theorem obj_tuple {h : Heap} {a : Addr} {n : Nat} {us : List Value} {vs : List V} (e : h.get? a = some { cls := .type "tuple", data := .seq us.toArray n }) (x : ValsAre us vs) (z : vs.length ≤ 1048576) : ObjIs C.prog C.w h a (.tuple vs) :=
  ⟨us, ⟨_, e, rfl, n, rfl⟩, x, z⟩
theorem few {us : List Value} {vs : List V} (x : ValsAre us vs) (z : vs.length ≤ 1048576) : us.toArray.size ≤ sizeLine := by
  rw [List.size_toArray, x.length]; exact Nat.le_trans z (by decide)
theorem newList_ok {us : List Value} {vs : List V} (x : ValsAre us vs) (z : vs.length ≤ 1048576) (q : ∀ a, C.lo ≤ a → H a = Option.none → Q (.loc a) (upd H a (.list vs))) : TG C isV (newList us) ρ H Q :=
  fun A s hA R => wpAny_newObj_type (Done.new R (fun _ _ e => Heap.get?_push_of_some _ e) (Nat.le_refl _) (obj_list (Heap.get?_push_size _ rfl) x z) q s.toks) (few x z)
theorem newTuple_ok {us : List Value} {vs : List V} (x : ValsAre us vs) (z : vs.length ≤ 1048576) (q : ∀ a, C.lo ≤ a → H a = Option.none → Q (.loc a) (upd H a (.tuple vs))) : TG C isV (newTuple us) ρ H Q :=
  fun A s hA R => wpAny_newObj_type (Done.new R (fun _ _ e => Heap.get?_push_of_some _ e) (Nat.le_refl _) (obj_tuple (Heap.get?_push_size _ rfl) x z) q s.toks) (few x z)
theorem ev_List {es : List Expr} {pos : Pos} (h : Args C pos es ρ H fun vs H₁ => vs.length ≤ 1048576 ∧ ∀ a, C.lo ≤ a → H₁ a = Option.none → Q (.loc a) (upd H₁ a (.list vs))) : Ev C (.List es pos) ρ H Q :=
  fun A s hA R => List_ (h.use hA R fun us vs s₁ H₁ as K R₁ G q => wpAny_mono (newList_ok as q.1 q.2 A s₁ hA R₁) (fun _ _ d => d.trans K G) fun _ _ e => e)
theorem ev_Tuple {es : List Expr} {kd : Nat} {pos : Pos} (h : Args C pos es ρ H fun vs H₁ => vs.length ≤ 1048576 ∧ ∀ a, C.lo ≤ a → H₁ a = Option.none → Q (.loc a) (upd H₁ a (.tuple vs))) : Ev C (.Tuple es kd pos) ρ H Q :=
  fun A s hA R => Tuple_ (h.use hA R fun us vs s₁ H₁ as K R₁ G q => wpAny_mono (newTuple_ok as q.1 q.2 A s₁ hA R₁) (fun _ _ d => d.trans K G) fun _ _ e => e)
/-- an item by a plain index -/
noncomputable def SOK (C : Cx) (a b : V) (ρ : EV) (H : HV) (Q : V → HV → Prop) : Prop := ∀ u u', isV u a → isV u' b → ∀ (A : Around) (s : Shared), Rm A C.k → Rel C ρ H s.heap →
  ∃ T id, typeLookup (.type T) "__getitem__" = pure (some (.builtin id)) ∧ s.TypeIs u T ∧ wpAny (model C.prog C.w) A (getItem u u') (Done C isV ρ H s Q) nay s
theorem ev_Sub {value slice : Expr} {pos : Pos} (h : Ev C value ρ H fun a H₁ => Ev C slice ρ H₁ fun b H₂ => SOK C a b ρ H₂ Q)
    (hs : ∀ o i, subscripted slice false o i = operate [o, i] (getItem o i) := by intros; rfl) : Ev C (.Subscript value slice pos) ρ H Q := by
  intro A s hA R
  refine Subscript_ (h.use hA R fun u v s₁ H₁ a K R₁ G q => q.use hA R₁ fun u' v' s₂ H₂ a' K' R₂ G' q' => ?_)
  obtain ⟨T, id, h1, h2, h3⟩ := q' u u' a a' A s₂ hA R₂
  exact tail_any h2 h1 (wpAny_mono h3 (fun _ _ d => (d.trans K' G').trans K G) fun _ _ e => e) (hs _ _)
theorem sok_list {a : Addr} {i : Int} {vs : List V} {v : V} (e : H a = some (.list vs)) (h0 : 0 ≤ i) (hv : vs[i.toNat]? = some v) (q : Q v H) : SOK C (.loc a) (.int i) ρ H Q := by
  intro u u' x y A s hA R
  cases isV_loc x
  obtain ⟨t, rfl⟩ := isV_int y
  obtain ⟨its, hl, hx, hz⟩ := R.view a _ e
  obtain ⟨w, hw, ha⟩ := hx.get hv
  have hlt : i.toNat < vs.length := (List.getElem?_eq_some_iff.mp hv).1
  refine ⟨"list", _, slot_list_getitem.lookup, hl.isList.typeIs, wpAny_getItem_list hl.isList h0 (by omega) (x := w) (by simpa using hw) (Done.v R ha q s.toks)⟩
theorem sok_tuple {a : Addr} {i : Int} {vs : List V} {v : V} (e : H a = some (.tuple vs)) (h0 : 0 ≤ i) (hv : vs[i.toNat]? = some v) (q : Q v H) : SOK C (.loc a) (.int i) ρ H Q := by
  intro u u' x y A s hA R
  cases isV_loc x
  obtain ⟨t, rfl⟩ := isV_int y
  obtain ⟨its, hl, hx, hz⟩ := R.view a _ e
  obtain ⟨w, hw, ha⟩ := hx.get hv
  have hlt : i.toNat < vs.length := (List.getElem?_eq_some_iff.mp hv).1
  have hlen := hx.length
  refine ⟨"tuple", _, slot_tuple_getitem.lookup, hl.typeIs, getItem_tuple (j := i.toNat) hl (by omega) (by omega) ?_ (x := w) (by simpa using hw) (Done.v R ha q s.toks)⟩
  rw [List.size_toArray]
  unfold seqIndex?
  simp only []
  split <;> simp_all <;> omega
end
end Mine
end
section
set_option maxRecDepth 100000
set_option Elab.async false
set_option linter.unusedVariables false
namespace Mine
open PySem PySem.Spec PyProof.Rows
inductive Fl where
  | next | brk | cont | ret (v : V)
noncomputable def isFl : Flow → Fl → Prop
  | .next, .next => True
  | .brk, .brk => True
  | .cont, .cont => True
  | .ret u, .ret v => absV u = some v
  | _, _ => False
/-- what a statement must leave as it was -/
structure SKp (C : Cx) (H H' : HV) (s s' : Shared) : Prop where
  get : ∀ b o, s.heap.get? b = some o → tabl o = false → (b < C.lo ∨ (H b = Option.none ∧ b ≠ C.env.locals ∧ ∀ x, (x, b) ∉ C.env.cells)) → s'.heap.get? b = some o
  there : ∀ b o, s.heap.get? b = some o → ∃ o', s'.heap.get? b = some o'
  gr : Gr H H' s.heap
  os : s'.os = s.os
  gens : GB s.gens s'.gens
  tab : TabK s.heap s'.heap
theorem SKp.refl (C : Cx) (H : HV) (s : Shared) : SKp C H H s s := ⟨fun _ _ e _ _ => e, fun _ o e => ⟨o, e⟩, Gr.refl _ _, rfl, GB.refl _, .refl _⟩
theorem SKp.trans {C : Cx} {H H₁ H₂ : HV} {s s₁ s₂ : Shared} (a : SKp C H H₁ s s₁) (b : SKp C H₁ H₂ s₁ s₂) : SKp C H H₂ s s₂ :=
  ⟨fun x o e t c => b.get x o (a.get x o e t c) t (c.imp (fun h => h) fun ⟨h1, h2⟩ => ⟨a.gr x o e h1, h2⟩), fun x o e => let ⟨o', e'⟩ := a.there x o e; b.there x o' e',
    a.gr.trans a.there b.gr, b.os.trans a.os, a.gens.trans b.gens, a.tab.trans b.tab⟩
theorem SKp.of_kp {C : Cx} {H H' : HV} {s s' : Shared} (K : Kp s s') (G : Gr H H' s.heap) : SKp C H H' s s' := ⟨fun b o e t _ => K.get b o e t, K.there, G, K.os, K.gens, K.tab⟩
theorem tabK_ns {h h' : Heap} {a : Addr} {m : Str → Option Value} (hn : h.Ns a m) (hs : Heap.SameBut a h h') : TabK h h' :=
  .but (fun b o hb e => (hs.2 b hb).trans e) fun o vs e d => by
    obtain ⟨o', _, _, e', d', _⟩ := hn
    rw [e] at e'; cases e'; rw [d] at d'; cases d'
theorem tabK_cell {h h' : Heap} {a : Addr} {u : Option Value} (hn : h.IsCell a u) (hs : Heap.SameBut a h h') : TabK h h' :=
  .but (fun b o hb e => (hs.2 b hb).trans e) fun o vs e d => by
    obtain ⟨o', e', d'⟩ := hn
    rw [e] at e'; cases e'; rw [d] at d'; cases d'
theorem ObjIs.nf {prog : Program} {w : World} {h : Heap} {a : Addr} {o : AO} (x : ObjIs prog w h a o) : ∀ ob vs, h.get? a = some ob → ob.data ≠ .fields vs := by
  intro ob vs e d
  cases o with
  | list l => obtain ⟨its, ⟨n, e'⟩, _⟩ := x; rw [e] at e'; cases e'; cases d
  | tuple l => obtain ⟨its, ⟨o', e', _, n, d'⟩, _⟩ := x; rw [e] at e'; cases e'; rw [d] at d'; cases d'
  | dict l => obtain ⟨its, ⟨o', es, ep, e', c, d', _⟩, _⟩ := x; rw [e] at e'; cases e'; rw [d] at d'; cases d'
/-- one object of the activation's own turned -/
theorem SKp.one {C : Cx} {H H' : HV} {s : Shared} {h' : Heap} {a : Addr} (t : Nat) (hs : Heap.SameBut a s.heap h') (ha : C.lo ≤ a) (hc : H a = Option.none → a = C.env.locals ∨ ∃ x, (x, a) ∈ C.env.cells) (hx : ∀ o, s.heap.get? a = some o → ∃ o', h'.get? a = some o')
    (g : Gr H H' s.heap) (tb : TabK s.heap h') : SKp C H H' s { s with heap := h', toks := t } := by
  refine ⟨fun b o e _ c => ?_, fun b o e => ?_, g, rfl, GB.refl _, tb⟩
  · have hb : b ≠ a := by
      rintro rfl
      rcases c with c | ⟨c1, c2, c3⟩
      · exact absurd ha (Nat.not_le.mpr c)
      · rcases hc c1 with h | ⟨x, h⟩
        · exact c2 h
        · exact c3 x h
    exact (hs.2 b hb).trans e
  · by_cases hb : b = a
    · subst hb; exact hx o e
    · exact ⟨o, (hs.2 b hb).trans e⟩
noncomputable def SDone (C : Cx) (H : HV) (s : Shared) (Q : Fl → EV → HV → Prop) (f : Flow) (s' : Shared) : Prop :=
  ∃ fl ρ' H', isFl f fl ∧ SKp C H H' s s' ∧ Rel C ρ' H' s'.heap ∧ Q fl ρ' H'
noncomputable def Exs (C : Cx) (body : List Stmt) (ρ : EV) (H : HV) (Q : Fl → EV → HV → Prop) : Prop :=
  ∀ (A : Around) (s : Shared), Rm A C.k → Rel C ρ H s.heap → wpAny (model C.prog C.w) A (execs body C.env) (SDone C H s Q) nay s
noncomputable def Ex (C : Cx) (st : Stmt) (ρ : EV) (H : HV) (Q : Fl → EV → HV → Prop) : Prop :=
  ∀ (A : Around) (s : Shared), Rm A C.k → Rel C ρ H s.heap → wpAny (model C.prog C.w) A (exec st C.env) (SDone C H s Q) nay s
section
variable {C : Cx} {ρ : EV} {H H' : HV} {A : Around} {s : Shared} {Q : Fl → EV → HV → Prop}
theorem SDone.trans {s s₁ s₂ : Shared} {H H₁ : HV} {f : Flow} (K : SKp C H H₁ s s₁) (d : SDone C H₁ s₁ Q f s₂) : SDone C H s Q f s₂ := by
  obtain ⟨fl, ρ', H', a, b, c⟩ := d
  exact ⟨fl, ρ', H', a, K.trans b, c⟩
theorem Exs.use {body : List Stmt} (x : Exs C body ρ H Q) (hA : Rm A C.k) (R : Rel C ρ H s.heap) {P : Flow → Shared → Prop} {E : Value → Shared → Prop}
    (g : ∀ f fl ρ' H' s', isFl f fl → SKp C H H' s s' → Rel C ρ' H' s'.heap → Q fl ρ' H' → P f s') : wpAny (model C.prog C.w) A (execs body C.env) P E s :=
  wpAny_mono (x A s hA R) (fun f s' ⟨fl, ρ', H', a, b, c, d⟩ => g f fl ρ' H' s' a b c d) fun _ _ e => e.elim
theorem exs_nil (q : Q .next ρ H) : Exs C [] ρ H Q := fun A s hA R => wpAny_execs_nil ⟨.next, ρ, H, trivial, SKp.refl _ _ _, R, q⟩
theorem exs_cons {st : Stmt} {rest : List Stmt} (h : Ex C st ρ H fun fl ρ₁ H₁ => match fl with | .next => Exs C rest ρ₁ H₁ Q | fl => Q fl ρ₁ H₁) : Exs C (st :: rest) ρ H Q := by
  intro A s hA R
  refine wpAny_execs_cons (wpAny_mono (h A s hA R) (fun f s' hd => ?_) fun _ _ e => e)
  obtain ⟨fl, ρ', H', a, b, c, d⟩ := hd
  cases f <;> cases fl <;> first | exact absurd a (fun x => x) | skip
  · exact wpAny_mono (d A s' hA c) (fun _ _ d => d.trans b) fun _ _ e => e
  · exact ⟨.brk, ρ', H', a, b, c, d⟩
  · exact ⟨.cont, ρ', H', a, b, c, d⟩
  · exact ⟨.ret _, ρ', H', a, b, c, d⟩
theorem ex_Return {e : Expr} {pos : Pos} (h : Ev C e ρ H fun v H₁ => Q (.ret v) ρ H₁) : Ex C (.Return (some e) pos) ρ H Q :=
  fun A s hA R => wpAny_Return_some (h.use hA R fun u v s₁ H₁ a K R₁ G q => ⟨.ret v, ρ, H₁, a, .of_kp K G, R₁, q⟩)
theorem ex_If {test : Expr} {body orelse : List Stmt} {pos : Pos} (h : Tst C test ρ H fun b H₁ => if b = true then Exs C body ρ H₁ Q else Exs C orelse ρ H₁ Q) : Ex C (.If test body orelse pos) ρ H Q := by
  intro A s hA R
  refine wpAny_If (h.use hA R fun u v s₁ H₁ a K R₁ G q => ?_)
  cases (show u = v from a)
  cases u with
  | true => exact wpAny_mono (q A s₁ hA R₁) (fun _ _ d => d.trans (.of_kp K G)) fun _ _ e => e
  | false => exact wpAny_mono (q A s₁ hA R₁) (fun _ _ d => d.trans (.of_kp K G)) fun _ _ e => e
/-- a name is stored -/
theorem store_name {x : Str} {u : Value} {v : V} {P : Unit → Shared → Prop} (hk : C.nms.lookup x = some .local ∨ C.nms.lookup x = some .cell) {E : Value → Shared → Prop} (R : Rel C ρ H s.heap) (a : absV u = some v)
    (g : ∀ s', SKp C H H s s' → Rel C (put ρ x v) H s'.heap → P () s') : wpAny (model C.prog C.w) A (storeName C.env x u) P E s := by
  obtain ⟨m, hn, hm⟩ := R.loc
  rcases hk with hk | hk
  · refine wpAny_storeName_local ((R.kindOf x).trans hk) hn (fun h' hn' hs' => g _ ?_ ?_) (by rw [R.eok.kind]; rfl)
    · exact SKp.one _ hs' R.lloc (fun _ => .inl rfl) (fun o e => let ⟨o', _, _, e', _⟩ := hn'; ⟨o', e'⟩) (Gr.refl _ _) (tabK_ns hn hs')
    · have kb : ∀ b, b ≠ C.env.locals → h'.get? b = s.heap.get? b := fun b hb => hs'.2 b hb
      refine ⟨R.eok, fun b o e t => ?_, R.old.step_same (Nat.le_trans R.blo R.lloc) hs', R.blo, fun b o e => ?_, fun y v' e => ?_, ⟨_, hn', fun y v' hy e => ?_⟩, fun y hy => ?_, R.apart, fun y c hc => ?_, R.hloc, R.lloc, ⟨R.sysm.1, ?_⟩, R.code.trans (tabK_ns hn hs')⟩
      · have : b ≠ C.env.locals := Nat.ne_of_lt (Nat.lt_of_lt_of_le (Heap.lt_size e) (Nat.le_trans R.blo R.lloc))
        rw [kb b this]; exact R.base b o e t
      · have : b ≠ C.env.locals := by rintro rfl; rw [R.hloc] at e; cases e
        exact (R.view b o e).at fun ob eb _ => (kb b this).trans eb
      · unfold put at e
        split at e
        · rename_i hy; subst hy; exact .inl hk
        · exact R.dom y v' e
      · unfold put at e
        split at e
        · rename_i hyx; subst hyx; cases e; exact ⟨u, by simp, a⟩
        · rename_i hyx; rw [if_neg hyx]; exact hm y v' hy e
      · obtain ⟨c, u', a1, a2, a3⟩ := R.cel y hy
        refine ⟨c, u', a1, a2.sameBut hs' (R.cloc y c (mem_of_lookup a1)).1, fun v' e => a3 v' ?_⟩
        unfold put at e
        split at e
        · rename_i hyx; subst hyx; rw [hk] at hy; rcases hy with hy | hy <;> cases hy
        · exact e
      · obtain ⟨h1, h2, h3, o, h4⟩ := R.cloc y c hc
        exact ⟨h1, h2, h3, o, (kb c h1).trans h4⟩
      · obtain ⟨_, o, ho⟩ := R.sysm
        by_cases hb : sysModules = C.env.locals
        · obtain ⟨o', _, _, e', _⟩ := hn'; exact ⟨o', hb ▸ e'⟩
        · exact ⟨o, (kb _ hb).trans ho⟩
  · obtain ⟨c, u₀, hc, hcell, _⟩ := R.cel x (.inl hk)
    obtain ⟨c1, c2, c3, oc, c4⟩ := R.cloc x c (mem_of_lookup hc)
    refine wpAny_storeName_cell R.eok.kind ((R.kindOf x).trans hk) hc hcell fun h' hv' hs' => g _ ?_ ?_
    · exact SKp.one s.toks hs' c2 (fun _ => .inr ⟨x, mem_of_lookup hc⟩) (fun o e => let ⟨o', e', _⟩ := hv'; ⟨o', e'⟩) (Gr.refl _ _) (tabK_cell hcell hs')
    · have kb : ∀ b, b ≠ c → h'.get? b = s.heap.get? b := fun b hb => hs'.2 b hb
      refine ⟨R.eok, fun b o e t => ?_, R.old.step_same (Nat.le_trans R.blo c2) hs', R.blo, fun b o e => ?_, fun y v' e => ?_, ⟨m, hn.sameBut hs' (Ne.symm c1), fun y v' hy e => ?_⟩, fun y hy => ?_, R.apart, fun y c' hc' => ?_, R.hloc, R.lloc, ⟨R.sysm.1, ?_⟩, R.code.trans (tabK_cell hcell hs')⟩
      · have : b ≠ c := Nat.ne_of_lt (Nat.lt_of_lt_of_le (Heap.lt_size e) (Nat.le_trans R.blo c2))
        rw [kb b this]; exact R.base b o e t
      · have : b ≠ c := by rintro rfl; rw [c3] at e; cases e
        exact (R.view b o e).at fun ob eb _ => (kb b this).trans eb
      · unfold put at e
        split at e
        · rename_i hy; subst hy; exact .inr (.inl hk)
        · exact R.dom y v' e
      · unfold put at e
        split at e
        · rename_i hyx; subst hyx; rw [hk] at hy; cases hy
        · exact hm y v' hy e
      · by_cases hyx : y = x
        · subst hyx
          exact ⟨c, some u, hc, hv', fun v' e => ⟨u, rfl, by simp [put] at e; rw [← e]; exact a⟩⟩
        · obtain ⟨c', u', a1, a2, a3⟩ := R.cel y hy
          have hne : c' ≠ c := fun e => hyx (R.apart _ _ _ (mem_of_lookup a1) (e ▸ mem_of_lookup hc))
          refine ⟨c', u', a1, a2.sameBut hs' hne, fun v' e => a3 v' ?_⟩
          unfold put at e; rw [if_neg hyx] at e; exact e
      · obtain ⟨h1, h2, h3, o, h4⟩ := R.cloc y c' hc'
        by_cases hcc : c' = c
        · subst hcc; obtain ⟨o', e', _⟩ := hv'; exact ⟨h1, h2, h3, o', e'⟩
        · exact ⟨h1, h2, h3, o, (kb c' hcc).trans h4⟩
      · obtain ⟨_, o, ho⟩ := R.sysm
        by_cases hb : sysModules = c
        · obtain ⟨o', e', _⟩ := hv'; exact ⟨o', hb ▸ e'⟩
        · exact ⟨o, (kb _ hb).trans ho⟩
theorem ex_Assign {x : Str} {p pos : Pos} {value : Expr} (hk : C.nms.lookup x = some .local ∨ C.nms.lookup x = some .cell) (h : Ev C value ρ H fun v H₁ => Q .next (put ρ x v) H₁)
    (hs : ∀ env, swapsWith value (some (.Name x p)) pos.line env = pure false := by intro _; rfl) : Ex C (.Assign [.Name x p] value pos) ρ H Q :=
  fun A s hA R => wpAny_Assign_Name (h.use hA R fun u v s₁ H₁ a K R₁ G q => store_name hk R₁ a fun s' K' R' => ⟨.next, _, H₁, trivial, (SKp.of_kp K G).trans K', R', q⟩) (hs _)
/-- an object of the activation's own is turned -/
theorem turn_obj {a : Addr} {o : AO} {h' : Heap} (R : Rel C ρ H s.heap) (ha : C.lo ≤ a) (e : (H a).isSome = true) (hs : Heap.SameBut a s.heap h') (x : ObjIs C.prog C.w h' a o) :
    SKp C H (upd H a o) s { s with heap := h' } ∧ Rel C ρ (upd H a o) h' := by
  have kb : ∀ b, b ≠ a → h'.get? b = s.heap.get? b := fun b hb => hs.2 b hb
  have hne : a ≠ C.env.locals := by rintro rfl; rw [R.hloc] at e; cases e
  have tb : TabK s.heap h' := by
    obtain ⟨ob, eo⟩ := Option.isSome_iff_exists.mp e
    exact .but (fun b o hb e => (hs.2 b hb).trans e) (R.view a ob eo).nf
  have g : Gr H (upd H a o) s.heap := fun b o' eb n => by
    unfold upd; split
    · rename_i h; subst h; rw [n] at e; cases e
    · exact n
  refine ⟨SKp.one (h' := h') s.toks hs ha (fun n => by rw [n] at e; cases e) (fun _ _ => x.there) g tb, ?_⟩
  obtain ⟨m, hn, hm⟩ := R.loc
  refine ⟨R.eok, fun b o' eb t => ?_, R.old.step_same (Nat.le_trans R.blo ha) hs, R.blo, fun b o' eb => ?_, R.dom, ⟨m, hn.sameBut hs (Ne.symm hne), hm⟩, fun y hy => ?_, R.apart, fun y c hc => ?_, ?_, R.lloc, ⟨?_, ?_⟩, R.code.trans tb⟩
  · have : b ≠ a := Nat.ne_of_lt (Nat.lt_of_lt_of_le (Heap.lt_size eb) (Nat.le_trans R.blo ha))
    rw [kb b this]; exact R.base b o' eb t
  · unfold upd at eb
    split at eb
    · rename_i hb; subst hb; cases eb; exact x
    · rename_i hb; exact (R.view b o' eb).at fun ob e' _ => (kb b hb).trans e'
  · obtain ⟨c, u, a1, a2, a3⟩ := R.cel y hy
    have hca : c ≠ a := by rintro rfl; rw [(R.cloc y c (mem_of_lookup a1)).2.2.1] at e; cases e
    exact ⟨c, u, a1, a2.sameBut hs hca, a3⟩
  · obtain ⟨h1, h2, h3, o', h4⟩ := R.cloc y c hc
    have hca : c ≠ a := by rintro rfl; rw [h3] at e; cases e
    exact ⟨h1, h2, by unfold upd; rw [if_neg hca]; exact h3, o', (kb c hca).trans h4⟩
  · unfold upd; rw [if_neg (Ne.symm hne)]; exact R.hloc
  · unfold upd; split
    · rename_i h; rw [← h, R.sysm.1] at e; cases e
    · exact R.sysm.1
  · obtain ⟨h1, o', h2⟩ := R.sysm
    by_cases hb : sysModules = a
    · rw [← hb, h1] at e; cases e
    · exact ⟨o', (kb _ hb).trans h2⟩
end
end Mine
end
section
set_option maxRecDepth 100000
set_option Elab.async false
set_option linter.unusedVariables false
namespace Mine
open PySem PySem.Spec PyProof.Rows
section
variable {C : Cx} {ρ : EV} {H H' : HV} {A : Around} {s : Shared} {Q : Fl → EV → HV → Prop}
theorem plainL_of {h : Heap} {a : Addr} {its : Array Value} (x : h.PlainList a its) : PlainL h a its := let ⟨n, e⟩ := x; ⟨_, n, e, rfl, rfl, rfl⟩
/-- o.append(elt) -/
theorem ex_append {o elt : Expr} {apos pos spos : Pos}
    (h : Ev C o ρ H fun a H₁ => ∃ b, a = .loc b ∧ (∃ vs, H₁ b = some (.list vs)) ∧ Ev C elt ρ H₁ fun v H₂ => ∃ vs, H₂ b = some (.list vs) ∧ C.lo ≤ b ∧ vs.length < 1048576 ∧ Q .next ρ (upd H₂ b (.list (vs ++ [v]))))
    (hbase : ∀ env, attributeBase o "append" env (eval o env) = eval o env := by intro _; rfl)
    (hfew : ∀ env, ((backTo pos (starEach [elt] env)).all (fun x => !x.1) && (backToKw pos (keywordEach [] env)).all (fun x => x.1.isSome)
      && decide (([elt] : List Expr).length + ([] : List Keyword).length + (if ([] : List Keyword).isEmpty then 0 else 1) < 30)) = true := by intro _; rfl)
    (hline : (apos.endLine == pos.line) = true := by rfl)
    (htrees : ∀ env, backTo pos (starEach [elt] env) = [(false, eval elt env)] := by intro _; rfl) :
    Ex C (.Expr (.Call (.Attribute o "append" apos) [elt] [] pos) spos) ρ H Q := by
  intro A s hA R
  refine wpAny_Expr_any (wpAny_Call_append (hbase _) (hfew _) hline (htrees _) (h.use hA R fun u v s₁ H₁ a K R₁ G q => ?_)) ?_ ?_
  · obtain ⟨b, rfl, ⟨vs, hb⟩, q⟩ := q
    cases isV_loc a
    obtain ⟨its, hl, _⟩ := R₁.view b _ hb
    refine ⟨b, _, rfl, plainL_of hl, q.use hA R₁ fun u' v' s₂ H₂ a' K' R₂ G' q' => ?_⟩
    obtain ⟨vs', hb', hlo, hz, q'⟩ := q'
    obtain ⟨its', hl', hx, _⟩ := R₂.view b _ hb'
    refine wpAny_list_append_plain hl' (fun h' hl'' hs'' => ?_) (by rw [List.size_toArray, hx.length]; exact Nat.le_trans (Nat.le_of_lt hz) (by decide))
    have ob : ObjIs C.prog C.w h' b (.list (vs' ++ [v'])) := ⟨its' ++ [u'], by simpa using hl'', hx.append (.one a'), by rw [List.length_append]; exact hz⟩
    obtain ⟨k1, k2⟩ := turn_obj R₂ hlo (by rw [hb']; rfl) hs'' ob
    exact ⟨.next, ρ, _, trivial, (SKp.of_kp K G).trans ((SKp.of_kp K' G').trans k1), k2, q'⟩
  · show (C.env.scope.kind == .module && _) = false
    rw [R.eok.kind]; rfl
  · rfl
end
end Mine
end
section
set_option maxRecDepth 100000
set_option Elab.async false
set_option linter.unusedVariables false
namespace Mine
open PySem PySem.Spec PyProof.Rows
/-- what is gone through -/
inductive Src where
  | list (a : Addr) (vs : List V) | tup (a : Addr) (vs : List V) | rng (a₀ : Int) (n : Nat)
noncomputable def Src.vals : Src → List V
  | .list _ vs => vs
  | .tup _ vs => vs
  | .rng a₀ n => (List.range n).map fun (j : Nat) => V.int (a₀ + (j : Int))
noncomputable def Src.Ok (H : HV) : Src → Prop
  | .list a vs => H a = some (.list vs)
  | .tup a vs => H a = some (.tuple vs)
  | .rng _ n => n ≤ 1048576
noncomputable def ItIs (h : Heap) (I : Addr) (i : Nat) : Src → Prop
  | .list a _ => h.IsListIter I a i
  | .tup a _ => h.IsTupleIter I a i
  | .rng a₀ n => IsRangeIter h I (a₀ + (i : Int) * 1) ((n : Int) - (i : Int)) 1
theorem oldK_but {h₀ h h' : Heap} (K : OldK h₀ h) {a : Addr} (ha : h₀.objs.size ≤ a) (hx : ∀ b o, b ≠ a → h.get? b = some o → h'.get? b = some o) : OldK h₀ h' := by
  have ne : ∀ b o, h₀.get? b = some o → b ≠ a := fun b o e => Nat.ne_of_lt (Nat.lt_of_lt_of_le (Heap.lt_size e) ha)
  refine ⟨fun b o e => ?_, fun b o e => let ⟨o', ho'⟩ := K.there b o e; ⟨o', hx b _ (ne b o e) ho'⟩⟩
  rcases K.old b o e with x | ⟨t, hc, vs, more, hv, x⟩ | ⟨rfl, hc, ⟨o', es, n, ho', r⟩, z⟩
  · exact .inl (hx _ _ (ne b o e) x)
  · exact .inr (.inl ⟨t, hc, vs, more, hv, hx _ _ (ne b o e) x⟩)
  · exact .inr (.inr ⟨rfl, hc, ⟨o', es, n, hx _ _ (ne _ o e) ho', r⟩, fun key => by rw [OldK.staticOf_congr ((hx _ _ (ne _ o e) ho').trans ho'.symm) key]; exact z key⟩)
/-- a thing that the abstract state does not see -/
structure Off (C : Cx) (H : HV) (I : Addr) : Prop where
  hi : H I = Option.none
  lo : C.lo ≤ I
  loc : I ≠ C.env.locals
  cel : ∀ x, (x, I) ∉ C.env.cells
  sys : I ≠ sysModules
section
variable {C : Cx} {ρ : EV} {H H' : HV} {A : Around} {s : Shared} {h h' : Heap} {I : Addr}
theorem Rel.other (R : Rel C ρ H h) (o : Off C H I) (hx : ∀ b o, b ≠ I → h.get? b = some o → h'.get? b = some o) : Rel C ρ H h' := by
  obtain ⟨m, hn, hm⟩ := R.loc
  refine ⟨R.eok, fun b ob e t => hx _ _ (Nat.ne_of_lt (Nat.lt_of_lt_of_le (Heap.lt_size e) (Nat.le_trans R.blo o.lo))) (R.base b ob e t), oldK_but R.old (Nat.le_trans R.blo o.lo) hx, R.blo, fun b ob e => ?_, R.dom, ⟨m, hn.at' fun ob e => hx _ _ (Ne.symm o.loc) e, hm⟩, fun x hk => ?_, R.apart, fun x c hm => ?_, R.hloc, R.lloc, ⟨R.sysm.1, ?_⟩, R.code.since fun b ob o₀ e₀ e => hx _ _ (Nat.ne_of_lt (Nat.lt_of_lt_of_le (Heap.lt_size e₀) (Nat.le_trans R.blo o.lo))) e⟩
  · have : b ≠ I := by rintro rfl; rw [o.hi] at e; cases e
    exact (R.view b ob e).at fun _ e' _ => hx _ _ this e'
  · obtain ⟨c, u, a1, a2, a3⟩ := R.cel x hk
    have hc : c ≠ I := by rintro rfl; exact o.cel x (mem_of_lookup a1)
    exact ⟨c, u, a1, cell_at a2 fun _ e' _ => hx _ _ hc e', a3⟩
  · obtain ⟨h1, h2, h3, ob, h4⟩ := R.cloc x c hm
    have hc : c ≠ I := by rintro rfl; exact o.cel x hm
    exact ⟨h1, h2, h3, ob, hx _ _ hc h4⟩
  · obtain ⟨_, ob, e⟩ := R.sysm
    exact ⟨ob, hx _ _ (Ne.symm o.sys) e⟩
theorem Off.new (R : Rel C ρ H h) (ha : h.objs.size ≤ I) : Off C H I := by
  obtain ⟨m, hn, _⟩ := R.loc
  refine ⟨(R.fresh ha).2, (R.fresh ha).1, Nat.ne_of_gt (Nat.lt_of_lt_of_le hn.lt ha), fun x hm => ?_, ?_⟩
  · obtain ⟨_, _, _, o, e⟩ := R.cloc x I hm
    exact absurd (Heap.lt_size e) (Nat.not_lt.mpr ha)
  · obtain ⟨_, o, e⟩ := R.sysm
    exact Nat.ne_of_gt (Nat.lt_of_lt_of_le (Heap.lt_size e) ha)
theorem Off.gr (o : Off C H I) {ob : Obj} (e : h.get? I = some ob) (g : Gr H H' h) : Off C H' I := ⟨g I ob e o.hi, o.lo, o.loc, o.cel, o.sys⟩
theorem SKp.skip {H₁ : HV} {s₁ : Shared} {t : Nat} (K : SKp C H H₁ s s₁) (hn : s.heap.get? I = Option.none) (hx : ∀ b o, b ≠ I → s₁.heap.get? b = some o → h'.get? b = some o) : SKp C H H₁ s { s₁ with heap := h', toks := t } := by
  have ne : ∀ b o, s.heap.get? b = some o → b ≠ I := fun b o e q => by subst q; rw [hn] at e; cases e
  exact ⟨fun b o e t c => hx _ _ (ne b o e) (K.get b o e t c), fun b o e => let ⟨o', e'⟩ := K.there b o e; ⟨o', hx _ _ (ne b o e) e'⟩, K.gr, K.os, K.gens, K.tab.since fun b o o₀ e₀ e => hx _ _ (ne b o₀ e₀) e⟩
theorem ItIs.there {i : Nat} {src : Src} (x : ItIs h I i src) : ∃ o, h.get? I = some o ∧ tabl o = false := by
  cases src with
  | list a vs => obtain ⟨o, e, c, d⟩ := x; exact ⟨o, e, tabl_type c⟩
  | tup a vs => obtain ⟨o, e, c, d⟩ := x; exact ⟨o, e, tabl_type c⟩
  | rng a n => exact ⟨_, x, rfl⟩
theorem ItIs.at {i : Nat} {src : Src} (x : ItIs h I i src) (k : ∀ o, h.get? I = some o → tabl o = false → h'.get? I = some o) : ItIs h' I i src := by
  cases src with
  | list a vs => obtain ⟨o, e, c, d⟩ := x; exact ⟨o, k _ e (tabl_type c), c, d⟩
  | tup a vs => obtain ⟨o, e, c, d⟩ := x; exact ⟨o, k _ e (tabl_type c), c, d⟩
  | rng a n => exact k _ x rfl
theorem next_item {i : Nat} {src : Src} {v : V} {P : Option Value → Shared → Prop} {E : Value → Shared → Prop} (R : Rel C ρ H s.heap) (ok : src.Ok H) (it : ItIs s.heap I i src) (hv : src.vals[i]? = some v)
    (g : ∀ u h' t, absV u = some v → ItIs h' I (i + 1) src → (∀ b o, b ≠ I → s.heap.get? b = some o → h'.get? b = some o) → P (some u) { s with heap := h', toks := t }) : wpAny (model C.prog C.w) A (pyNext (.ref I)) P E s := by
  cases src with
  | list a vs =>
    obtain ⟨its, hl, hx, _⟩ := R.view a _ ok
    obtain ⟨u, hu, ha⟩ := hx.get hv
    exact wpAny_pyNext_list_item it hl.isList (x := u) (by simpa using hu) fun h' it' hs => g u h' s.toks ha it' fun b o hb e => (hs.2 b hb).trans e
  | tup a vs =>
    obtain ⟨its, hl, hx, _⟩ := R.view a _ ok
    obtain ⟨u, hu, ha⟩ := hx.get hv
    exact wpAny_pyNext_tuple_item it hl (x := u) (by simpa using hu) fun h' it' hs => g u h' s.toks ha it' fun b o hb e => (hs.2 b hb).trans e
  | rng a₀ n =>
    have hi : i < n := by have := (List.getElem?_eq_some_iff.mp hv).1; simpa [Src.vals] using this
    have e : v = .int (a₀ + (i : Int)) := by simp [Src.vals, hi] at hv; exact hv.symm
    subst e
    refine wpAny_pyNext_range_item it (by omega) fun h' it' hs => g _ h' _ ?_ ?_ fun b o hb e => (hs.2 b hb).trans e
    · show some (V.int (a₀ + (i : Int) * 1)) = _
      rw [Int.mul_one]
    · have e1 : a₀ + (i : Int) * 1 + 1 = a₀ + ((i + 1 : Nat) : Int) * 1 := by omega
      have e2 : (n : Int) - (i : Int) - 1 = (n : Int) - ((i + 1 : Nat) : Int) := by omega
      rw [e1, e2] at it'
      exact it'
theorem next_end {src : Src} {P : Option Value → Shared → Prop} {E : Value → Shared → Prop} (hA : A.handled = Option.none) (R : Rel C ρ H s.heap) (ok : src.Ok H) (it : ItIs s.heap I src.vals.length src)
    (g : ∀ h', (∀ b o, b ≠ I → s.heap.get? b = some o → h'.get? b = some o) → P Option.none { s with heap := h' }) : wpAny (model C.prog C.w) A (pyNext (.ref I)) P E s := by
  cases src with
  | list a vs =>
    obtain ⟨its, hl, hx, _⟩ := R.view a _ ok
    exact wpAny_pyNext_list_end hA it hl.isList (by simp [Src.vals, hx.length]) fun h' hs => g h' fun b o hb e => hs b o hb e
  | tup a vs =>
    obtain ⟨its, hl, hx, _⟩ := R.view a _ ok
    exact wpAny_pyNext_tuple_end hA it hl (by simp [Src.vals, hx.length]) fun h' hs => g h' fun b o hb e => hs b o hb e
  | rng a₀ n =>
    have it' : IsRangeIter s.heap I (a₀ + ((Src.rng a₀ n).vals.length : Int) * 1) ((n : Int) - ((Src.rng a₀ n).vals.length : Int)) 1 := it
    exact wpAny_pyNext_range_end hA it' (by simp [Src.vals]) fun h' hs => g h' fun b o hb e => hs b o hb e
theorem iter_self {i : Nat} {src : Src} {P : Value → Shared → Prop} {E : Value → Shared → Prop} (it : ItIs s.heap I i src) (g : P (.ref I) s) : wpAny (model C.prog C.w) A (pyIter (.ref I)) P E s := by
  cases src with
  | list a vs => exact wpAny_pyIter_listiter it g
  | tup a vs => exact wpAny_pyIter_tupleiter it g
  | rng a₀ n => exact wpAny_pyIter_rangeiter it g
/-- the source of a loop: its iterator stands at the start -/
noncomputable def Its (C : Cx) (iter : Expr) (ρ : EV) (H : HV) (K : Src → HV → Prop) : Prop :=
  ∀ (A : Around) (s : Shared), Rm A C.k → Rel C ρ H s.heap → wpAny (model C.prog C.w) A (eval iter C.env) (fun u s₁ => wpAny (model C.prog C.w) A (pyIter u) (fun it s₂ =>
    ∃ I src H', it = .ref I ∧ s.heap.get? I = Option.none ∧ ItIs s₂.heap I 0 src ∧ Kp s s₂ ∧ Rel C ρ H' s₂.heap ∧ Gr H H' s.heap ∧ Off C H' I ∧ src.Ok H' ∧ K src H') nay s₁) nay s
theorem its_list {iter : Expr} {K : Src → HV → Prop} (h : Ev C iter ρ H fun v H₁ => ∃ a vs, v = .loc a ∧ H₁ a = some (.list vs) ∧ K (.list a vs) H₁) : Its C iter ρ H K := by
  intro A s hA R
  refine h.use hA R fun u v s₁ H₁ a K₁ R₁ G₁ q => ?_
  obtain ⟨l, vs, rfl, hl, q⟩ := q
  cases isV_loc a
  obtain ⟨its, hp, hx, _⟩ := R₁.view l _ hl
  refine wpAny_pyIter_list hp.isList ?_
  have kp : ∀ b o, s₁.heap.get? b = some o → (s₁.heap.push { cls := .type "list_iterator", data := .fields #[.ref l, .int 0 0] }).get? b = some o := fun b o e => Heap.get?_push_of_some _ e
  refine ⟨_, .list l vs, H₁, rfl, ?_, ⟨_, Heap.get?_push_size _ rfl, rfl, rfl⟩, K₁.trans (kp_of s₁.toks kp), R₁.keep kp, G₁, Off.new R₁ (Nat.le_refl _), hl, q⟩
  cases e : s.heap.get? s₁.heap.objs.size with
  | none => rfl
  | some o => obtain ⟨o', e'⟩ := K₁.there _ o e; exact absurd (Heap.lt_size e') (Nat.lt_irrefl _)
/-- a for loop over src by what holds behind i turns -/
theorem ex_For {x : Str} {p pos : Pos} {iter : Expr} {body : List Stmt} {Q : Fl → EV → HV → Prop} (hk : C.nms.lookup x = some .local ∨ C.nms.lookup x = some .cell)
    (h : Its C iter ρ H fun src H₁ => ∃ Inv : Nat → EV → HV → Prop, Inv 0 ρ H₁ ∧
      (∀ i v ρ' H', src.vals[i]? = some v → Inv i ρ' H' → src.Ok H' → Exs C body (put ρ' x v) H' fun fl ρ₂ H₂ => match fl with
        | .next | .cont => Inv (i + 1) ρ₂ H₂ ∧ src.Ok H₂ | .brk => Q .next ρ₂ H₂ | .ret v => Q (.ret v) ρ₂ H₂) ∧
      (∀ ρ' H', Inv src.vals.length ρ' H' → src.Ok H' → Q .next ρ' H'))
    (hs : ∀ env x, foldedSetIterable iter env x = pure x := by intros; rfl) : Ex C (.For (.Name x p) iter body [] pos) ρ H Q := by
  intro A s hA R
  refine wpAny_For (wpAny_mono (h A s hA R) (fun u s₁ h₁ => wpAny_mono h₁ (fun it s₂ h₂ => ?_) fun _ _ e => e) fun _ _ e => e) (hs _)
  obtain ⟨I, src, H₁, rfl, hnew, hit, K, R₁, G, off, ok, Inv, inv0, turn, done⟩ := h₂
  refine codeAny_mono (R := fun r s' => match r with | .ok f => SDone C H s Q f s' | .error _ => False) ?_ ?_
  · refine codeAny_forLoop (fun n s' => ∃ i ρ' H', i ≤ src.vals.length ∧ n = src.vals.length - i ∧ Inv i ρ' H' ∧ src.Ok H' ∧ ItIs s'.heap I i src ∧ SKp C H H' s s' ∧ Rel C ρ' H' s'.heap ∧ Off C H' I) ?_ (src.vals.length - 0)
      ⟨0, ρ, H₁, Nat.zero_le _, rfl, inv0, ok, hit, .of_kp K G, R₁, off⟩
    rintro n s₃ ⟨i, ρ', H', hi, rfl, inv, ok', hit', K', R', off'⟩
    by_cases hlt : i < src.vals.length
    · refine next_item R' ok' hit' (v := src.vals[i]) (by simp [hlt]) fun u h₄ t ha hit₄ hx₄ => ?_
      have K₄ := K'.skip (t := t) hnew hx₄
      have R₄ := R'.other off' hx₄
      refine wpAny_assign_Name (store_name hk (s := { s₃ with heap := h₄, toks := t }) R₄ ha fun s₅ K₅ R₅ => ?_)
      obtain ⟨oI, eI, tI⟩ := hit₄.there
      have hit₅ : ItIs s₅.heap I (i + 1) src := hit₄.at fun o e tb => K₅.get I o e tb (.inr ⟨off'.hi, off'.loc, off'.cel⟩)
      obtain ⟨oI₅, eI₅, tI₅⟩ := hit₅.there
      refine (turn i src.vals[i] ρ' H' (by simp [hlt]) inv ok').use hA R₅ fun f fl ρ₆ H₆ s₆ a K₆ R₆ q => ?_
      have K₇ := K₄.trans (K₅.trans K₆)
      have hit₆ : ItIs s₆.heap I (i + 1) src := hit₅.at fun o e tb => K₆.get I o e tb (.inr ⟨off'.hi, off'.loc, off'.cel⟩)
      cases f <;> cases fl <;> first | exact absurd a (fun x => x) | skip
      · exact ⟨_, by omega, i + 1, ρ₆, H₆, hlt, rfl, q.1, q.2, hit₆, K₇, R₆, off'.gr eI₅ K₆.gr⟩
      · exact ⟨.next, ρ₆, H₆, trivial, K₇, R₆, q⟩
      · exact ⟨_, by omega, i + 1, ρ₆, H₆, hlt, rfl, q.1, q.2, hit₆, K₇, R₆, off'.gr eI₅ K₆.gr⟩
      · exact ⟨.ret _, ρ₆, H₆, a, K₇, R₆, q⟩
    · have e : i = src.vals.length := by omega
      subst e
      refine next_end hA.hd R' ok' hit' fun h₄ hx₄ => wpAny_execs_nil ⟨.next, ρ', H', trivial, K'.skip (t := s₃.toks) hnew hx₄, R'.other off' hx₄, done ρ' H' inv ok'⟩
  · intro r s' d
    cases r with
    | ok f => exact d
    | error e => exact d.elim
end
end Mine
end
section
set_option maxRecDepth 100000
set_option Elab.async false
set_option linter.unusedVariables false
namespace Mine
open PySem PySem.Spec PyProof.Rows
/-- a call of a built-in function or a type on given values -/
noncomputable def VCall (C : Cx) (f : Value) (vs : List V) (ρ : EV) (H : HV) (Q : V → HV → Prop) : Prop := ∀ us, ValsAre us vs → TG C isV (call f us) ρ H Q
section
variable {C : Cx} {ρ : EV} {H H' : HV} {A : Around} {s : Shared} {Q : V → HV → Prop}
theorem ev_CallB {f : Str} {id : String} {p pos : Pos} {e : Expr} {es : List Expr} (g : GlobIs C f (.builtin id)) (hk : C.nms.lookup f = some .globalImplicit)
    (h : Args C pos (e :: es) ρ H fun vs H₁ => VCall C (.builtin id) vs ρ H₁ Q)
    (hs : ∀ env, starEach (e :: es) env = (false, eval e env) :: starEach es env := by intro _; rfl) (hp : ∀ env, (backTo pos (starEach (e :: es) env)).any (·.1) = false := by intro _; rfl)
    (hd : (f == ("__debug__" : Str)) = false := by decide) : Ev C (.Call (.Name f p) (e :: es) [] pos) ρ H Q := by
  intro A s hA R
  refine wpAny_Call_NameR (glob_load R g hk ?_ hd)
  have h' : TG C ValsAre (spliced (backTo pos (starEach (e :: es) C.env))) ρ H _ := h
  rw [hs] at h'
  have hp' := hp C.env
  rw [hs] at hp' ⊢
  exact Calls.callWith_builtin hp' (Calls.evalArgs_plain (h'.use hA R fun us vs s₁ H₁ a K R₁ G q => wpAny_mono (q us a A s₁ hA R₁) (fun _ _ d => d.trans K G) fun _ _ e => e))
theorem ev_CallT {f : Str} {T : String} {p pos : Pos} {e : Expr} {es : List Expr} (g : GlobIs C f (.type T)) (hk : C.nms.lookup f = some .globalImplicit)
    (h : Args C pos (e :: es) ρ H fun vs H₁ => VCall C (.type T) vs ρ H₁ Q)
    (hs : ∀ env, starEach (e :: es) env = (false, eval e env) :: starEach es env := by intro _; rfl) (hp : ∀ env, (backTo pos (starEach (e :: es) env)).any (·.1) = false := by intro _; rfl)
    (hd : (f == ("__debug__" : Str)) = false := by decide) : Ev C (.Call (.Name f p) (e :: es) [] pos) ρ H Q := by
  intro A s hA R
  refine wpAny_Call_NameR (glob_load R g hk ?_ hd)
  have h' : TG C ValsAre (spliced (backTo pos (starEach (e :: es) C.env))) ρ H _ := h
  rw [hs] at h'
  have hp' := hp C.env
  rw [hs] at hp' ⊢
  exact PySem.callWith_type hp' (Calls.evalArgs_plain (h'.use hA R fun us vs s₁ H₁ a K R₁ G q => wpAny_mono (q us a A s₁ hA R₁) (fun _ _ d => d.trans K G) fun _ _ e => e))
theorem its_range1 {p pos : Pos} {e : Expr} {K : Src → HV → Prop} (g : GlobIs C "range" (.type "range")) (hk : C.nms.lookup ("range" : Str) = some .globalImplicit)
    (h : Ev C e ρ H fun v H₁ => ∃ n : Int, v = .int n ∧ -1048576 ≤ n ∧ n ≤ 1048576 ∧ K (.rng 0 n.toNat) H₁)
    (hs : ∀ env, backTo pos (starEach [e] env) = [(false, eval e env)] := by intro _; rfl) : Its C (.Call (.Name "range" p) [e] [] pos) ρ H K := by
  intro A s hA R
  refine wpAny_Call_NameR (glob_load R g hk ?_ (by decide))
  rw [hs]
  refine PySem.callWith_type rfl (Calls.evalArgs_plain (Calls.spliced_cons (h.use hA R fun u v s₁ H₁ a K₁ R₁ G₁ q => Calls.spliced_nil ?_)))
  obtain ⟨n, rfl, hlo, hhi, q⟩ := q
  obtain ⟨t, rfl⟩ := isV_int a
  refine call_range_1 ?_
  refine wpAny_pyIter_range (IsRange.new ..) (small_one (by decide) (by decide) (by omega) (by omega)) ?_
  have hsz : Builtin.Range.rangeSize 0 n 1 = (n.toNat : Int) := by rw [rangeSize_one]; split <;> omega
  have kp : ∀ b o, s₁.heap.get? b = some o → ((s₁.heap.push { cls := .type "range", data := .fields #[.int 0 s₁.toks, .int n t, .int 1 (s₁.toks + 1)] }).push { cls := .type "range_iterator", data := .fields #[rawInt 0, rawInt (Builtin.Range.rangeSize 0 n 1), rawInt 1] }).get? b = some o :=
    fun b o e => Heap.get?_push_of_some _ (Heap.get?_push_of_some _ e)
  have hge : s₁.heap.objs.size ≤ (s₁.heap.push { cls := .type "range", data := .fields #[.int 0 s₁.toks, .int n t, .int 1 (s₁.toks + 1)] }).objs.size := by rw [Heap.size_push]; exact Nat.le_succ _
  refine ⟨_, .rng 0 n.toNat, H₁, rfl, ?_, ?_, K₁.trans (kp_of (s₁.toks + 1 + 1) kp), R₁.keep kp, G₁, Off.new R₁ hge, by show n.toNat ≤ _; omega, q⟩
  · cases e : s.heap.get? (s₁.heap.push { cls := .type "range", data := .fields #[.int 0 s₁.toks, .int n t, .int 1 (s₁.toks + 1)] }).objs.size with
    | none => rfl
    | some o => obtain ⟨o', e'⟩ := K₁.there _ o e; exact absurd (Heap.lt_size e') (Nat.not_lt.mpr hge)
  · show IsRangeIter _ _ _ _ _
    have e1 : (0 : Int) + ((0 : Nat) : Int) * 1 = 0 := by simp
    have e2 : ((n.toNat : Nat) : Int) - ((0 : Nat) : Int) = Builtin.Range.rangeSize 0 n 1 := by rw [hsz]; simp
    rw [e1, e2]
    exact Heap.get?_push_size _ rfl
/-! calls of the text's own functions -/
/-- the function at fa: its parameters, its body, its names -/
structure Fn (C : Cx) (fa : Addr) (params : List Str) (body : List Stmt) (nms : List (Str × NameKind)) (fd : FuncData) : Prop where
  obj : ∃ o, C.B.get? fa = some o ∧ o.data = .func fd
  crec : ∃ c o vs t n, fd.code = .ref c ∧ C.B.get? c = some o ∧ o.cls = .type n ∧ o.data = .fields vs ∧ vs[1]? = some (.str fd.qualname t)
  body : fd.body = .stmts body
  names : fd.scope.names = nms
  clo : fd.closure = []
  kind : fd.scope.kind = .function
  co : fd.scope.isCoroutine = false
  gen : fd.scope.isGenerator = false
  glob : fd.globals = mainGlobals
  bui : fd.builtins = builtinsNs
  binds : ∀ vals : List Value, vals.length = params.length → bindArgs fd ⟨vals, []⟩ = pure (params.zip vals)
  pk : ∀ x ∈ params, nms.lookup x = some .local ∨ nms.lookup x = some .cell
  nofree : ∀ x, nms.lookup x ≠ some .free
  nd : ((cellsFrom 0 nms []).map (·.1)).Nodup
/-- the callee's place -/
abbrev Cx.into (C : Cx) (env : Env) (lo : Nat) (nms : List (Str × NameKind)) : Cx := { C with env := env, lo := lo, nms := nms, k := C.k - 1 }
theorem zip_vals : ∀ (params : List Str) (us : List Value) (vs : List V), ValsAre us vs → us.length = params.length → ∀ (kindOf : Str → Option NameKind) (m cm : Str → Option Value) (ρ₀ : EV),
    (∀ x ∈ params, kindOf x = some .local ∨ kindOf x = some .cell) →
    (∀ x v, kindOf x = some .local → ρ₀ x = some v → ∃ u, m x = some u ∧ absV u = some v) → (∀ x v, kindOf x = some .cell → ρ₀ x = some v → ∃ u, cm x = some u ∧ absV u = some v) →
    ∃ ρ : EV, (∀ x, ρ x = ((params.zip vs).reverse.lookup x).or (ρ₀ x)) ∧ (∀ x v, kindOf x = some .local → ρ x = some v → ∃ u, bindL kindOf (params.zip us) m x = some u ∧ absV u = some v) ∧ (∀ x v, kindOf x = some .cell → ρ x = some v → ∃ u, bindC kindOf (params.zip us) cm x = some u ∧ absV u = some v)
  | [], us, vs, hv, hl, kindOf, m, cm, ρ₀, hk, h1, h2 => by
    cases us with
    | cons _ _ => simp at hl
    | nil => cases hv; exact ⟨ρ₀, fun x => by simp, h1, h2⟩
  | p :: params, us, vs, hv, hl, kindOf, m, cm, ρ₀, hk, h1, h2 => by
    cases hv with
    | nil => simp at hl
    | @cons u v us vs a r =>
      have hl' : us.length = params.length := by simpa using hl
      have hk' : ∀ x ∈ params, kindOf x = some .local ∨ kindOf x = some .cell := fun x hx => hk x (List.mem_cons_of_mem _ hx)
      have key := zip_vals params us vs r hl' kindOf (if kindOf p = some .local then fun y => if y = p then some u else m y else m) (if kindOf p = some .local then cm else fun y => if y = p then some u else cm y) (put ρ₀ p v) hk' ?_ ?_
      · obtain ⟨ρ, e, g1, g2⟩ := key
        refine ⟨ρ, fun x => ?_, g1, g2⟩
        rw [e x]
        simp only [List.zip_cons_cons, List.reverse_cons, List.lookup_append, Option.or_assoc]
        congr 1
        unfold put
        by_cases hx : x = p
        · subst hx; simp
        · have : (x == p) = false := by simpa using hx
          simp [List.lookup, this, hx]
      · intro x v' hx e
        unfold put at e
        by_cases hxp : x = p
        · subst hxp
          rw [if_pos rfl] at e; cases e
          rw [if_pos hx]; exact ⟨u, by simp, a⟩
        · rw [if_neg hxp] at e
          obtain ⟨u', e1, e2⟩ := h1 x v' hx e
          refine ⟨u', ?_, e2⟩
          split
          · simp [hxp, e1]
          · exact e1
      · intro x v' hx e
        unfold put at e
        by_cases hxp : x = p
        · subst hxp
          rw [if_pos rfl] at e; cases e
          have : ¬ kindOf x = some .local := by rw [hx]; simp
          rw [if_neg this]; exact ⟨u, by simp, a⟩
        · rw [if_neg hxp] at e
          obtain ⟨u', e1, e2⟩ := h2 x v' hx e
          refine ⟨u', ?_, e2⟩
          split
          · exact e1
          · simp [hxp, e1]
theorem hasCell {x : Str} : ∀ (names : List (Str × NameKind)) (n : Nat) (acc : List (Str × Addr)), names.lookup x = some .cell ∨ (acc.lookup x).isSome = true → ((cellsFrom n names acc).lookup x).isSome = true
  | [], _, _, h => h.elim (fun e => by cases e) id
  | (y, k) :: r, n, acc, h => by
    unfold cellsFrom
    by_cases hk : (k == .cell) = true
    · rw [if_pos hk]
      refine hasCell r (n + 1) ((y, n) :: acc) ?_
      by_cases hy : (x == y) = true
      · exact .inr (by rw [List.lookup_cons, hy]; rfl)
      · refine h.imp (fun e => ?_) fun e => ?_
        · rw [List.lookup_cons] at e; simpa only [hy] using e
        · rw [List.lookup_cons]; simpa only [hy] using e
    · rw [if_neg hk]
      refine hasCell r n acc ?_
      by_cases hy : (x == y) = true
      · refine .inr (h.elim (fun e => ?_) id)
        rw [List.lookup_cons, hy] at e
        exact absurd (by rw [Option.some.inj e]; rfl) hk
      · refine h.imp (fun e => ?_) id
        rw [List.lookup_cons] at e; simpa only [hy] using e
/-- the names that a call finds bound -/
noncomputable def argsV (params : List Str) (vs : List V) : EV := fun x => (params.zip vs).reverse.lookup x
noncomputable def retOf : Fl → V
  | .ret v => v
  | _ => .none
/-- a call of the function with these values -/
noncomputable def FCall (C : Cx) (params : List Str) (body : List Stmt) (nms : List (Str × NameKind)) (vs : List V) (H : HV) (Q : V → HV → Prop) : Prop :=
  0 < C.k ∧ vs.length = params.length ∧ ∀ env lo, C.lo ≤ lo → (∀ a, (H a).isSome = true → a < lo) → Exs (C.into env lo nms) body (argsV params vs) H fun fl _ H' => Q (retOf fl) H'
/-- the same, where the callee's own code object is told -/
noncomputable def FCallG (C : Cx) (cd : Value) (params : List Str) (body : List Stmt) (nms : List (Str × NameKind)) (vs : List V) (H : HV) (Q : V → HV → Prop) : Prop :=
  0 < C.k ∧ vs.length = params.length ∧ ∀ env lo, C.lo ≤ lo → (∀ a, (H a).isSome = true → a < lo) → env.code = cd → Exs (C.into env lo nms) body (argsV params vs) H fun fl _ H' => Q (retOf fl) H'
theorem FCall.toG {cd : Value} {params : List Str} {body : List Stmt} {nms : List (Str × NameKind)} {vs : List V} (h : FCall C params body nms vs H Q) : FCallG C cd params body nms vs H Q := ⟨h.1, h.2.1, fun env lo a b _ => h.2.2 env lo a b⟩
theorem Rm.deeper {k : Nat} (hA : Rm A k) (hk : 0 < k) (env : Env) : Rm (A.deeper env) (k - 1) :=
  ⟨hA.hd, by show A.depth + 1 + (k - 1) ≤ 900; have := hA.dp; omega, by show A.units + 3 + 8 * (k - 1) ≤ 9000; have := hA.un; omega⟩
theorem call_fnG {fa : Addr} {params : List Str} {body : List Stmt} {nms : List (Str × NameKind)} {fd : FuncData} {vs : List V} {us : List Value} (F : Fn C fa params body nms fd) (lim : C.B.NoLimit) (hv : ValsAre us vs)
    (h : FCallG C fd.code params body nms vs H Q) : TG C isV (call (.ref fa) us) ρ H Q := by
  intro A s hA R
  obtain ⟨hk, hlen, h⟩ := h
  obtain ⟨o, ho, hdat⟩ := F.obj
  have hul : us.length = params.length := hv.length.trans hlen
  have hrec : s.heap.CodeRec fd.code fd.qualname := by
    obtain ⟨c, oc, vs', t, n, e1, e2, e3, e4, e5⟩ := F.crec
    exact ⟨c, oc, vs', t, e1, R.base _ _ e2 (tabl_type e3), e4, e5⟩
  have hlim : s.heap.NoLimit := by
    obtain ⟨mc, hn, e⟩ := lim
    exact ⟨mc, ns_at hn (R.base _), e⟩
  have hkinds : ∀ x ∈ params.zip us, fd.scope.names.lookup x.1 = some .local ∨ (fd.scope.names.lookup x.1 = some .cell ∧ ((cellsFrom (s.heap.objs.size + 1) fd.scope.names []).lookup x.1).isSome = true) := by
    intro x hx
    have hm := F.pk x.1 (List.of_mem_zip hx).1
    rw [F.names]
    rcases hm with q | q
    · exact .inl q
    · exact .inr ⟨q, hasCell _ _ _ (.inl q)⟩
  refine wpAny_call (codeAny_call_cells (by have := hA.dp; show A.depth < 1000; omega) (R.base _ _ ho (tabl_func hdat)) hdat hlim hrec F.body (F.binds us hul) F.clo hkinds (fun s₁ X => ?_) F.co F.gen F.kind)
  have hlo : C.lo ≤ s.heap.objs.size := R.lo_size
  have hdom : ∀ a, (H a).isSome = true → a < s.heap.objs.size := fun a e => by
    obtain ⟨o, eo⟩ := Option.isSome_iff_exists.mp e
    obtain ⟨ob, e'⟩ := (R.view a o eo).there
    exact Heap.lt_size e'
  have hko : ∀ x, (callEnvC fd s.heap.objs.size fa).kindOf x = nms.lookup x := fun x => by show fd.scope.names.lookup x = _; rw [F.names]
  obtain ⟨ρ₁, e₁, g1, g2⟩ := zip_vals params us vs hv hul (callEnvC fd s.heap.objs.size fa).kindOf (fun _ => Option.none) (fun _ => Option.none) (fun _ => Option.none) (fun x hx => by rw [hko]; exact F.pk x hx) (fun _ _ _ e => by cases e) (fun _ _ _ e => by cases e)
  have eρ : argsV params vs = ρ₁ := funext fun x => by rw [e₁ x]; simp [argsV]
  have keep := X.toInCall.keep
  have dom₁ : ∀ x v, ρ₁ x = some v → nms.lookup x = some .local ∨ nms.lookup x = some .cell ∨ nms.lookup x = some .free := fun x v e => by
    rw [e₁ x] at e
    simp only [Option.or_none] at e
    have hm : (x, v) ∈ params.zip vs := by
      have := mem_of_lookup e
      exact List.mem_reverse.mp this
    rcases F.pk x (List.of_mem_zip hm).1 with q | q
    · exact .inl q
    · exact .inr (.inl q)
  have R₁ : Rel (C.into (callEnvC fd s.heap.objs.size fa) s.heap.objs.size nms) (argsV params vs) H s₁.heap := by
    rw [eρ]
    refine ⟨⟨F.kind, F.glob, F.bui, F.names⟩, fun b o e t => keep _ _ (R.base b o e t), R.old.step_keeps keep, Nat.le_trans R.blo hlo, fun a o e => (R.view a o e).at fun _ e' _ => keep _ _ e', dom₁, ⟨_, X.toInCall.ns, fun x v hx e => g1 x v (by rw [hko]; exact hx) e⟩, fun x hx => ?_, fun x y c h h' => name_of_addr X.apart h h', fun x c hm => ?_, ?_, Nat.le_refl _, ⟨R.sysm.1, ?_⟩, R.code.trans (.of_keep keep)⟩
    · have hx' : nms.lookup x = some .cell ∨ nms.lookup x = some .free := hx
      rcases hx' with hx' | hx'
      · have hsome : ((cellsFrom (s.heap.objs.size + 1) fd.scope.names []).lookup x).isSome = true := hasCell _ _ _ (.inl (by rw [F.names]; exact hx'))
        obtain ⟨c, hc⟩ := Option.isSome_iff_exists.mp hsome
        refine ⟨c, _, hc, X.cell x c hc, fun v e => ?_⟩
        exact g2 x v (by rw [hko]; exact hx') e
      · exact absurd hx' (F.nofree x)
    · have hgt := X.above x c hm
      have hgt' : s.heap.objs.size < c := hgt
      refine ⟨Nat.ne_of_gt hgt, Nat.le_of_lt hgt', ?_, ?_⟩
      · cases e : H c with
        | none => rfl
        | some o => exact absurd (hdom c (by rw [e]; rfl)) (Nat.not_lt.mpr (Nat.le_of_lt hgt'))
      · have hnd : ((cellsFrom (s.heap.objs.size + 1) fd.scope.names []).map (·.1)).Nodup := by
          rw [F.names, cellsFrom_names nms (s.heap.objs.size + 1) 0 [] [] rfl]; exact F.nd
        obtain ⟨o, e, _⟩ := X.cell x c (lookup_of_mem_nodup hnd hm)
        exact ⟨o, e⟩
    · exact R.new
    · obtain ⟨_, o, e⟩ := R.sysm
      exact ⟨o, keep _ _ e⟩
  refine (h _ _ hlo hdom rfl).use (hA.deeper hk _) R₁ fun f fl ρ' H' s' a K R' q => ?_
  obtain ⟨h₁, t₁, e₁, _⟩ := X.toInCall.done
  have kp : Kp s s' := by
    refine ⟨fun b o e t => K.get b o (keep _ _ e) t (.inl (Heap.lt_size e)), fun b o e => K.there b o (keep _ _ e), K.os.trans (by rw [e₁]), (by have := K.gens; rw [e₁] at this; exact this), (TabK.of_keep keep).trans K.tab⟩
  have gr : Gr H H' s.heap := fun b o e n => K.gr b o (keep _ _ e) n
  have fin : ∀ u, absV u = some (retOf fl) → Done C isV ρ H s Q u s' := fun u e => ⟨retOf fl, H', e, kp, R.stepT kp.get kp.there R'.old kp.tab R'.view gr, gr, q⟩
  cases f <;> cases fl <;> first | exact absurd a (fun x => x) | exact fin _ a | exact fin _ rfl
theorem call_fn {fa : Addr} {params : List Str} {body : List Stmt} {nms : List (Str × NameKind)} {fd : FuncData} {vs : List V} {us : List Value} (F : Fn C fa params body nms fd) (lim : C.B.NoLimit) (hv : ValsAre us vs)
    (h : FCall C params body nms vs H Q) : TG C isV (call (.ref fa) us) ρ H Q := call_fnG F lim hv h.toG
theorem ev_CallF {f : Str} {p pos : Pos} {e : Expr} {es : List Expr} {fa : Addr} {params : List Str} {body : List Stmt} {nms : List (Str × NameKind)} {fd : FuncData} (F : Fn C fa params body nms fd) (lim : C.B.NoLimit) (g : GlobIs C f (.ref fa)) (hk : C.nms.lookup f = some .globalImplicit)
    (h : Args C pos (e :: es) ρ H fun vs H₁ => FCall C params body nms vs H₁ Q)
    (hs : ∀ env, starEach (e :: es) env = (false, eval e env) :: starEach es env := by intro _; rfl) (hp : ∀ env, (backTo pos (starEach (e :: es) env)).any (·.1) = false := by intro _; rfl)
    (hd : (f == ("__debug__" : Str)) = false := by decide) : Ev C (.Call (.Name f p) (e :: es) [] pos) ρ H Q := by
  intro A s hA R
  refine wpAny_Call_NameR (glob_load R g hk ?_ hd)
  have h' : TG C ValsAre (spliced (backTo pos (starEach (e :: es) C.env))) ρ H _ := h
  rw [hs] at h' ⊢
  obtain ⟨o, ho, hdat⟩ := F.obj
  exact Calls.callWith_function (o := o) (fd := fd) (Calls.evalArgs_plain (h'.use hA R fun us vs s₁ H₁ a K R₁ G q =>
    ⟨⟨R₁.base _ _ ho (tabl_func hdat), hdat⟩, wpAny_mono (call_fn F lim a q A s₁ hA R₁) (fun _ _ d => d.trans K G) fun _ _ e => e⟩))
end
end Mine
end
section
set_option maxRecDepth 100000
set_option Elab.async false
set_option linter.unusedVariables false
namespace Mine
open PySem PySem.Spec PyProof.Rows
/-- the names within a comprehension -/
noncomputable def relab (outer names : List (Str × NameKind)) : List (Str × NameKind) :=
  names.map fun p => if p.2 == .free && outer.lookup p.1 == some .cell then (p.1, .cell) else p
/-- what a comprehension sees of the names around -/
noncomputable def inner (ρ : EV) (nms : List (Str × NameKind)) : EV := fun y => match nms.lookup y with
  | some .cell => ρ y
  | some .free => ρ y
  | _ => Option.none
theorem lookup_relab_local (outer : List (Str × NameKind)) : ∀ {names : List (Str × NameKind)} {x : Str}, names.lookup x = some .local → (relab outer names).lookup x = some .local
  | [], _, h => by simp at h
  | (n, k) :: r, x, h => by
    unfold relab
    rw [List.map_cons]
    cases hx : x == n with
    | true =>
      simp only [List.lookup_cons, hx] at h
      cases h
      simp [List.lookup_cons, hx]
    | false =>
      simp only [List.lookup_cons, hx] at h
      have ih := lookup_relab_local outer h
      split
      · simp only [List.lookup_cons, hx]; exact ih
      · simp only [List.lookup_cons, hx]; exact ih
/-- a name that is a cell or free within is free in the comprehension's own table -/
theorem lookup_relab_free {outer : List (Str × NameKind)} : ∀ {names : List (Str × NameKind)} {x : Str}, (∀ p ∈ names, p.2 ≠ .cell) → (relab outer names).lookup x = some .cell ∨ (relab outer names).lookup x = some .free → (x, .free) ∈ names
  | [], _, _, h => by simp [relab] at h
  | (n, k) :: r, x, hc, h => by
    unfold relab at h
    rw [List.map_cons] at h
    have ih := @lookup_relab_free outer r x (fun p hp => hc p (List.mem_cons_of_mem _ hp))
    cases hx : x == n with
    | true =>
      have e := eq_of_beq hx; subst e
      by_cases hk : (k == NameKind.free && outer.lookup x == some NameKind.cell) = true
      · have : k = .free := by
          have := (Bool.and_eq_true_iff.mp hk).1; exact eq_of_beq this
        subst this; exact .head _
      · simp only [if_neg hk, List.lookup_cons, hx] at h
        rcases h with h | h
        · exact absurd (Option.some.inj h) (hc (x, k) (.head _))
        · have := Option.some.inj h; subst this; exact .head _
    | false =>
      refine .tail _ (ih ?_)
      by_cases hk : (k == NameKind.free && outer.lookup n == some NameKind.cell) = true
      · simp only [hk, if_true, List.lookup_cons, hx] at h; exact h
      · simp only [if_neg hk, List.lookup_cons, hx] at h; exact h
theorem closure_go (env : Env) (f : Str × NameKind → List (Str × Addr) → Sem (ForInStep (List (Str × Addr))))
    (hf : ∀ name kind cs, f (name, kind) cs = if kind == .free then (do let a ← cellOf env name; pure (.yield ((name, a) :: cs))) else pure (.yield cs)) :
    ∀ (names : List (Str × NameKind)) (acc : List (Str × Addr)), (∀ n, (n, NameKind.free) ∈ names → ∃ c, env.cells.lookup n = some c) → (∀ p ∈ acc, env.cells.lookup p.1 = some p.2) →
      ∃ cl, forIn names acc f = pure cl ∧ (∀ p ∈ cl, env.cells.lookup p.1 = some p.2) ∧ (∀ n, (n, NameKind.free) ∈ names → (cl.lookup n).isSome = true) ∧ (∀ n, (acc.lookup n).isSome = true → (cl.lookup n).isSome = true)
  | [], acc, _, ha => ⟨acc, by rw [List.forIn_nil], ha, fun _ h => (nomatch h), fun _ h => h⟩
  | (name, kind) :: r, acc, hc, ha => by
    rw [List.forIn_cons, hf]
    by_cases hk : (kind == NameKind.free) = true
    · have e := eq_of_beq hk; subst e
      obtain ⟨c, hcc⟩ := hc name (.head _)
      have hcell : cellOf env name = pure c := by unfold cellOf; rw [hcc]
      obtain ⟨cl, e, h1, h2, h3⟩ := closure_go env f hf r ((name, c) :: acc) (fun n hn => hc n (.tail _ hn)) (fun p hp => by
        rcases List.mem_cons.mp hp with rfl | hp
        · exact hcc
        · exact ha p hp)
      refine ⟨cl, ?_, h1, fun n hn => ?_, fun n hn => h3 n ?_⟩
      · rw [if_pos hk, hcell]; simpa using e
      · rcases List.mem_cons.mp hn with q | q
        · cases q; exact h3 name (by simp)
        · exact h2 n q
      · rw [List.lookup_cons]; split
        · rfl
        · exact hn
    · obtain ⟨cl, e, h1, h2, h3⟩ := closure_go env f hf r acc (fun n hn => hc n (.tail _ hn)) ha
      refine ⟨cl, ?_, h1, fun n hn => ?_, h3⟩
      · rw [if_neg hk]; simpa using e
      · rcases List.mem_cons.mp hn with q | q
        · cases q; exact absurd rfl hk
        · exact h2 n q
theorem closure_ok {env : Env} {scope : Scope} (h : ∀ n, (n, NameKind.free) ∈ scope.names → ∃ c, env.cells.lookup n = some c) :
    ∃ cl, closureFor scope env = pure cl ∧ (∀ p ∈ cl, env.cells.lookup p.1 = some p.2) ∧ ∀ n, (n, NameKind.free) ∈ scope.names → (cl.lookup n).isSome = true := by
  obtain ⟨cl, e, h1, h2, _⟩ := closure_go env (fun x cs => match x with | (name, kind) => if (kind == NameKind.free) = true then do let a ← cellOf env name; pure (.yield ((name, a) :: cs)) else pure (.yield cs)) (fun _ _ _ => rfl) scope.names [] h (fun _ hp => (nomatch hp))
  refine ⟨cl, ?_, h1, h2⟩
  show (forIn scope.names [] (fun x cs => match x with | (name, kind) => if (kind == NameKind.free) = true then do let a ← cellOf env name; pure (ForInStep.yield ((name, a) :: cs)) else pure (ForInStep.yield cs)) >>= fun cs => pure cs) = pure cl
  rw [e]; rfl
/-- the test clauses of a comprehension -/
noncomputable def ifsTree (ifs : List Expr) (env : Env) : Sem Bool := forIn ifs true fun c r => if r = true then do let ok ← isTrue c env (eval c env); pure (ForInStep.yield ok) else pure (ForInStep.yield r)
abbrev Ifs (C : Cx) (ifs : List Expr) (ρ : EV) (H : HV) (Q : Bool → HV → Prop) : Prop := TG C (fun a b => a = b) (ifsTree ifs C.env) ρ H Q
section
variable {C : Cx} {ρ : EV} {H H' : HV} {A : Around} {s : Shared}
theorem ifs_nil {Q : Bool → HV → Prop} (q : Q true H) : Ifs C [] ρ H Q := fun A s hA R => by
  show wpAny _ _ (ifsTree [] C.env) _ _ _
  unfold ifsTree
  rw [List.forIn_nil]; exact wpAny_pure (Done.b R q)
/-- a comprehension by what holds behind i items -/
noncomputable def CompOK (C : Cx) (elt : Expr) (x : Str) (ifs : List Expr) (names : List (Str × NameKind)) (src : Src) (ρ : EV) (H : HV) (Inv : Nat → List V → HV → Prop) : Prop :=
  Inv 0 [] H ∧ ∀ i v ys H', src.vals[i]? = some v → Inv i ys H' → src.Ok H' → ∀ env,
    Ifs { C with env := env, nms := relab C.nms names } ifs (put (inner ρ (relab C.nms names)) x v) H' fun ok H₂ =>
      if ok = true then Ev { C with env := env, nms := relab C.nms names } elt (put (inner ρ (relab C.nms names)) x v) H₂ fun y H₃ => Inv (i + 1) (ys ++ [y]) H₃ ∧ src.Ok H₃ else Inv (i + 1) ys H₂ ∧ src.Ok H₂
/-- a foreign object comes into sight -/
theorem Rel.see {D : Addr} {o : AO} {h : Heap} (R : Rel C ρ H h) (off : Off C H D) (x : ObjIs C.prog C.w h D o) : Rel C ρ (upd H D o) h := by
  refine ⟨R.eok, R.base, R.old, R.blo, fun b ob e => ?_, R.dom, R.loc, R.cel, R.apart, fun y c hm => ?_, ?_, R.lloc, ⟨?_, R.sysm.2⟩, R.code⟩
  · unfold upd at e; split at e
    · rename_i h; cases e; subst h; exact x
    · exact R.view b ob e
  · obtain ⟨h1, h2, h3, h4⟩ := R.cloc y c hm
    refine ⟨h1, h2, ?_, h4⟩
    unfold upd; rw [if_neg]; exact h3
    rintro rfl; exact off.cel y hm
  · unfold upd; rw [if_neg (Ne.symm off.loc)]; exact R.hloc
  · unfold upd; rw [if_neg (Ne.symm off.sys)]; exact R.sysm.1
theorem valsOk {src : Src} {h : Heap} (R : Rel C ρ H h) (ok : src.Ok H) : src.vals.length ≤ 1048576 := by
  cases src with
  | list a vs => obtain ⟨_, _, _, z⟩ := R.view a _ ok; exact z
  | tup a vs => obtain ⟨_, _, _, z⟩ := R.view a _ ok; exact z
  | rng a n => have : n ≤ 1048576 := ok; simpa [Src.vals] using this
/-- the comprehension's run, whatever becomes of its list -/
theorem comp_core {elt iter : Expr} {x : Str} {px pos pos' : Pos} {ifs : List Expr} {scope : Scope} {use : Option (Value → Sem Unit)} {P : Value → Shared → Prop}
    (hx : scope.names.lookup x = some .local) (hkind : scope.kind = .function) (hnc : ∀ p ∈ scope.names, p.2 ≠ .cell) (hnames : ∀ p ∈ scope.names, p.2 = .local → scope.names.lookup p.1 = some .local)
    (hfree : ∀ n, (n, NameKind.free) ∈ scope.names → C.nms.lookup n = some .cell ∨ C.nms.lookup n = some .free)
    (hA : Rm A C.k) (R : Rel C ρ H s.heap) (hs : ∀ env v, foldedSetIterable iter env v = pure v)
    (h : Its C iter ρ H fun src H₁ => ∃ Inv, CompOK C elt x ifs scope.names src ρ H₁ Inv ∧
      ∀ ys H', Inv src.vals.length ys H' → ∀ (s' : Shared) (D L : Addr) (us : List Value), Kp s s' → Rel C ρ H' s'.heap → Gr H H' s.heap → s.heap.get? D = Option.none → s.heap.get? L = Option.none → D ≠ L → Off C H' D → Off C H' L →
        s'.heap.PlainList D us.toArray → ValsAre us ys → ys.length ≤ 1048576 → (∃ m, s'.heap.Ns L m) → compPost (model C.prog C.w) A nay use P (.ref D) L (.ok .next) s') :
    wpAny (model C.prog C.w) A (comprehension (.ListComp elt [⟨.Name x px, iter, ifs, 0⟩] scope pos) scope C.env pos' (newList []) false (eval iter C.env) use) P nay s := by
  obtain ⟨cl, ecl, hcl1, hcl2⟩ := closure_ok (env := C.env) (scope := scope) fun n hn => by
    obtain ⟨c, u, e, _⟩ := R.cel n (hfree n hn)
    exact ⟨c, e⟩
  refine wpAny_comprehension_free rfl (hs _) ecl hkind hnames (wpAny_mono (h A s hA R) (fun u s₁ h₁ => wpAny_mono h₁ (fun it s₂ h₂ => ?_) fun _ _ e => e) fun _ _ e => e)
  obtain ⟨I, src, H₁, rfl, hnew, hit, K, R₁, G, off, ok, Inv, ⟨inv0, turn⟩, fin⟩ := h₂
  refine wpAny_newObj_type (wpAny_newFunctionEnv hnc (by intro y hy; simp at hy) (fun h₄ hns₄ hsb₄ => ?_) hkind)
  dsimp only at hns₄ hsb₄ ⊢
  generalize hH2 : s₂.heap.push { cls := .type "list", dict := Option.none, data := .seq ([] : List Value).toArray } = H2 at hns₄ hsb₄ ⊢
  have hL : H2.objs.size = s₂.heap.objs.size + 1 := by rw [← hH2, Heap.size_push]
  have hDL : s₂.heap.objs.size ≠ H2.objs.size := by omega
  have old : ∀ b o, s₂.heap.get? b = some o → h₄.get? b = some o := fun b o e => by
    have hb : b ≠ H2.objs.size := Nat.ne_of_lt (by rw [hL]; exact Nat.lt_succ_of_lt (Heap.lt_size e))
    exact hsb₄.extBut b o hb (Heap.get?_push_of_some _ (hH2 ▸ Heap.get?_push_of_some _ e))
  have R₄ : Rel C ρ H₁ h₄ := R₁.keep old
  have offD : Off C H₁ s₂.heap.objs.size := Off.new R₁ (Nat.le_refl _)
  have offL : Off C H₁ H2.objs.size := Off.new R₁ (by omega)
  have hI : I < s₂.heap.objs.size := by obtain ⟨o, e, _⟩ := hit.there; exact Heap.lt_size e
  have hPD : h₄.PlainList s₂.heap.objs.size #[] := ⟨_, hsb₄.extBut _ _ hDL (Heap.get?_push_of_some _ (by rw [← hH2]; exact Heap.get?_push_size _ rfl))⟩
  have sD : s.heap.get? s₂.heap.objs.size = Option.none := by
    cases e : s.heap.get? s₂.heap.objs.size with
    | none => rfl
    | some o => obtain ⟨o', e'⟩ := K.there _ o e; exact absurd (Heap.lt_size e') (Nat.lt_irrefl _)
  have sL : s.heap.get? H2.objs.size = Option.none := by
    cases e : s.heap.get? H2.objs.size with
    | none => rfl
    | some o => obtain ⟨o', e'⟩ := K.there _ o e; exact absurd (Heap.lt_size e') (by rw [hL]; exact Nat.not_lt.mpr (Nat.le_succ _))
  have eok : EnvOk (compEnvC scope cl H2.objs.size C.env) (relab C.nms scope.names) := by
    refine ⟨hkind, R.eok.glob, R.eok.bui, ?_⟩
    show (scope.names.map fun (n, k) => if (k == NameKind.free && C.env.scope.kind == ScopeKind.function && C.env.kindOf n == some NameKind.cell) then (n, NameKind.cell) else (n, k)) = _
    unfold relab
    refine List.map_congr_left fun p _ => ?_
    obtain ⟨n, k⟩ := p
    simp only [R.eok.kind, R.kindOf n, beq_self_eq_true, Bool.and_true]
  -- what holds between the turns
  have main : ∀ s₅ : Shared, s₅ = { s₂ with heap := h₄, toks := s₂.toks + ([] : List (Str × Value)).length } →
      codeAny (model C.prog C.w) A (.compLoop (.ListComp elt [⟨.Name x px, iter, ifs, 0⟩] scope pos) 0 (.ref I) (.ref s₂.heap.objs.size) (compEnvC scope cl H2.objs.size C.env))
        (compPost (model C.prog C.w) A nay use P (.ref s₂.heap.objs.size) H2.objs.size) s₅ := by
    rintro s₅ rfl
    refine codeAny_mono (R := fun r s' => match r with | .ok _ => compPost (model C.prog C.w) A nay use P (.ref s₂.heap.objs.size) H2.objs.size (.ok .next) s' | .error _ => False) ?_ ?_
    · refine codeAny_compLoop_tests (fun n s' => ∃ i ys us H' m, i ≤ src.vals.length ∧ n = src.vals.length - i ∧ Inv i ys H' ∧ src.Ok H' ∧ ItIs s'.heap I i src ∧ ys.length ≤ i ∧ ValsAre us ys ∧ s'.heap.PlainList s₂.heap.objs.size us.toArray ∧
        s'.heap.Ns H2.objs.size m ∧ Kp s s' ∧ Rel C ρ H' s'.heap ∧ Gr H H' s.heap ∧ Off C H' I ∧ Off C H' s₂.heap.objs.size ∧ Off C H' H2.objs.size) ?_ (src.vals.length - 0)
        ⟨0, [], [], H₁, _, Nat.zero_le _, rfl, inv0, ok, hit.at fun o e _ => old _ _ e, Nat.zero_le _, .nil, hPD, hns₄, K.trans (kp_of _ old), R₄, G, off, offD, offL⟩
      rintro n s₆ ⟨i, ys, us, H', m, hi, rfl, inv, ok', hit', hlen, hus, hP', hns', K', R', G', offI', offD', offL'⟩
      by_cases hlt : i < src.vals.length
      · refine next_item R' ok' hit' (v := src.vals[i]) (by simp [hlt]) fun u h₇ t ha hit₇ hx₇ => ?_
        have hIL : H2.objs.size ≠ I := Nat.ne_of_gt (by rw [hL]; exact Nat.lt_succ_of_lt hI)
        have hns₇ : h₇.Ns H2.objs.size m := hns'.at' fun o e => hx₇ _ _ hIL e
        refine wpAny_assign_Name (wpAny_storeName_local (env := compEnvC scope cl H2.objs.size C.env) (by show (relabel scope C.env).names.lookup x = _; exact lookup_relabel_local hx) hns₇ (fun h₈ hns₈ hs₈ => ?_) (by show (scope.kind == _ || (scope.kind == _ && _)) = false; rw [hkind]; rfl))
        -- the state at the element's evaluation
        have hx₈ : ∀ b o, b ≠ H2.objs.size → h₇.get? b = some o → h₈.get? b = some o := fun b o hb e => (hs₈.2 b hb).trans e
        have R₈ : Rel C ρ H' h₈ := (R'.other offI' hx₇).other offL' hx₈
        have K₈ : Kp s { s₆ with heap := h₈, toks := t + 1 } := by
          have ne : ∀ b o, s.heap.get? b = some o → b ≠ I ∧ b ≠ H2.objs.size := fun b o e => ⟨(fun q => by rw [q, hnew] at e; cases e), (fun q => by rw [q, sL] at e; cases e)⟩
          exact ⟨fun b o e tb => hx₈ _ _ (ne b o e).2 (hx₇ _ _ (ne b o e).1 (K'.get b o e tb)), fun b o e => let ⟨o', e'⟩ := K'.there b o e; ⟨o', hx₈ _ _ (ne b o e).2 (hx₇ _ _ (ne b o e).1 e')⟩, K'.os, K'.gens, K'.tab.since fun b o o₀ e₀ e => hx₈ _ _ (ne b o₀ e₀).2 (hx₇ _ _ (ne b o₀ e₀).1 e)⟩
        have hit₈ : ItIs h₈ I (i + 1) src := hit₇.at fun o e _ => hx₈ _ _ (Ne.symm hIL) e
        have hDI : s₂.heap.objs.size ≠ I := Nat.ne_of_gt hI
        have hP₈ : h₈.PlainList s₂.heap.objs.size us.toArray := hP'.at fun o e => hx₈ _ _ hDL (hx₇ _ _ hDI e)
        have Rc : Rel { C with env := compEnvC scope cl H2.objs.size C.env, nms := relab C.nms scope.names } (put (inner ρ (relab C.nms scope.names)) x src.vals[i]) H' h₈ := by
          have free_of : ∀ y, (relab C.nms scope.names).lookup y = some .cell ∨ (relab C.nms scope.names).lookup y = some .free → C.nms.lookup y = some .cell ∨ C.nms.lookup y = some .free := fun y hy => hfree y (lookup_relab_free hnc hy)
          have in_put : ∀ y v', (put (inner ρ (relab C.nms scope.names)) x src.vals[i]) y = some v' → y ≠ x → ((relab C.nms scope.names).lookup y = some .cell ∨ (relab C.nms scope.names).lookup y = some .free) ∧ ρ y = some v' := fun y v' e hy => by
            unfold put at e; rw [if_neg hy] at e; unfold inner at e
            split at e
            · rename_i q; exact ⟨.inl q, e⟩
            · rename_i q; exact ⟨.inr q, e⟩
            · cases e
          refine ⟨eok, R₈.base, R₈.old, R₈.blo, R₈.view, fun y v' e => ?_, ⟨_, hns₈, fun y v' hy e => ?_⟩, fun y hy => ?_, (fun y z c h1 h2 => R₈.apart y z c (mem_of_lookup (hcl1 (y, c) h1)) (mem_of_lookup (hcl1 (z, c) h2))), fun y c hm => ?_, offL'.hi, offL'.lo, R₈.sysm, R₈.code⟩
          · by_cases hy : y = x
            · subst hy; exact .inl (lookup_relab_local _ hx)
            · exact .inr (in_put y v' e hy).1
          · by_cases hyx : y = x
            · subst hyx; unfold put at e; rw [if_pos rfl] at e; cases e; exact ⟨u, by simp, ha⟩
            · have hy' : (relab C.nms scope.names).lookup y = some .local := hy
              rcases (in_put y v' e hyx).1 with q | q <;> rw [q] at hy' <;> cases hy'
          · have hf := lookup_relab_free hnc hy
            obtain ⟨c, hc⟩ := Option.isSome_iff_exists.mp (hcl2 y hf)
            obtain ⟨c', u', a1, a2, a3⟩ := R₈.cel y (hfree y hf)
            have hcc : C.env.cells.lookup y = some c := hcl1 (y, c) (mem_of_lookup hc)
            rw [hcc] at a1; cases a1
            refine ⟨c, u', hc, a2, fun v' e => ?_⟩
            have hyx : y ≠ x := by
              rintro rfl
              have hy' : (relab C.nms scope.names).lookup y = some .cell ∨ (relab C.nms scope.names).lookup y = some .free := hy
              rw [lookup_relab_local _ hx] at hy'; rcases hy' with q | q <;> cases q
            exact a3 v' (in_put y v' e hyx).2
          · have hcc : C.env.cells.lookup y = some c := hcl1 (y, c) hm
            obtain ⟨h1, h2, h3, h4⟩ := R₈.cloc y c (mem_of_lookup hcc)
            refine ⟨?_, h2, h3, h4⟩
            rintro rfl
            exact offL'.cel y (mem_of_lookup hcc)
        have fi := turn i src.vals[i] ys H' (by simp [hlt]) inv ok' (compEnvC scope cl H2.objs.size C.env)
        have back : ∀ {H₉ : HV} {s₉ : Shared}, Kp { s₆ with heap := h₈, toks := t + 1 } s₉ → Gr H' H₉ h₈ → Rel { C with env := compEnvC scope cl H2.objs.size C.env, nms := relab C.nms scope.names } (put (inner ρ (relab C.nms scope.names)) x src.vals[i]) H₉ s₉.heap →
            Rel C ρ H₉ s₉.heap ∧ Kp s s₉ ∧ Gr H H₉ s.heap ∧ ItIs s₉.heap I (i + 1) src ∧ s₉.heap.PlainList s₂.heap.objs.size us.toArray ∧ (∃ m, s₉.heap.Ns H2.objs.size m) ∧ Off C H₉ I ∧ Off C H₉ s₂.heap.objs.size ∧ Off C H₉ H2.objs.size := by
          intro H₉ s₉ K₉ G₉ R₉
          refine ⟨R₈.stepT K₉.get K₉.there R₉.old K₉.tab R₉.view G₉, K₈.trans K₉, G'.trans K₈.there G₉, hit₈.at fun o e tb => K₉.get _ _ e tb, hP₈.at fun o e => ?_, ⟨_, ns_at hns₈ fun o e tb => K₉.get _ _ e tb⟩, ?_, ?_, ?_⟩
          · obtain ⟨n, e'⟩ := hP₈
            have : o = _ := Option.some.inj (e.symm.trans e')
            subst this; exact K₉.get _ _ e rfl
          · obtain ⟨o, e, _⟩ := hit₈.there; exact offI'.gr e G₉
          · obtain ⟨n, e'⟩ := hP₈; exact offD'.gr e' G₉
          · obtain ⟨o, _, _, e, _⟩ := hns₈; exact offL'.gr e G₉
        refine (show Ifs _ _ _ _ _ from fi).use (s := { s₆ with heap := h₈, toks := t + 1 }) hA Rc fun u₁ v₁ s₉ H₉ a₉ K₉ R₉ G₉ q => ?_
        cases (show u₁ = v₁ from a₉)
        obtain ⟨B1, B2, B3, B4, B5, ⟨m₅, B6⟩, B7, B8, B9⟩ := back K₉ G₉ R₉
        cases u₁ with
        | false =>
          obtain ⟨q1, q2⟩ := (show Inv (i + 1) ys H₉ ∧ src.Ok H₉ from q)
          exact ⟨_, by omega, i + 1, ys, us, H₉, m₅, hlt, rfl, q1, q2, B4, Nat.le_succ_of_le hlen, hus, B5, B6, B2, B1, B3, B7, B8, B9⟩
        | true =>
          refine (show Ev _ _ _ _ _ from q).use hA R₉ fun y v₂ s₁₀ H₁₀ a₁₀ K₁₀ R₁₀ G₁₀ q => ?_
          obtain ⟨D1, D2, D3, D4, D5, ⟨m₆, D6⟩, D7, D8, D9⟩ := back (K₉.trans K₁₀) (G₉.trans K₉.there G₁₀) R₁₀
          have hz := valsOk D1 q.2
          refine wpAny_list_append_plain D5 (fun h₁₁ hP₁₁ hs₁₁ => ?_) (by rw [List.size_toArray, hus.length]; exact Nat.le_trans (by omega : ys.length ≤ 1048576) (by decide))
          have hx₁₁ : ∀ b o, b ≠ s₂.heap.objs.size → s₁₀.heap.get? b = some o → h₁₁.get? b = some o := fun b o hb e => (hs₁₁.2 b hb).trans e
          have ne : ∀ b o, s.heap.get? b = some o → b ≠ s₂.heap.objs.size := fun b o e q => by rw [q, sD] at e; cases e
          refine ⟨_, by omega, i + 1, ys ++ [v₂], us ++ [y], H₁₀, m₆, hlt, rfl, q.1, q.2, D4.at fun o e _ => hx₁₁ _ _ (Ne.symm hDI) e, by simp; omega, hus.append (.one a₁₀), by simpa using hP₁₁, D6.at' fun o e => hx₁₁ _ _ (Ne.symm hDL) e,
            ⟨fun b o e tb => hx₁₁ _ _ (ne b o e) (D2.get b o e tb), fun b o e => let ⟨o', e'⟩ := D2.there b o e; ⟨o', hx₁₁ _ _ (ne b o e) e'⟩, D2.os, D2.gens, D2.tab.since fun b o o₀ e₀ e => hx₁₁ _ _ (ne b o₀ e₀) e⟩, D1.other D8 hx₁₁, D3, D7, D8, D9⟩
      · have e : i = src.vals.length := by omega
        subst e
        refine next_end hA.hd R' ok' hit' fun h₇ hx₇ => ?_
        have hDI : s₂.heap.objs.size ≠ I := Nat.ne_of_gt hI
        have hIL : H2.objs.size ≠ I := Nat.ne_of_gt (by rw [hL]; exact Nat.lt_succ_of_lt hI)
        have ne : ∀ b o, s.heap.get? b = some o → b ≠ I := fun b o e q => by rw [q, hnew] at e; cases e
        have hz := valsOk R' ok'
        exact fin ys H' inv { s₆ with heap := h₇ } _ _ us ⟨fun b o e tb => hx₇ _ _ (ne b o e) (K'.get b o e tb), fun b o e => let ⟨o', e'⟩ := K'.there b o e; ⟨o', hx₇ _ _ (ne b o e) e'⟩, K'.os, K'.gens, K'.tab.since fun b o o₀ e₀ e => hx₇ _ _ (ne b o₀ e₀) e⟩ (R'.other offI' hx₇) G' sD sL hDL offD' offL'
          (hP'.at fun o e => hx₇ _ _ hDI e) hus (Nat.le_trans hlen hz) ⟨m, hns'.at' fun o e => hx₇ _ _ hIL e⟩
    · intro r s' d
      cases r with
      | ok f =>
        have d' : compPost (model C.prog C.w) A nay use P (.ref s₂.heap.objs.size) H2.objs.size (.ok .next) s' := d
        cases use <;> exact d'
      | error e => exact d.elim
  exact codeAny_compStart_list (main _ rfl) (iter_self (src := src) (i := 0) (hit.at fun o e _ => old _ _ e) (main _ rfl))
noncomputable def scopeFits (outer names : List (Str × NameKind)) (x : Str) : Bool :=
  names.lookup x == some .local && (names.all fun p => p.2 != .cell) && (names.all fun p => p.2 != .local || names.lookup p.1 == some .local) && names.all fun p => p.2 != .free || outer.lookup p.1 == some .cell || outer.lookup p.1 == some .free
theorem scopeFits_parts {outer names : List (Str × NameKind)} {x : Str} (h : scopeFits outer names x = true) : names.lookup x = some .local ∧ (∀ p ∈ names, p.2 ≠ .cell) ∧ (∀ p ∈ names, p.2 = .local → names.lookup p.1 = some .local) ∧
    ∀ n, (n, NameKind.free) ∈ names → outer.lookup n = some .cell ∨ outer.lookup n = some .free := by
  unfold scopeFits at h
  simp only [Bool.and_eq_true, beq_iff_eq, List.all_eq_true, bne_iff_ne, ne_eq, Bool.or_eq_true] at h
  obtain ⟨⟨⟨h1, h2⟩, h3⟩, h4⟩ := h
  refine ⟨h1, h2, fun p hp e => (h3 p hp).resolve_left (fun q => q e), fun n hn => ?_⟩
  rcases h4 _ hn with (q | q) | q
  · exact absurd rfl q
  · exact .inl q
  · exact .inr q
theorem ev_ListComp {elt iter : Expr} {x : Str} {px pos : Pos} {ifs : List Expr} {scope : Scope} {Q : V → HV → Prop}
    (h : Its C iter ρ H fun src H₁ => ∃ Inv, CompOK C elt x ifs scope.names src ρ H₁ Inv ∧ ∀ ys H', Inv src.vals.length ys H' → ∀ a, C.lo ≤ a → H' a = Option.none → Q (.loc a) (upd H' a (.list ys)))
    (hf : scopeFits C.nms scope.names x = true := by rfl) (hkind : scope.kind = .function := by rfl) (hs : ∀ env v, foldedSetIterable iter env v = pure v := by intros; rfl) :
    Ev C (.ListComp elt [⟨.Name x px, iter, ifs, 0⟩] scope pos) ρ H Q := by
  intro A s hA R
  obtain ⟨f1, f2, f3, f4⟩ := scopeFits_parts hf
  show wpAny _ _ (comprehension (.ListComp elt [⟨.Name x px, iter, ifs, 0⟩] scope pos) scope C.env _ (newList []) false (eval iter C.env)) _ _ _
  refine comp_core f1 hkind f2 f3 f4 hA R hs (fun A s' hA' R' => wpAny_mono (h A s' hA' R') (fun _ _ x => wpAny_mono x (fun _ _ x => ?_) fun _ _ e => e) fun _ _ e => e)
  obtain ⟨I, src, H₁, a1, a2, a3, a4, a5, a6, a7, a8, Inv, ok, fin⟩ := x
  refine ⟨I, src, H₁, a1, a2, a3, a4, a5, a6, a7, a8, Inv, ok, ?_⟩
  intro ys H' inv s₁ D L us K R₁ G sD sL hDL offD offL hP hus hz ⟨m, hns⟩
  refine ⟨m, hns, fun h' hs' => ?_⟩
  have hx : ∀ b o, b ≠ L → s₁.heap.get? b = some o → h'.get? b = some o := fun b o hb e => (hs'.2 b hb).trans e
  have ob : ObjIs C.prog C.w h' D (.list ys) := ⟨us, hP.at fun o e => hx _ _ hDL e, hus, hz⟩
  have ne : ∀ b o, s.heap.get? b = some o → b ≠ L ∧ b ≠ D := fun b o e => ⟨(fun q => by rw [q, sL] at e; cases e), (fun q => by rw [q, sD] at e; cases e)⟩
  refine ⟨.loc D, upd H' D (.list ys), rfl, ⟨fun b o e tb => hx _ _ (ne b o e).1 (K.get b o e tb), fun b o e => let ⟨o', e'⟩ := K.there b o e; ⟨o', hx _ _ (ne b o e).1 e'⟩, K.os, K.gens, K.tab.since fun b o o₀ e₀ e => hx _ _ (ne b o₀ e₀).1 e⟩, ?_, ?_, fin ys H' inv D offD.lo offD.hi⟩
  · exact (R₁.other offL hx).see offD ob
  · intro b o e n
    unfold upd; rw [if_neg (ne b o e).2]; exact G b o e n
theorem ex_AssignComp {elt iter : Expr} {x y : Str} {px py pos spos : Pos} {ifs : List Expr} {scope : Scope} {Q : Fl → EV → HV → Prop}
    (h : Its C iter ρ H fun src H₁ => ∃ Inv, CompOK C elt x ifs scope.names src ρ H₁ Inv ∧ ∀ ys H', Inv src.vals.length ys H' → ∀ a, C.lo ≤ a → H' a = Option.none → Q .next (put ρ y (.loc a)) (upd H' a (.list ys)))
    (hy : C.nms.lookup y = some .local) (hsw : (decide (py.line = pos.line) && !(scope.names.any fun p => decide (p.1 = y) && (p.2 == .local || p.2 == .cell))) = true := by rfl)
    (hf : scopeFits C.nms scope.names x = true := by rfl) (hkind : scope.kind = .function := by rfl) (hs : ∀ env v, foldedSetIterable iter env v = pure v := by intros; rfl) :
    Ex C (.Assign [.Name y py] (.ListComp elt [⟨.Name x px, iter, ifs, 0⟩] scope pos) spos) ρ H Q := by
  intro A s hA R
  obtain ⟨f1, f2, f3, f4⟩ := scopeFits_parts hf
  have hswap : swapsWith (.ListComp elt [⟨.Name x px, iter, ifs, 0⟩] scope pos) (some (.Name y py)) spos.line C.env = pure true := by
    show pure (C.env.blockKind == .function && C.env.kindOf y == some .local && py.line == pos.line && !(scope.names.any fun (n, k) => n == y && (k == .local || k == .cell))) = (pure true : Sem Bool)
    have e1 : (C.env.blockKind == ScopeKind.function) = true := by unfold Env.blockKind; rw [R.eok.kind]; rfl
    have e2 : (C.env.kindOf y == some NameKind.local) = true := by rw [R.kindOf, hy]; rfl
    rw [e1, e2]
    obtain ⟨h1, h2⟩ := Bool.and_eq_true_iff.mp hsw
    have h1' : (py.line == pos.line) = true := by simpa using h1
    have h2' : (!(scope.names.any fun (n, k) => n == y && (k == NameKind.local || k == NameKind.cell))) = true := by
      rw [← h2]
      congr 1
    rw [h1', h2']; rfl
  rw [exec_Assign_Name_used _ _ _ _ hswap]
  refine wpAny_bind (wpAny_standAt (wpAny_bind ?_))
  show wpAny _ A (do let _ ← comprehension (.ListComp elt [⟨.Name x px, iter, ifs, 0⟩] scope pos) scope C.env _ (newList []) false (eval iter C.env) (some (assign (.Name y py) C.env))) _ _ s
  refine wpAny_bind (wpAny_mono (comp_core (P := fun _ s' => SDone C H s Q .next s') f1 hkind f2 f3 f4 hA R hs (fun A' s' hA' R' => wpAny_mono (h A' s' hA' R') (fun _ _ x => wpAny_mono x (fun _ _ x => ?_) fun _ _ e => e) fun _ _ e => e))
    (fun _ s' hq => wpAny_pure (wpAny_pure hq)) fun _ _ e => e)
  obtain ⟨I, src, H₁, a1, a2, a3, a4, a5, a6, a7, a8, Inv, ok, fin⟩ := x
  refine ⟨I, src, H₁, a1, a2, a3, a4, a5, a6, a7, a8, Inv, ok, ?_⟩
  intro ys H' inv s₁ D L us K R₁ G sD sL hDL offD offL hP hus hz ⟨m, hns⟩
  show wpAny _ A (assign (.Name y py) C.env (.ref D)) _ _ _
  have ob₁ : ObjIs C.prog C.w s₁.heap D (.list ys) := ⟨us, hP, hus, hz⟩
  have R₂ : Rel C ρ (upd H' D (.list ys)) s₁.heap := R₁.see offD ob₁
  have G₂ : Gr H (upd H' D (.list ys)) s.heap := fun b o e n => by
    have hb : b ≠ D := fun q => by rw [q, sD] at e; cases e
    unfold upd; rw [if_neg hb]; exact G b o e n
  refine wpAny_assign_Name (store_name (.inl hy) R₂ (v := .loc D) rfl fun s₂ K₂ R₃ => ?_)
  have hLD : upd H' D (.list ys) L = Option.none := by unfold upd; rw [if_neg (Ne.symm hDL)]; exact offL.hi
  refine ⟨m, ns_at hns fun o e tb => K₂.get _ _ e tb (.inr ⟨hLD, offL.loc, offL.cel⟩), fun h' hs' => ?_⟩
  have hx : ∀ b o, b ≠ L → s₂.heap.get? b = some o → h'.get? b = some o := fun b o hb e => (hs'.2 b hb).trans e
  have offL₂ : Off C (upd H' D (.list ys)) L := ⟨hLD, offL.lo, offL.loc, offL.cel, offL.sys⟩
  have KK : SKp C H (upd H' D (.list ys)) s s₂ := (SKp.of_kp K G₂).trans K₂
  exact ⟨.next, _, _, trivial, KK.skip (t := s₂.toks) sL hx, R₃.other offL₂ hx, fin ys H' inv D offD.lo offD.hi⟩
end
end Mine
end
section
set_option maxRecDepth 100000
set_option Elab.async false
set_option linter.unusedVariables false
namespace Mine
open PySem PySem.Spec PyProof.Rows
theorem isV_typ {u : Value} {n : String} (h : isV u (.typ n)) : u = .type n := by
  unfold isV at h
  cases u <;> simp only [absV] at h <;> (try split at h) <;> cases h; rfl
section
variable {C : Cx} {ρ : EV} {H H' : HV} {A : Around} {s : Shared} {Q : V → HV → Prop}
theorem bok_mod {i j : Int} (hj : j ≠ 0) (q : Q (.int (i.fmod j)) H) : BOK C .Mod (.int i) (.int j) ρ H Q := by
  intro u u' a b A s hA R
  obtain ⟨t, rfl⟩ := isV_int a; obtain ⟨t', rfl⟩ := isV_int b
  exact PyProof.Rows.mod_int hj (Done.v R rfl q _)
theorem strOk_append {x y : Str} (hx : PyData.strOk x = true) (hy : PyData.strOk y = true) : PyData.strOk (x ++ y) = true := by
  unfold PyData.strOk at *
  rw [Str.cps_append, Array.all_append, hx, hy]; rfl
theorem bok_add_list {a b : Addr} {vs ws : List V} (ha : H a = some (.list vs)) (hb : H b = some (.list ws)) (hz : vs.length + ws.length ≤ 1048576)
    (q : ∀ c, C.lo ≤ c → H c = Option.none → Q (.loc c) (upd H c (.list (vs ++ ws)))) : BOK C .Add (.loc a) (.loc b) ρ H Q := by
  intro u u' x y A s hA R
  cases isV_loc x; cases isV_loc y
  obtain ⟨its, ⟨n, e⟩, hx, _⟩ := R.view a _ ha
  obtain ⟨its', ⟨n', e'⟩, hx', _⟩ := R.view b _ hb
  have ea : its.toArray ++ its'.toArray = (its ++ its').toArray := by simp
  refine concat_meets ⟨_, e, rfl⟩ ⟨_, e', rfl⟩ noFill_list_add seq_list_add PySem.F.slot_list_add PySem.F.entry_list_add (PySem.F.args_list_add_2 _ _)
    (list_addW a b its.toArray its'.toArray n n' Option.none Option.none #[] #[] (by rw [List.size_toArray, List.size_toArray, hx.length, hx'.length]; exact Nat.le_trans hz (by decide))) ⟨e, e', ?_⟩
  rw [ea]
  exact Done.new R (fun _ _ e => Heap.get?_push_of_some _ e) (Nat.le_refl _) (obj_list (Heap.get?_push_size _ rfl) (hx.append hx') (by rw [List.length_append]; exact hz)) q s.toks
theorem cok_eq_str {x y : Str} (q : Q (.bool (x == y)) H) : COK C .Eq (.str x) (.str y) ρ H Q := by
  intro u u' a b A s hA R
  obtain ⟨t, rfl, _⟩ := isV_str a; obtain ⟨t', rfl, _⟩ := isV_str b
  exact PyProof.Rows.eq_str (Done.v R rfl q s.toks)
theorem cok_ne_str {x y : Str} (q : Q (.bool (x != y)) H) : COK C .NotEq (.str x) (.str y) ρ H Q := by
  intro u u' a b A s hA R
  obtain ⟨t, rfl, _⟩ := isV_str a; obtain ⟨t', rfl, _⟩ := isV_str b
  exact PyProof.Rows.ne_str (Done.v R rfl q s.toks)
theorem cok_in_str {x y : Str} (q : Q (.bool (!(Builtin.Str.occurrences x y 0 x.length 1).isEmpty)) H) : COK C .In (.str y) (.str x) ρ H Q := by
  intro u u' a b A s hA R
  obtain ⟨t, rfl, _⟩ := isV_str a; obtain ⟨t', rfl, _⟩ := isV_str b
  exact PyProof.Rows.in_str (Done.v R rfl q s.toks)
/-- is, is not: bools, None, types -/
noncomputable def isNone : V → Bool
  | .none => true
  | _ => false
noncomputable def notBool (b : Bool) : V → Bool
  | .bool x => x != b
  | _ => true
theorem cok_is_none {v : V} (q : Q (.bool (isNone v)) H) : COK C .Is v .none ρ H Q := by
  intro u u' a b A s hA R
  cases isV_none b
  have hp : plainIs u .none = true := by
    cases u <;> first | rfl | (unfold isV absV at a; cases a)
  refine wpAny_is_plain hp (Done.v R (v := .bool (isNone v)) ?_ q s.toks)
  cases v with
  | none => cases isV_none a; rfl
  | bool x => cases isV_bool a; rfl
  | int i => obtain ⟨t, rfl⟩ := isV_int a; rfl
  | str x => obtain ⟨t, rfl, _⟩ := isV_str a; rfl
  | loc l => cases isV_loc a; rfl
  | typ n => cases isV_typ a; rfl
theorem cok_isnot_bool {v : V} {b : Bool} (q : Q (.bool (notBool b v)) H) : COK C .IsNot v (.bool b) ρ H Q := by
  intro u u' a bb A s hA R
  cases isV_bool bb
  have hp : plainIs u (.bool b) = true := by
    cases u <;> first | rfl | (unfold isV absV at a; cases a)
  refine wpAny_isNot_plain hp (Done.v R (v := .bool (notBool b v)) ?_ q s.toks)
  cases v with
  | none => cases isV_none a; rfl
  | bool x => cases isV_bool a; cases x <;> cases b <;> rfl
  | int i => obtain ⟨t, rfl⟩ := isV_int a; rfl
  | str x => obtain ⟨t, rfl, _⟩ := isV_str a; rfl
  | loc l => cases isV_loc a; rfl
  | typ n => cases isV_typ a; rfl
theorem tr_list {a : Addr} {vs : List V} {Q : Bool → HV → Prop} (e : H a = some (.list vs)) (q : Q (!vs.isEmpty) H) : TrOK C (.loc a) ρ H Q := by
  intro u x A s hA R
  cases isV_loc x
  obtain ⟨its, hl, hx, hz⟩ := R.view a _ e
  have hlen := hx.length
  refine wpAny_truthy_list hl.isList (by rw [List.size_toArray]; omega) ⟨_, H, ?_, kp_tok _ _, R, Gr.refl _ _, q⟩
  cases its <;> cases vs <;> simp_all
/-- and | or as values -/
abbrev Bl (C : Cx) (pos : Pos) (op : BoolOp) (es : List Expr) (ρ : EV) (H : HV) (Q : V → HV → Prop) : Prop := TG C isV (boolOp pos op (evalEach es C.env)) ρ H Q
theorem ev_BoolOp {op : BoolOp} {es : List Expr} {pos : Pos} (h : Bl C pos op es ρ H Q) : Ev C (.BoolOp op es pos) ρ H Q := h
theorem bl_one {op : BoolOp} {e : Expr} {pos : Pos} (h : Ev C e ρ H Q) : Bl C pos op [e] ρ H Q := h
theorem bl_and {e e' : Expr} {es : List Expr} {pos : Pos} (h : Ev C e ρ H fun v H₁ => TrOK C v ρ H₁ fun b H₂ => if b = true then Bl C pos .And (e' :: es) ρ H₂ Q else Q v H₂) : Bl C pos .And (e :: e' :: es) ρ H Q := by
  intro A s hA R
  show wpAny _ _ (do
    let v ← eval e C.env
    standAt pos
    let t ← holding [v] (truthy v)
    match BoolOp.And, t with
    | .And, false | .Or, true => pure v
    | _, _ => boolOp pos .And (evalEach (e' :: es) C.env)) _ _ s
  refine wpAny_bind (h.use hA R fun u v s₁ H₁ a K R₁ G q => wpAny_bind (wpAny_standAt (wpAny_bind (wpAny_holding ((q u a).use hA R₁ fun b b' s₂ H₂ a' K' R₂ G' q' => ?_)))))
  cases (show b = b' from a')
  cases b with
  | false => exact wpAny_pure (Done.trans K G (Done.trans K' G' ⟨v, H₂, a, kp_refl _, R₂, Gr.refl _ _, q'⟩))
  | true => exact wpAny_mono (q' A s₂ hA R₂) (fun _ _ d => (d.trans K' G').trans K G) fun _ _ e => e
theorem bl_or {e e' : Expr} {es : List Expr} {pos : Pos} (h : Ev C e ρ H fun v H₁ => TrOK C v ρ H₁ fun b H₂ => if b = true then Q v H₂ else Bl C pos .Or (e' :: es) ρ H₂ Q) : Bl C pos .Or (e :: e' :: es) ρ H Q := by
  intro A s hA R
  show wpAny _ _ (do
    let v ← eval e C.env
    standAt pos
    let t ← holding [v] (truthy v)
    match BoolOp.Or, t with
    | .And, false | .Or, true => pure v
    | _, _ => boolOp pos .Or (evalEach (e' :: es) C.env)) _ _ s
  refine wpAny_bind (h.use hA R fun u v s₁ H₁ a K R₁ G q => wpAny_bind (wpAny_standAt (wpAny_bind (wpAny_holding ((q u a).use hA R₁ fun b b' s₂ H₂ a' K' R₂ G' q' => ?_)))))
  cases (show b = b' from a')
  cases b with
  | true => exact wpAny_pure (Done.trans K G (Done.trans K' G' ⟨v, H₂, a, kp_refl _, R₂, Gr.refl _ _, q'⟩))
  | false => exact wpAny_mono (q' A s₂ hA R₂) (fun _ _ d => (d.trans K' G').trans K G) fun _ _ e => e
theorem vc_len_list {a : Addr} {vs : List V} (e : H a = some (.list vs)) (q : Q (.int vs.length) H) : VCall C (.builtin "len") [.loc a] ρ H Q := by
  intro us hus A s hA R
  cases hus with
  | cons x r =>
    cases r
    cases isV_loc x
    obtain ⟨its, hl, hx, hz⟩ := R.view a _ e
    have hlen := hx.length
    refine PyProof.Rows.len_list hl.isList (by rw [List.size_toArray]; omega) (Done.v R ?_ q _)
    show some (V.int ((its.toArray.size : Nat) : Int)) = _
    rw [List.size_toArray, hlen]
end
end Mine
end
section
set_option maxRecDepth 100000
set_option Elab.async false
set_option linter.unusedVariables false
namespace Mine
open PySem PySem.Spec PyProof.Rows
open PySem.W (Frag Frag.In nsIn mg_of mg_none_of GoodWG ClaimW WData ReadsW Well WellAll ofPy)
/-- what the walk knows of the module -/
structure Gd (K : Params → Frag) (C : Cx) : Prop where
  X : (K C.w.params).In C.B
  g : ∃ mg, C.B.Ns mainGlobals mg
  b : ∃ mb, C.B.Ns builtinsNs mb ∧ ∀ x : Str, x ≠ "__name__" → mb x = bootBuiltins x
  lim : C.B.NoLimit
section
variable {K : Params → Frag} {C : Cx}
theorem Gd.cast {C' : Cx} (G : Gd K C) (h1 : C.w = C'.w) (h2 : C.B = C'.B) : Gd K C' := ⟨h1 ▸ h2 ▸ G.X, h2 ▸ G.g, h2 ▸ G.b, h2 ▸ G.lim⟩
theorem Gd.glob (G : Gd K C) {x : Str} {v : Value} (e : nsIn (K C.w.params) mainGlobals x = some (some v)) : GlobIs C x v := let ⟨mg, h⟩ := G.g; ⟨mg, h, .inl (mg_of G.X h e)⟩
theorem Gd.blt (G : Gd K C) {x : Str} {v : Value} (e : nsIn (K C.w.params) mainGlobals x = some none) (hv : bootBuiltins x = some v) (hn : x ≠ "__name__") : GlobIs C x v :=
  let ⟨mg, h⟩ := G.g; let ⟨mb, hb, q⟩ := G.b; ⟨mg, h, .inr ⟨mg_none_of G.X h e, mb, hb, (q x hn).trans hv⟩⟩
end
noncomputable def fdAt (K : Frag) (a : Addr) : FuncData := match K.lookup a with
  | some ⟨_, _, .func fd, _⟩ => fd
  | _ => Calls.docDef "" ⟨[], [], none, [], [], none, []⟩ [] default .none .none .none
noncomputable def bodyAt (K : Frag) (a : Addr) : List Stmt := match (fdAt K a).body with
  | .stmts b => b
  | _ => []
noncomputable def namesAt (K : Frag) (a : Addr) : List (Str × NameKind) := (fdAt K a).scope.names
theorem fn_of {K : Params → Frag} {C : Cx} (G : Gd K C) {fa c : Addr} {params : List Str} {o oc : Obj} {vs : Array Value} {t : Tok} {n : String}
    (ho : (K C.w.params).lookup fa = some o) (hd : o.data = .func (fdAt (K C.w.params) fa)) (hb : (fdAt (K C.w.params) fa).body = .stmts (bodyAt (K C.w.params) fa)) (hc : (fdAt (K C.w.params) fa).code = .ref c) (hoc : (K C.w.params).lookup c = some oc)
    (hn : oc.cls = .type n) (hdc : oc.data = .fields vs) (hv : vs[1]? = some (.str (fdAt (K C.w.params) fa).qualname t)) (h1 : (fdAt (K C.w.params) fa).closure = []) (h2 : (fdAt (K C.w.params) fa).scope.kind = .function) (h3 : (fdAt (K C.w.params) fa).scope.isCoroutine = false) (h4 : (fdAt (K C.w.params) fa).scope.isGenerator = false)
    (h5 : (fdAt (K C.w.params) fa).globals = mainGlobals) (h6 : (fdAt (K C.w.params) fa).builtins = builtinsNs) (hbi : ∀ vals : List Value, vals.length = params.length → bindArgs (fdAt (K C.w.params) fa) ⟨vals, []⟩ = pure (params.zip vals))
    (hpk : params.all (fun x => (namesAt (K C.w.params) fa).lookup x == some .local || (namesAt (K C.w.params) fa).lookup x == some .cell) = true) (hnf : (namesAt (K C.w.params) fa).all (fun x => x.2 != .free) = true)
    (hnd : ((cellsFrom 0 (namesAt (K C.w.params) fa) []).map (·.1)).Nodup) : Fn C fa params (bodyAt (K C.w.params) fa) (namesAt (K C.w.params) fa) (fdAt (K C.w.params) fa) := by
  refine ⟨⟨o, G.X _ _ ho, hd⟩, ⟨c, oc, vs, t, n, hc, G.X _ _ hoc, hn, hdc, hv⟩, hb, rfl, h1, h2, h3, h4, h5, h6, hbi, fun x hx => ?_, fun x hx => ?_, hnd⟩
  · have := List.all_eq_true.mp hpk x hx
    simpa using this
  · have hm := mem_of_lookup hx
    have := List.all_eq_true.mp hnf _ hm
    simp at this
theorem law_arg {P : Params} {h : Heap} {v : Value} {ns : List Int} (W : Well P h v (ofPy (.list (ns.map .int)))) : ∃ a vs, v = .ref a ∧ h.PlainList a vs.toArray ∧ ValsAre vs (ns.map V.int) := by
  have e : ofPy (.list (ns.map .int)) = .list (ns.map WData.int) := by
    have : ∀ ns : List Int, PySem.W.ofPys (ns.map PyData.int) = ns.map WData.int := fun ns => by
      induction ns with
      | nil => rfl
      | cons n ns ih => simp only [List.map_cons, PySem.W.ofPys, ih, ofPy]
    simp only [ofPy, this]
  rw [e] at W
  cases W with
  | list ho hw =>
    rename_i a vs
    refine ⟨a, vs, rfl, ⟨_, ho⟩, ?_⟩
    clear ho e
    revert vs
    induction ns with
    | nil => intro vs hw; cases hw; exact .nil
    | cons n ns ih =>
      intro vs hw
      simp only [List.map_cons] at hw
      cases hw with
      | cons w1 w2 => cases w1; exact .cons rfl (ih w2)
end Mine
end
section
set_option maxRecDepth 100000
set_option Elab.async false
set_option linter.unusedVariables false
namespace Mine
open PySem PySem.Spec PyProof.Rows PySem.SeqAt
mutual
/-- plain data behind an abstract value -/
inductive Den (H : HV) : Nat → V → PyData → Prop
  | none {n : Nat} : Den H n .none .none
  | int {n : Nat} {i : Int} : Den H n (.int i) (.int i)
  | str {n : Nat} {x : Str} : Den H n (.str x) (.str x)
  | list {n : Nat} {a : Addr} {vs : List V} {ds : List PyData} : H a = some (.list vs) → DenAll H n vs ds → Den H (n + 1) (.loc a) (.list ds)
  | tuple {n : Nat} {a : Addr} {vs : List V} {ds : List PyData} : H a = some (.tuple vs) → DenAll H n vs ds → Den H (n + 1) (.loc a) (.tuple ds)
inductive DenAll (H : HV) : Nat → List V → List PyData → Prop
  | nil {n : Nat} : DenAll H n [] []
  | cons {n : Nat} {v : V} {vs : List V} {d : PyData} {ds : List PyData} : Den H n v d → DenAll H n vs ds → DenAll H n (v :: vs) (d :: ds)
end
theorem DenAll.map {α : Type} {H : HV} {n : Nat} {f : α → V} {g : α → PyData} : ∀ (xs : List α), (∀ x ∈ xs, Den H n (f x) (g x)) → DenAll H n (xs.map f) (xs.map g)
  | [], _ => .nil
  | x :: xs, h => .cons (h x (List.mem_cons_self ..)) (DenAll.map xs fun y hy => h y (List.mem_cons_of_mem _ hy))
abbrev strsV (ss : List Str) : List V := ss.map V.str
abbrev intsV (ns : List Int) : List V := ns.map V.int
theorem den_strs {H : HV} (n : Nat) (ss : List Str) : DenAll H n (strsV ss) (ss.map PyData.str) := DenAll.map ss fun _ _ => .str
mutual
theorem Den.depth {H : HV} : ∀ {n : Nat} {v : V} {d : PyData}, Den H n v d → d.depth ≤ n
  | _, _, _, .none => Nat.zero_le _
  | _, _, _, .int => Nat.zero_le _
  | _, _, _, .str => Nat.zero_le _
  | _, _, _, .list _ h => Nat.succ_le_succ h.depth
  | _, _, _, .tuple _ h => Nat.succ_le_succ h.depth
theorem DenAll.depth {H : HV} : ∀ {n : Nat} {vs : List V} {ds : List PyData}, DenAll H n vs ds → PyData.depthAll ds ≤ n
  | _, _, _, .nil => Nat.zero_le _
  | _, _, _, .cons a b => Nat.max_le.mpr ⟨a.depth, b.depth⟩
end
mutual
theorem Den.noMix {H H' : HV} : ∀ {n m : Nat} {v v' : V} {d d' : PyData}, Den H n v d → Den H' m v' d' → SeqAt.noMix d d' = true
  | _, _, _, _, _, _, .list _ h, .list _ h' => by rw [SeqAt.noMix]; exact h.noMix h'
  | _, _, _, _, _, _, .tuple _ h, .tuple _ h' => by rw [SeqAt.noMix]; exact h.noMix h'
  | _, _, _, _, _, _, .none, .none => rfl
  | _, _, _, _, _, _, .none, .int => rfl
  | _, _, _, _, _, _, .none, .str => rfl
  | _, _, _, _, _, _, .none, .list .. => rfl
  | _, _, _, _, _, _, .none, .tuple .. => rfl
  | _, _, _, _, _, _, .int, .none => rfl
  | _, _, _, _, _, _, .int, .int => rfl
  | _, _, _, _, _, _, .int, .str => rfl
  | _, _, _, _, _, _, .int, .list .. => rfl
  | _, _, _, _, _, _, .int, .tuple .. => rfl
  | _, _, _, _, _, _, .str, .none => rfl
  | _, _, _, _, _, _, .str, .int => rfl
  | _, _, _, _, _, _, .str, .str => rfl
  | _, _, _, _, _, _, .str, .list .. => rfl
  | _, _, _, _, _, _, .str, .tuple .. => rfl
  | _, _, _, _, _, _, .list .., .none => rfl
  | _, _, _, _, _, _, .list .., .int => rfl
  | _, _, _, _, _, _, .list .., .str => rfl
  | _, _, _, _, _, _, .list .., .tuple .. => rfl
  | _, _, _, _, _, _, .tuple .., .none => rfl
  | _, _, _, _, _, _, .tuple .., .int => rfl
  | _, _, _, _, _, _, .tuple .., .str => rfl
  | _, _, _, _, _, _, .tuple .., .list .. => rfl
theorem DenAll.noMix {H H' : HV} : ∀ {n m : Nat} {vs vs' : List V} {ds ds' : List PyData}, DenAll H n vs ds → DenAll H' m vs' ds' → SeqAt.noMixAll ds ds' = true
  | _, _, _, _, _, _, .nil, .nil => rfl
  | _, _, _, _, _, _, .nil, .cons .. => rfl
  | _, _, _, _, _, _, .cons .., .nil => rfl
  | _, _, _, _, _, _, .cons a b, .cons a' b' => by rw [SeqAt.noMixAll, a.noMix a', b.noMix b']; rfl
end
mutual
theorem Den.reads {C : Cx} {ρ : EV} {H : HV} {h : Heap} (R : Rel C ρ H h) : ∀ {n : Nat} {v : V} {d : PyData} {u : Value}, Den H n v d → isV u v → ∃ as, Reads h u d as ∧ d.canLay0 = true
  | _, _, _, _, .none, a => by rw [isV_none a]; exact ⟨_, .none, rfl⟩
  | _, _, _, _, .int, a => by obtain ⟨t, rfl⟩ := isV_int a; exact ⟨_, .int _ _, rfl⟩
  | _, _, _, _, .str, a => by obtain ⟨t, rfl, ok⟩ := isV_str a; exact ⟨_, .str _ _, ok⟩
  | _, _, _, _, .list e x, a => by
    obtain ⟨its, ⟨k, he⟩, hv, _⟩ := R.view _ _ e
    obtain ⟨as, r, c⟩ := DenAll.reads R x hv
    rw [isV_loc a]; exact ⟨_, .list he rfl rfl (by simpa using r), c⟩
  | _, _, _, _, .tuple e x, a => by
    obtain ⟨its, ⟨o, he, hc, k, hd⟩, hv, _⟩ := R.view _ _ e
    obtain ⟨as, r, c⟩ := DenAll.reads R x hv
    rw [isV_loc a]; exact ⟨_, .tuple he hc hd (by simpa using r), c⟩
theorem DenAll.reads {C : Cx} {ρ : EV} {H : HV} {h : Heap} (R : Rel C ρ H h) : ∀ {n : Nat} {vs : List V} {ds : List PyData} {us : List Value}, DenAll H n vs ds → ValsAre us vs → ∃ as, ReadsAll h us ds as ∧ PyData.canLayAll0 ds = true
  | _, _, _, _, .nil, .nil => ⟨_, .nil, rfl⟩
  | _, _, _, _, .cons x y, .cons a b => by
    obtain ⟨as, r, c⟩ := Den.reads R x a
    obtain ⟨bs, r', c'⟩ := DenAll.reads R y b
    exact ⟨_, .cons r r', by rw [PyData.canLayAll0, c, c']; rfl⟩
end
section
variable {C : Cx} {ρ : EV} {H H' : HV} {A : Around} {s : Shared} {Q : V → HV → Prop}
theorem Rm.unit {k : Nat} (hA : Rm A k) : A.units ≤ 9000 := Nat.le_trans (Nat.le_add_right _ _) hA.un
theorem same_dec {p : Prop} [Decidable p] {d d' : PyData} (h : d = d' ↔ p) : Spec.same d d' = decide p := by
  rw [Bool.eq_iff_iff, same_iff, h, decide_eq_true_iff]
theorem cok_eq_den {n m : Nat} {a b : V} {d d' : PyData} (x : Den H n a d) (y : Den H m b d') (q : Q (.bool (Spec.same d d')) H) (hn : n ≤ 64 := by decide) (hm : m ≤ 64 := by decide) : COK C .Eq a b ρ H Q := by
  intro u u' hu hu' A s hA R
  obtain ⟨as, r, c⟩ := x.reads R hu
  obtain ⟨bs, r', c'⟩ := y.reads R hu'
  refine eq_dataH_same r r' ?_ ?_ ?_ (x.noMix y) (Done.v R rfl q s.toks)
  · simp [SeqAt.shaped, c, Nat.le_trans x.depth hn]
  · simp [SeqAt.shaped, c', Nat.le_trans y.depth hm]
  · have := hA.unit; show _ < 9900; omega
theorem any_map {α : Type} [DecidableEq α] {g : α → PyData} (inj : ∀ x y, g x = g y → x = y) (x : α) (xs : List α) : ((xs.map g).any fun y => Spec.same y (g x)) = decide (x ∈ xs) := by
  rw [Bool.eq_iff_iff, decide_eq_true_iff, List.any_eq_true]
  constructor
  · rintro ⟨y, hy, e⟩
    obtain ⟨z, hz, rfl⟩ := List.mem_map.mp hy
    rw [← inj _ _ (same_iff.mp e)]; exact hz
  · intro h; exact ⟨g x, List.mem_map_of_mem h, same_iff.mpr rfl⟩
/-- flat lists read -/
theorem reads_flat {α : Type} {h : Heap} {f : α → V} {g : α → PyData} (hf : ∀ x u, isV u (f x) → ∃ as, Reads h u (g x) as ∧ (g x).canLay0 = true) : ∀ {xs : List α} {us : List Value}, ValsAre us (xs.map f) → ∃ as, ReadsAll h us (xs.map g) as ∧ PyData.canLayAll0 (xs.map g) = true := by
  intro xs
  induction xs with
  | nil => intro us hu; cases hu; exact ⟨_, .nil, rfl⟩
  | cons x xs ih =>
    intro us hu
    cases hu with
    | cons a r =>
      obtain ⟨as, q, c⟩ := hf x _ a
      obtain ⟨bs, q', c'⟩ := ih r
      exact ⟨_, .cons q q', by rw [List.map_cons, PyData.canLayAll0, c, c']; rfl⟩
theorem reads_str {h : Heap} (x : Str) (u : Value) (a : isV u (.str x)) : ∃ as, Reads h u (.str x) as ∧ (PyData.str x).canLay0 = true := by obtain ⟨t, rfl, ok⟩ := isV_str a; exact ⟨_, .str _ _, ok⟩
theorem reads_list {α : Type} {f : α → V} {g : α → PyData} (hf : ∀ h x u, isV u (f x) → ∃ as, Reads h u (g x) as ∧ (g x).canLay0 = true) {a : Addr} {xs : List α} (R : Rel C ρ H s.heap) (e : H a = some (.list (xs.map f))) {u : Value} (hu : isV u (.loc a)) :
    ∃ as, Reads s.heap u (.list (xs.map g)) as ∧ (PyData.list (xs.map g)).canLay0 = true := by
  obtain ⟨its, ⟨k, he⟩, hv, _⟩ := R.view _ _ e
  obtain ⟨as, r, c⟩ := reads_flat (hf s.heap) hv
  rw [isV_loc hu]; exact ⟨_, .list he rfl rfl (by simpa using r), c⟩
theorem any_flat {α : Type} [DecidableEq α] {g : α → PyData} (inj : ∀ x y, g x = g y → x = y) (mix : ∀ x y, SeqAt.noMix (g x) (g y) = true) (x : α) (xs : List α) : ((xs.map g).any fun y => PyData.eqv y (g x)) = decide (x ∈ xs) := by
  rw [← any_map inj x xs, List.any_map, List.any_map]
  congr 1
  funext y
  exact (same_eq_eqv _ _ (mix y x)).symm
theorem cok_in_strs {a : Addr} {x : Str} {ss : List Str} (e : H a = some (.list (strsV ss))) (q : Q (.bool (decide (x ∈ ss))) H) : COK C .In (.str x) (.loc a) ρ H Q := by
  intro u u' hu hu' A s hA R
  obtain ⟨as, r, c⟩ := reads_str (h := s.heap) x u hu
  obtain ⟨bs, r', c'⟩ := reads_list (g := PyData.str) (fun h => reads_str) R e hu'
  refine SeqAt.in_list_reads r' r c' c ?_ (Done.v R rfl ?_ s.toks)
  · have := hA.unit; have : (PyData.str x).depth = 0 := rfl; show _ < 9900; omega
  · rw [any_flat (fun _ _ e => PyData.str.inj e) fun _ _ => rfl]; exact q
theorem list_inj {α : Type} {g : α → PyData} (inj : ∀ x y, g x = g y → x = y) {xs ys : List α} : (PyData.list (xs.map g) = PyData.list (ys.map g)) ↔ xs = ys :=
  ⟨fun h => (List.map_inj_right inj).mp (PyData.list.inj h), fun h => h ▸ rfl⟩
theorem strs_inj {ss ss' : List Str} : (PyData.list (ss.map PyData.str) = PyData.list (ss'.map PyData.str)) ↔ ss = ss' := list_inj fun _ _ e => PyData.str.inj e
theorem noMix_strs : ∀ xs ys : List Str, SeqAt.noMixAll (xs.map PyData.str) (ys.map PyData.str) = true := by
  intro xs
  induction xs with
  | nil => intro ys; cases ys <;> rfl
  | cons x xs ih =>
    intro ys
    cases ys with
    | nil => rfl
    | cons y ys =>
      have h := ih ys
      show (SeqAt.noMix (.str x) (.str y) && SeqAt.noMixAll (xs.map PyData.str) (ys.map PyData.str)) = true
      rw [h]; rfl
theorem depth_strs : ∀ xs : List Str, PyData.depthAll (xs.map PyData.str) ≤ 0 := by
  intro xs
  induction xs with
  | nil => exact Nat.zero_le _
  | cons x xs ih => exact Nat.max_le.mpr ⟨Nat.le_refl 0, ih⟩
theorem cok_ne_strs {a b : Addr} {ss ss' : List Str} (e : H a = some (.list (strsV ss))) (e' : H b = some (.list (strsV ss'))) (q : Q (.bool (!decide (ss = ss'))) H) : COK C .NotEq (.loc a) (.loc b) ρ H Q := by
  intro u u' hu hu' A s hA R
  obtain ⟨as, r, c⟩ := reads_list (g := PyData.str) (fun h => reads_str) R e hu
  obtain ⟨bs, r', c'⟩ := reads_list (g := PyData.str) (fun h => reads_str) R e' hu'
  have d1 : (PyData.list (ss.map PyData.str)).depth ≤ 64 := Nat.le_trans (Nat.succ_le_succ (depth_strs ss)) (by decide)
  have d2 : (PyData.list (ss'.map PyData.str)).depth ≤ 64 := Nat.le_trans (Nat.succ_le_succ (depth_strs ss')) (by decide)
  refine ne_dataH_same r r' ?_ ?_ ?_ (by rw [SeqAt.noMix]; exact noMix_strs ss ss') (Done.v R rfl (by rw [same_dec strs_inj]; exact q) s.toks)
  · simp [SeqAt.shaped, c, d1]
  · simp [SeqAt.shaped, c', d2]
  · have := hA.unit; show _ < 9900; omega
theorem cok_eq_strs {a b : Addr} {ss ss' : List Str} (e : H a = some (.list (strsV ss))) (e' : H b = some (.list (strsV ss'))) (q : Q (.bool (decide (ss = ss'))) H) : COK C .Eq (.loc a) (.loc b) ρ H Q :=
  cok_eq_den (n := 1) (m := 1) (.list e (den_strs 0 ss)) (.list e' (den_strs 0 ss')) (by rw [same_dec strs_inj]; exact q)
end
end Mine
end
section
set_option maxRecDepth 100000
set_option Elab.async false
set_option linter.unusedVariables false
namespace Mine
open PySem PySem.Spec PyProof.Rows PySem.SeqAt
section
variable {C : Cx} {ρ : EV} {H H' : HV} {A : Around} {s : Shared} {Q : V → HV → Prop}
theorem slice_core {env : Env} {prog : Program} {w : World} {E : Value → Shared → Prop} {value : Expr} {lower upper : Option Expr} {p pos : Pos} {Q : Value → Shared → Prop}
    (h : wpAny (model prog w) A (eval value env) (fun o s₁ => wpAny (model prog w) A (evalPart lower env) (fun vl s₂ => wpAny (model prog w) A (evalPart upper env) (fun vu s₃ =>
      ∃ l items lo hi, o = .ref l ∧ s₃.heap.IsList l items ∧ items.size ≤ sizeLine ∧ IsPart vl lo ∧ IsPart vu hi ∧
        Q (.ref (s₃.heap.objs.size + 1)) { s₃ with heap := (s₃.heap.push { cls := .type "slice", data := .fields #[vl, vu, .none] }).push { cls := .type "list", data := .seq (slicePick items lo hi none) } }) E s₂) E s₁) E s) :
    wpAny (model prog w) A (eval (.Subscript value (.Slice lower upper none p) pos) env) Q E s := by
  refine Subscript_ (wpAny_mono h (fun o s₁ h₁ => wpAny_Slice (wpAny_mono h₁ (fun vl s₂ h₂ => wpAny_mono h₂ (fun vu s₃ h₃ => ?_) fun _ _ e => e) fun _ _ e => e)) fun _ _ e => e)
  obtain ⟨l, items, lo, hi, rfl, hl, hsz, pl, pu, hQ⟩ := h₃
  rw [evalPart_none]
  refine wpAny_pure (tail_any (hl.push _).typeIs list_getitem_lookup (wpAny_getItem_list_slice (hl.push _) (Heap.IsSliceOf.new ..) pl pu .none (by simp) ?_ hsz) rfl)
  rw [Heap.size_push]
  exact hQ
theorem slice_fin {l : Addr} {its : List Value} {vs : List V} {pick : Array Value} {vl vu : Value} (R : Rel C ρ H s.heap) {out : List V} (hp : ValsAre pick.toList out) (hz : out.length ≤ 1048576) (q : ∀ b, C.lo ≤ b → H b = Option.none → Q (.loc b) (upd H b (.list out))) :
    Done C isV ρ H s Q (.ref (s.heap.objs.size + 1)) { s with heap := (s.heap.push { cls := .type "slice", data := .fields #[vl, vu, .none] }).push { cls := .type "list", data := .seq pick } } := by
  refine Done.new (o := .list out) R (fun _ _ e => Heap.get?_push_of_some _ (Heap.get?_push_of_some _ e)) (Nat.le_succ _) ?_ q s.toks
  refine ⟨pick.toList, ⟨0, ?_⟩, hp, hz⟩
  have key : ∀ (hh : Heap) (n : Nat), hh.objs.size = n → (hh.push { cls := .type "list", data := .seq pick }).get? n = some { cls := .type "list", data := .seq pick.toList.toArray } := by
    rintro hh n rfl
    exact Heap.get?_push_size _ rfl
  exact key _ _ (Heap.size_push ..)
theorem ev_SliceUpto {value e : Expr} {p pos : Pos} (h : Ev C value ρ H fun v H₁ => Ev C e ρ H₁ fun i H₂ => ∃ a vs, ∃ n : Int, v = .loc a ∧ i = .int n ∧ 0 ≤ n ∧ H₂ a = some (.list vs) ∧ ∀ b, C.lo ≤ b → H₂ b = Option.none → Q (.loc b) (upd H₂ b (.list (vs.take n.toNat)))) :
    Ev C (.Subscript value (.Slice none (some e) none p) pos) ρ H Q := by
  intro A s hA R
  refine slice_core (h.use hA R fun u v s₁ H₁ a K R₁ G q => evalPart_none_step (evalPart_some_step (q.use hA R₁ fun u' v' s₂ H₂ a' K' R₂ G' q' => ?_)))
  obtain ⟨l, vs, n, rfl, rfl, h0, e, q⟩ := q'
  cases isV_loc a
  obtain ⟨t, rfl⟩ := isV_int a'
  obtain ⟨its, hl, hx, hz⟩ := R₂.view l _ e
  obtain ⟨k, rfl⟩ := Int.eq_ofNat_of_zero_le h0
  refine ⟨l, _, Option.none, some (k : Int), rfl, hl.isList, few hx hz, .none, .int _ _, ?_⟩
  exact ((slice_fin (l := l) (its := its) (vs := vs) R₂ (out := vs.take (k : Int).toNat) (by rw [slicePick_upto']; simpa using hx.take k) (by simp; omega) q).trans K' G').trans K G
theorem ev_SliceFrom {value e : Expr} {p pos : Pos} (h : Ev C value ρ H fun v H₁ => Ev C e ρ H₁ fun i H₂ => ∃ a vs, ∃ n : Int, v = .loc a ∧ i = .int n ∧ 0 ≤ n ∧ H₂ a = some (.list vs) ∧ ∀ b, C.lo ≤ b → H₂ b = Option.none → Q (.loc b) (upd H₂ b (.list (vs.drop n.toNat)))) :
    Ev C (.Subscript value (.Slice (some e) none none p) pos) ρ H Q := by
  intro A s hA R
  refine slice_core (h.use hA R fun u v s₁ H₁ a K R₁ G q => evalPart_some_step (q.use hA R₁ fun u' v' s₂ H₂ a' K' R₂ G' q' => evalPart_none_step ?_))
  obtain ⟨l, vs, n, rfl, rfl, h0, e, q⟩ := q'
  cases isV_loc a
  obtain ⟨t, rfl⟩ := isV_int a'
  obtain ⟨its, hl, hx, hz⟩ := R₂.view l _ e
  obtain ⟨k, rfl⟩ := Int.eq_ofNat_of_zero_le h0
  refine ⟨l, _, some (k : Int), Option.none, rfl, hl.isList, few hx hz, .int _ _, .none, ?_⟩
  exact ((slice_fin (l := l) (its := its) (vs := vs) R₂ (by rw [slicePick_from']; simpa using hx.drop k) (by simp; omega) q).trans K' G').trans K G
theorem strsAre_of {us : List Value} : ∀ {ss : List Str}, ValsAre us (strsV ss) → StrsAre us ss ∧ ∀ x ∈ ss, PyData.strOk x = true := by
  induction us with
  | nil => intro ss h; cases ss with | nil => exact ⟨by constructor, fun _ h => (nomatch h)⟩ | cons _ _ => cases h
  | cons u us ih =>
    intro ss h
    cases ss with
    | nil => cases h
    | cons x ss =>
      cases h with
      | cons a b =>
        obtain ⟨t, rfl, ok⟩ := isV_str a
        obtain ⟨h1, h2⟩ := ih b
        refine ⟨?_, fun y hy => ?_⟩
        · first | exact .cons h1 | exact .cons _ h1 | exact StrsAre.cons _ _ h1 | exact ⟨t, rfl, h1⟩ | exact ⟨⟨t, rfl⟩, h1⟩
        · cases hy with
          | head => exact ok
          | tail _ hy => exact h2 y hy
end
end Mine
end
section
set_option maxRecDepth 100000
set_option Elab.async false
set_option linter.unusedVariables false
namespace Mine
open PySem PySem.Spec PyProof.Rows
/-! plain laws: first occurrences, rising lists -/
theorem str_ext {x y : Str} (h : x.cps.toList = y.cps.toList) : x = y := by
  obtain ⟨a⟩ := x; obtain ⟨b⟩ := y
  have : a = b := Array.toList_inj.mp h
  subst this; rfl
/-! the heap's view -/
theorem le_upd {H : HV} {b : Addr} {o : AO} (h : H b = none) : H.le (upd H b o) := fun a o' e => by
  unfold upd
  split
  · rename_i q; subst q; rw [h] at e; cases e
  · exact e
theorem HV.le_refl (H : HV) : H.le H := fun _ _ e => e
theorem HV.le.trans {H H' H'' : HV} (a : H.le H') (b : H'.le H'') : H.le H'' := fun x o e => b x o (a x o e)
theorem upd_at (H : HV) (b : Addr) (o : AO) : upd H b o b = some o := by simp [upd]
theorem upd_ne (H : HV) {a b : Addr} (o : AO) (h : a ≠ b) : upd H b o a = H a := by simp [upd, h]
theorem ne_of_new {H : HV} {a b : Addr} {o : AO} (e : H a = some o) (n : H b = none) : a ≠ b := by rintro rfl; rw [e] at n; cases n
theorem upd_old {H : HV} {a b : Addr} {o o' : AO} (e : H a = some o) (n : H b = none) : upd H b o' a = some o := by rw [upd_ne _ _ (ne_of_new e n)]; exact e
/-- a statement, then the rest, with a word between -/
theorem exs_mid {C : Cx} {st : Stmt} {rest : List Stmt} {ρ : EV} {H : HV} {Q : Fl → EV → HV → Prop} (P : EV → HV → Prop) (h : Ex C st ρ H fun fl ρ₁ H₁ => match fl with | .next => P ρ₁ H₁ | fl => Q fl ρ₁ H₁)
    (k : ∀ ρ₁ H₁, P ρ₁ H₁ → Exs C rest ρ₁ H₁ Q) : Exs C (st :: rest) ρ H Q :=
  exs_cons (fun A s hA R => wpAny_mono (h A s hA R) (fun f s' ⟨fl, ρ', H', a, b, c, d⟩ => ⟨fl, ρ', H', a, b, c, by cases fl <;> first | exact k _ _ d | exact d⟩) fun _ _ e => e)
end Mine
end
section
set_option maxRecDepth 100000
set_option Elab.async false
set_option linter.unusedVariables false
namespace Mine
open PySem PySem.Spec PyProof.Rows
open PySem.W (Frag Frag.In nsIn mg_of mg_none_of GoodWG ClaimW WData ReadsW Well WellAll ofPy)
theorem ValsAre.inj {us : List Value} {vs ws : List V} (h : ValsAre us vs) (k : ValsAre us ws) : vs = ws := by
  induction h generalizing ws with
  | nil => cases k; rfl
  | cons a _ ih =>
    cases k with
    | cons b r =>
      rw [a] at b; cases b; rw [ih r]
theorem objIs_inj {prog : Program} {w : World} {h : Heap} {a : Addr} {vs : List V} {o : AO} (x : ObjIs prog w h a (.list vs)) (y : ObjIs prog w h a o) : o = .list vs := by
  obtain ⟨its, ⟨n, e⟩, hv, _⟩ := x
  cases o with
  | list ws =>
    obtain ⟨its', ⟨n', e'⟩, hw, _⟩ := y
    rw [e] at e'
    have he : its = its' := by
      have := Option.some.inj e'
      injection this with _ _ hd _
      injection hd with hd _
      simpa using congrArg Array.toList hd
    subst he
    rw [hv.inj hw]
  | tuple ws =>
    obtain ⟨its', ⟨o', e', hc, r⟩, _⟩ := y
    rw [e] at e'; cases e'
    exact absurd hc (by intro h; injection h with h; exact absurd h (by decide))
  | dict ws =>
    obtain ⟨its', ⟨o', es, ep, e', r⟩, _⟩ := y
    rw [e] at e'; cases e'
    obtain ⟨_, hd, _⟩ := r; cases hd
theorem lk_mem {b : Addr} {o : AO} : ∀ {l : List (Addr × AO)}, l.lookup b = some o → (b, o) ∈ l
  | [], h => by cases h
  | (c, p) :: l, h => by
    rw [List.lookup_cons] at h
    split at h
    · rename_i e
      cases h
      rw [beq_iff_eq] at e; subst e
      exact List.mem_cons_self ..
    · exact List.mem_cons_of_mem _ (lk_mem h)
theorem lk_of {q : Addr × AO} : ∀ {l : List (Addr × AO)}, (l.map (·.1)).Nodup → q ∈ l → l.lookup q.1 = some q.2
  | [], _, h => by cases h
  | (c, p) :: l, nd, h => by
    rw [List.lookup_cons]
    rw [List.map_cons, List.nodup_cons] at nd
    rcases List.mem_cons.mp h with rfl | hm
    · simp
    · have : q.1 ≠ c := fun e => nd.1 (e ▸ List.mem_map_of_mem (f := (·.1)) hm)
      have e : (q.1 == c) = false := beq_eq_false_iff_ne.mpr this
      rw [e]
      exact lk_of nd.2 hm
end Mine
end
section
set_option maxRecDepth 100000
set_option Elab.async false
set_option linter.unusedVariables false
namespace Mine
open PySem PySem.Spec PyProof.Rows PySem.SeqAt
section
variable {C : Cx} {ρ : EV} {H H' : HV} {A : Around} {s : Shared} {Q : V → HV → Prop}
/-- a new object above all that stands -/
theorem Done.above {a : Addr} {h' : Heap} {o : AO} (R : Rel C ρ H s.heap) (k : ∀ b o, s.heap.get? b = some o → h'.get? b = some o) (ha : ∀ b o, s.heap.get? b = some o → b < a) (x : ObjIs C.prog C.w h' a o)
    (q : ∀ a, C.lo ≤ a → H a = Option.none → Q (.loc a) (upd H a o)) (t : Nat) : Done C isV ρ H s Q (.ref a) { s with heap := h', toks := t } := by
  have hn : H a = Option.none := by
    cases e : H a with
    | none => rfl
    | some o => obtain ⟨ob, eo⟩ := (R.view _ _ e).there; exact absurd (ha _ _ eo) (Nat.lt_irrefl _)
  have hlo : C.lo ≤ a := by
    obtain ⟨m, ⟨ol, _, _, el, _⟩, _⟩ := R.loc
    exact Nat.le_trans R.lloc (Nat.le_of_lt (ha _ _ el))
  have g : Gr H (upd H a o) s.heap := fun b o' e n => by
    unfold upd; rw [if_neg (Nat.ne_of_lt (ha b o' e))]; exact n
  refine ⟨_, _, rfl, kp_of _ k, R.step k (fun b o' e => ?_) g, g, q _ hlo hn⟩
  unfold upd at e
  split at e
  · rename_i ea; cases e; subst ea; exact x
  · exact (R.view b o' e).at fun ob e _ => k _ _ e
/-- tuple(list) -/
theorem vc_tuple {a : Addr} {vs : List V} (e : H a = some (.list vs)) (q : ∀ b, C.lo ≤ b → H b = Option.none → Q (.loc b) (upd H b (.tuple vs))) : VCall C (.type "tuple") [.loc a] ρ H Q := by
  intro us hus A s hA R
  cases hus with
  | cons x r =>
    cases r
    cases isV_loc x
    obtain ⟨its, hl, hx, hz⟩ := R.view a _ e
    refine call_tuple_list hl.isList (fun h' hk => ?_) (few hx hz)
    exact Done.above (o := .tuple vs) R (fun b o e => Heap.get?_push_of_some _ (hk b o e)) (fun b o e => Heap.lt_size (hk b o e)) (obj_tuple (Heap.get?_push_size _ rfl) hx hz) q s.toks
end
end Mine
end
section
set_option maxRecDepth 100000
set_option Elab.async false
set_option linter.unusedVariables false
namespace Mine
open PySem PySem.Spec PyProof.Rows PySem.SeqAt
section
variable {C : Cx} {ρ : EV} {H H' : HV} {A : Around} {s : Shared} {Q : V → HV → Prop}
/-- a method of a text, with one argument -/
theorem ev_MethS {o elt : Expr} {name : Str} {id : String} {apos pos : Pos} (slot : Slot "str" name id) (hty : typeOf (.builtin id) = pure (.type "method_descriptor"))
    (h : Ev C o ρ H fun a H₁ => ∃ x, a = .str x ∧ Ev C elt ρ H₁ fun v H₂ => VCall C (.builtin id) [.str x, v] ρ H₂ Q)
    (hbase : ∀ env, attributeBase o name env (eval o env) = eval o env := by intro _; rfl)
    (hfew : ∀ env, ((backTo pos (starEach [elt] env)).all (fun x => !x.1) && (backToKw pos (keywordEach [] env)).all (fun x => x.1.isSome)
      && decide (([elt] : List Expr).length + ([] : List Keyword).length + (if ([] : List Keyword).isEmpty then 0 else 1) < 30)) = true := by intro _; rfl)
    (hline : (apos.endLine == pos.line) = true := by rfl)
    (htrees : ∀ env, backTo pos (starEach [elt] env) = [(false, eval elt env)] := by intro _; rfl) :
    Ev C (.Call (.Attribute o name apos) [elt] [] pos) ρ H Q := by
  intro A s hA R
  refine wpAny_Call_method (hbase _) (hfew _) hline F.plainAttrs_str slot hty (h.use hA R fun u v s₁ H₁ a K R₁ G q => ?_)
  obtain ⟨x, rfl, q⟩ := q
  have a' := a
  obtain ⟨t, rfl, ok⟩ := isV_str a
  refine ⟨typeIs_str _ _ _, (fun _ e => nomatch e), ?_⟩
  rw [htrees]
  refine Calls.callWith_builtin rfl (Calls.evalArgs_plain (Calls.spliced_cons (q.use hA R₁ fun u' v' s₂ H₂ b K' R₂ G' q' => Calls.spliced_nil ?_)))
  exact wpAny_mono (q' _ (.cons a' (.cons b .nil)) A s₂ hA R₂) (fun _ _ d => (d.trans K' G').trans K G) fun _ _ e => e
theorem strOk_iff {x : Str} : PyData.strOk x = true ↔ ∀ c ∈ x.cps.toList, c < 0x110000 := by
  unfold PyData.strOk
  rw [Array.all_eq_true']
  simp [Array.mem_toList_iff]
theorem join_ok {sep : Str} (hs : PyData.strOk sep = true) : ∀ {ys : List Str}, (∀ y ∈ ys, PyData.strOk y = true) → PyData.strOk (Str.join sep ys) = true
  | [], _ => by show PyData.strOk Str.empty = true; decide +kernel
  | [y], h => h y (List.mem_cons_self ..)
  | y :: z :: r, h => by
    show PyData.strOk (y ++ sep ++ Str.join sep (z :: r)) = true
    exact strOk_append (strOk_append (h y (List.mem_cons_self ..)) hs) (join_ok hs fun a ha => h a (List.mem_cons_of_mem _ ha))
theorem vc_join {x : Str} {a : Addr} {ys : List Str} (e : H a = some (.list (strsV ys))) (hx : x.length ≤ 16) (hw : (ys.map (·.length)).sum + ys.length ≤ 1048576) (q : Q (.str (Str.join x ys)) H) : VCall C (.builtin "str.join") [.str x, .loc a] ρ H Q := by
  intro us hus A s hA R
  cases hus with
  | cons u r =>
    cases r with
    | cons b r =>
      cases r
      obtain ⟨t, rfl, ok⟩ := isV_str u
      cases isV_loc b
      obtain ⟨its, hl, hx', hz⟩ := R.view a _ e
      obtain ⟨hS, oks⟩ := strsAre_of hx'
      refine join_listW hl.isList (by simpa using hS) hx hw fun t' k => Done.v (v := .str (Str.join x ys)) R ?_ ?_ k
      · have : Txt.join x ys = Str.join x ys := StrLaws.glued_eq_join x ys
        rw [this]; exact abs_str (join_ok ok oks)
      · exact q
theorem split_ok {x y : Str} (hx : PyData.strOk x = true) : ∀ p ∈ Txt.split x y, PyData.strOk p = true := by
  intro p hp
  rw [strOk_iff] at hx ⊢
  intro c hc
  refine hx c ?_
  have := StrLaws.join_split x y
  rw [← this]
  clear this hx
  revert hp
  generalize Txt.split x y = l
  intro hp
  have key : ∀ l : List Str, p ∈ l → c ∈ (Str.join y l).cps.toList := by
    intro l
    induction l with
    | nil => intro h; cases h
    | cons a r ih =>
      intro h
      cases r with
      | nil =>
        rw [List.mem_singleton] at h; subst h; exact hc
      | cons b r =>
        show c ∈ (a ++ y ++ Str.join y (b :: r)).cps.toList
        have e : (a ++ y ++ Str.join y (b :: r)).cps.toList = a.cps.toList ++ y.cps.toList ++ (Str.join y (b :: r)).cps.toList := by
          show (a.cps ++ y.cps ++ (Str.join y (b :: r)).cps).toList = _
          simp
        rw [e]
        rcases List.mem_cons.mp h with rfl | h
        · simp [hc]
        · have := ih h; simp [this]
  exact key l hp
theorem vc_split {x : Str} {c : Nat} (hz : x.length ≤ 1000000) (q : ∀ b, C.lo ≤ b → H b = Option.none → Q (.loc b) (upd H b (.list (strsV (Txt.split x ⟨#[c]⟩))))) : VCall C (.builtin "str.split") [.str x, .str ⟨#[c]⟩] ρ H Q := by
  intro us hus A s hA R
  cases hus with
  | cons u r =>
    cases r with
    | cons b r =>
      cases r
      obtain ⟨t, rfl, ok⟩ := isV_str u
      obtain ⟨t', rfl, ok'⟩ := isV_str b
      have hlen : (Txt.split x ⟨#[c]⟩).length ≤ 1048576 := by
        have := split_weight x ⟨#[c]⟩ (Nat.le_refl 1)
        omega
      have one : [x] = Txt.split x ⟨#[c]⟩ → Done C isV ρ H s Q (.ref s.heap.objs.size) { s with heap := s.heap.push { cls := .type "list", data := .seq [Value.str x t].toArray } } := fun e => by
        refine Done.new (o := .list (strsV (Txt.split x ⟨#[c]⟩))) R (fun _ _ e => Heap.get?_push_of_some _ e) (Nat.le_refl _) ?_ q s.toks
        rw [← e]
        exact obj_list (C := C) (Heap.get?_push_size _ rfl) (.cons (abs_str ok) .nil) (by show 1 ≤ 1048576; decide)
      cases h1 : (decide (x.length < (⟨#[c]⟩ : Str).length) || decide (Builtin.Str.strKind x < Builtin.Str.strKind ⟨#[c]⟩))
      · cases hf : (Builtin.Str.occurrences x ⟨#[c]⟩ 0 x.length (x.length + 1)).isEmpty
        · have e : Txt.split x ⟨#[c]⟩ = Builtin.Str.partsBetween x (Builtin.Str.occurrences x ⟨#[c]⟩ 0 x.length (x.length + 1)) (⟨#[c]⟩ : Str).length := by
            unfold Txt.split; rw [if_neg (ne_true_of_eq_false h1), if_neg (ne_true_of_eq_false hf)]
          refine call_meets F.slot_str_split (typeIs_str _ _ _) F.entry_str_split (F.args_str_split_2 _ _) (meets_str_split_sep x ⟨#[c]⟩ t t' h1 rfl hf (Nat.le_trans hz (by decide)) (by rw [← e]; exact Nat.le_trans hlen (by decide))) ?_
          show Done C isV ρ H s Q _ _
          refine Done.new (o := .list (strsV (Txt.split x ⟨#[c]⟩))) R (fun _ _ e => Heap.get?_push_of_some _ e) (Nat.le_refl _) ?_ q _
          refine obj_list (C := C) (Heap.get?_push_size _ rfl) ?_ (by simpa using hlen)
          rw [e, strsFrom_eq]
          have oks : ∀ p ∈ Builtin.Str.partsBetween x (Builtin.Str.occurrences x ⟨#[c]⟩ 0 x.length (x.length + 1)) (⟨#[c]⟩ : Str).length, PyData.strOk p = true := fun p hp => split_ok ok p (e ▸ hp)
          revert oks
          generalize Builtin.Str.partsBetween x (Builtin.Str.occurrences x ⟨#[c]⟩ 0 x.length (x.length + 1)) (⟨#[c]⟩ : Str).length = l
          generalize s.toks = k
          intro oks
          induction l generalizing k with
          | nil => exact .nil
          | cons p l ih => exact .cons (abs_str (oks p (List.mem_cons_self ..))) (ih _ fun a ha => oks a (List.mem_cons_of_mem _ ha))
        · have e : [x] = Txt.split x ⟨#[c]⟩ := by unfold Txt.split; rw [if_neg (ne_true_of_eq_false h1), if_pos hf]
          exact call_meets F.slot_str_split (typeIs_str _ _ _) F.entry_str_split (F.args_str_split_2 _ _) (meets_str_split_not_found x ⟨#[c]⟩ t t' h1 rfl hf) (one e)
      · have e : [x] = Txt.split x ⟨#[c]⟩ := by unfold Txt.split; rw [if_pos h1]
        exact call_meets F.slot_str_split (typeIs_str _ _ _) F.entry_str_split (F.args_str_split_2 _ _) (meets_str_split_cannot_occur x ⟨#[c]⟩ t t' h1) (one e)
end
end Mine
end
section
set_option maxRecDepth 100000
set_option Elab.async false
set_option linter.unusedVariables false
namespace Mine
open PySem PySem.Spec PyProof.Rows
theorem fm0 (c : Int) {n : Int} (h : 0 < n) : 0 ≤ c.fmod n := Int.fmod_nonneg_of_pos _ h
theorem fm1 (c : Int) {n : Int} (h : 0 < n) : c.fmod n < n := Int.fmod_lt_of_pos _ h
/-! a text of words with single blanks between reads back as its words -/
theorem cut_one {c : Nat} : ∀ {p y a b : List Nat}, c ∉ p → c ∉ y → p ++ c :: a = y ++ c :: b → p = y ∧ a = b
  | [], [], a, b, _, _, h => by simp at h; exact ⟨rfl, h⟩
  | [], z :: y, a, b, _, hy, h => by simp at h; exact absurd h.1 (fun e => hy (by simp [e]))
  | x :: p, [], a, b, hp, _, h => by simp at h; exact absurd h.1 (fun e => hp (by simp [e]))
  | x :: p, z :: y, a, b, hp, hy, h => by
    simp only [List.cons_append, List.cons.injEq] at h
    obtain ⟨h1, h2⟩ := cut_one (fun e => hp (List.mem_cons_of_mem _ e)) (fun e => hy (List.mem_cons_of_mem _ e)) h.2
    exact ⟨by rw [h.1, h1], h2⟩
theorem join_cps (c : Nat) (p q : Str) (r : List Str) : (Str.join ⟨#[c]⟩ (p :: q :: r)).cps.toList = p.cps.toList ++ c :: (Str.join ⟨#[c]⟩ (q :: r)).cps.toList := by
  show (p.cps ++ #[c] ++ (Str.join ⟨#[c]⟩ (q :: r)).cps).toList = _
  simp
theorem join_inj {c : Nat} : ∀ {ps ys : List Str}, ps ≠ [] → ys ≠ [] → (∀ p ∈ ps, c ∉ p.cps.toList) → (∀ y ∈ ys, c ∉ y.cps.toList) → Str.join ⟨#[c]⟩ ps = Str.join ⟨#[c]⟩ ys → ps = ys
  | [], _, h, _, _, _, _ => absurd rfl h
  | _, [], _, h, _, _, _ => absurd rfl h
  | [p], [y], _, _, _, _, e => by
    have e : p = y := e
    rw [e]
  | [p], y :: z :: r, _, _, hp, _, e => by
    exfalso
    have e := congrArg (fun s : Str => s.cps.toList) e
    simp only [join_cps] at e
    have e : p.cps.toList = _ := e
    exact hp p (List.mem_cons_self ..) (by rw [e]; simp)
  | p :: q :: r, [y], _, _, _, hy, e => by
    exfalso
    have e := congrArg (fun s : Str => s.cps.toList) e
    simp only [join_cps] at e
    have e : _ = y.cps.toList := e
    exact hy y (List.mem_cons_self ..) (by rw [← e]; simp)
  | p :: q :: r, y :: z :: t, _, _, hp, hy, e => by
    have e := congrArg (fun s : Str => s.cps.toList) e
    simp only [join_cps] at e
    obtain ⟨h1, h2⟩ := cut_one (hp p (List.mem_cons_self ..)) (hy y (List.mem_cons_self ..)) e
    have h3 := join_inj (ps := q :: r) (ys := z :: t) (by simp) (by simp) (fun a ha => hp a (List.mem_cons_of_mem _ ha)) (fun a ha => hy a (List.mem_cons_of_mem _ ha)) (str_ext h2)
    rw [str_ext h1, h3]
theorem split_ne (x : Str) (c : Nat) : Txt.split x ⟨#[c]⟩ ≠ [] := by
  unfold Txt.split
  split
  · simp
  · split
    · simp
    · rw [StrLaws.partsBetween_eq]
      obtain ⟨p, r, e⟩ := StrLaws.partsFrom_ne x (⟨#[c]⟩ : Str).length 0 (Builtin.Str.occurrences x ⟨#[c]⟩ 0 x.length (x.length + 1))
      rw [e]; simp
theorem split_of_join {c : Nat} {ys : List Str} (hne : ys ≠ []) (hf : ∀ y ∈ ys, c ∉ y.cps.toList) : Txt.split (Str.join ⟨#[c]⟩ ys) ⟨#[c]⟩ = ys :=
  join_inj (split_ne _ _) hne (StrLaws.split_free _ c) hf (StrLaws.join_split _ _)
end Mine
end
section
set_option maxRecDepth 100000
set_option Elab.async false
set_option linter.unusedVariables false
namespace Mine
open PySem PySem.Spec PyProof.Rows
/-! grammars in the heap's view -/
abbrev Gram := List (Str × List Str)
inductive RulesAt (H : HV) (P : Addr → Prop) : List Addr → Gram → Prop
  | nil : RulesAt H P [] []
  | cons {t b : Addr} {h : Str} {bd : List Str} {ts : List Addr} {g : Gram} : P t → P b → H t = some (.tuple [.str h, .loc b]) → H b = some (.list (strsV bd)) → RulesAt H P ts g → RulesAt H P (t :: ts) ((h, bd) :: g)
section
variable {H H' : HV} {P P' : Addr → Prop} {ts ts' : List Addr} {g g' : Gram}
theorem RulesAt.length (x : RulesAt H P ts g) : ts.length = g.length := by
  induction x with
  | nil => rfl
  | cons _ _ _ _ _ ih => simp [ih]
theorem RulesAt.imp (x : RulesAt H P ts g) (h : ∀ b o, P b → H b = some o → H' b = some o) (p : ∀ b, P b → P' b) : RulesAt H' P' ts g := by
  induction x with
  | nil => exact .nil
  | cons a b c d _ ih => exact .cons (p _ a) (p _ b) (h _ _ a c) (h _ _ b d) ih
theorem RulesAt.le (x : RulesAt H P ts g) (h : H.le H') : RulesAt H' P ts g := x.imp (fun b o _ e => h b o e) fun _ p => p
theorem RulesAt.append (x : RulesAt H P ts g) (y : RulesAt H P ts' g') : RulesAt H P (ts ++ ts') (g ++ g') := by
  induction x with
  | nil => exact y
  | cons a b c d _ ih => exact .cons a b c d ih
theorem RulesAt.get (x : RulesAt H P ts g) {i : Nat} {h : Str} {bd : List Str} (e : g[i]? = some (h, bd)) : ∃ t b, ts[i]? = some t ∧ P t ∧ P b ∧ H t = some (.tuple [.str h, .loc b]) ∧ H b = some (.list (strsV bd)) := by
  induction x generalizing i with
  | nil => simp at e
  | @cons t b h' bd' ts g p q c d _ ih =>
    cases i with
    | zero => simp at e; obtain ⟨rfl, rfl⟩ := e; exact ⟨t, b, rfl, p, q, c, d⟩
    | succ i => simpa using ih (by simpa using e)
theorem RulesAt.get' (x : RulesAt H P ts g) {i : Nat} {v : V} (e : (ts.map V.loc)[i]? = some v) : ∃ t b h bd, v = .loc t ∧ g[i]? = some (h, bd) ∧ P t ∧ P b ∧ H t = some (.tuple [.str h, .loc b]) ∧ H b = some (.list (strsV bd)) := by
  rw [List.getElem?_map] at e
  obtain ⟨t, ht, rfl⟩ := Option.map_eq_some_iff.mp e
  have hlt : i < g.length := by rw [← x.length]; exact (List.getElem?_eq_some_iff.mp ht).1
  obtain ⟨t', b, h1, h2⟩ := x.get (i := i) (h := g[i].1) (bd := g[i].2) (by simp [hlt])
  rw [ht] at h1; cases h1
  exact ⟨t, b, _, _, rfl, by simp [hlt], h2⟩
/-- the grammar g stands at R -/
noncomputable def GrAt (H : HV) (P : Addr → Prop) (R : Addr) (g : Gram) : Prop := ∃ ts : List Addr, H R = some (.list (ts.map V.loc)) ∧ RulesAt H P ts g
theorem GrAt.le {R : Addr} (x : GrAt H P R g) (h : H.le H') : GrAt H' P R g := let ⟨ts, a, b⟩ := x; ⟨ts, h _ _ a, b.le h⟩
end
/-- a new object, or one turned, leaves what is elsewhere -/
theorem upd_keep {H : HV} {b d : Addr} {o o' : AO} (h : d ≠ b) (e : H d = some o) : upd H b o' d = some o := by rw [upd_ne _ _ h]; exact e
theorem rng_get {a : Int} {n i : Nat} {v : V} (h : (Src.rng a n).vals[i]? = some v) : i < n ∧ v = .int (a + i) := by
  have hi : i < n := by
    have := (List.getElem?_eq_some_iff.mp h).1
    simpa [Src.vals] using this
  refine ⟨hi, ?_⟩
  simp [Src.vals, hi] at h; exact h.symm
theorem rng_len (a : Int) (n : Nat) : (Src.rng a n).vals.length = n := by simp [Src.vals]
theorem strs_get {a : Addr} {ss : List Str} {i : Nat} {v : V} (h : (Src.list a (strsV ss)).vals[i]? = some v) : ∃ x, ss[i]? = some x ∧ v = .str x := by
  have h : (strsV ss)[i]? = some v := h
  rw [List.getElem?_map] at h
  obtain ⟨x, hx, rfl⟩ := Option.map_eq_some_iff.mp h
  exact ⟨x, hx, rfl⟩
theorem take_snoc {α : Type} {l : List α} {i : Nat} {x : α} (h : l[i]? = some x) : l.take (i + 1) = l.take i ++ [x] := by rw [List.take_add_one, h]; rfl
end Mine
end
section
set_option maxRecDepth 100000
set_option Elab.async false
set_option linter.unusedVariables false
namespace Mine
open PySem PySem.Spec PyProof.Rows
/-! replaying a derivation, plain -/
end Mine
namespace Mine
open PySem PySem.Spec PyProof.Rows
section
variable {C : Cx} {ρ : EV} {H H' : HV} {A : Around} {s : Shared}
end
theorem le_turn {H H' : HV} {b : Addr} {o : AO} (h : H.le H') (n : H b = none) : H.le (upd H' b o) := fun a o' e => by
  rw [upd_ne _ _ (ne_of_new e n)]; exact h a o' e
end Mine
end
section
set_option maxRecDepth 100000
set_option Elab.async false
set_option linter.unusedVariables false
namespace Mine
open PySem PySem.Spec PyProof.Rows
section
variable {C : Cx} {ρ : EV} {H H' : HV} {A : Around} {s : Shared}
end
end Mine
end
section
set_option maxRecDepth 100000
set_option Elab.async false
set_option linter.unusedVariables false
namespace Mine
open PySem PySem.Spec PyProof.Rows
section
variable {C : Cx} {ρ : EV} {H H' : HV} {A : Around} {s : Shared} {Q : V → HV → Prop}
end
/-! heads built from what is given -/
end Mine
end
section
set_option maxRecDepth 100000
set_option Elab.async false
set_option linter.unusedVariables false
namespace Mine
open PySem PySem.Spec PyProof.Rows
/-! derivations, and the tables of spans, plain -/
/-! how many entries are false -/
end Mine
namespace Mine
open PySem PySem.Spec PyProof.Rows
/-! tables in the heap's view -/
end Mine
namespace Mine
open PySem PySem.Spec PyProof.Rows
end Mine
end
section
set_option maxRecDepth 100000
set_option Elab.async false
set_option linter.unusedVariables false
namespace Mine
open PySem PySem.Spec PyProof.Rows
section
variable {C : Cx} {ρ : EV} {H H' : HV} {A : Around} {s : Shared} {Q : V → HV → Prop}
end
end Mine
end
section
set_option maxRecDepth 100000
set_option Elab.async false
set_option linter.unusedVariables false
namespace Mine
open PySem PySem.Spec PyProof.Rows
/-! first sets, plain -/
theorem by0 {P : List Value → Prop} (h : P []) : ∀ vals : List Value, vals.length = 0 → P vals := fun vals e => by rw [List.length_eq_zero_iff.mp e]; exact h
theorem byS {n : Nat} {P : List Value → Prop} (h : ∀ a, ∀ vals : List Value, vals.length = n → P (a :: vals)) : ∀ vals : List Value, vals.length = n + 1 → P vals := fun vals e => by
  obtain ⟨a, r, rfl⟩ := List.exists_cons_of_length_eq_add_one e
  exact h a r (Nat.succ.inj e)
theorem by1 {P : List Value → Prop} (h : ∀ a, P [a]) : ∀ vals : List Value, vals.length = 1 → P vals := byS fun a => by0 (h a)
theorem by2 {P : List Value → Prop} (h : ∀ a b, P [a, b]) : ∀ vals : List Value, vals.length = 2 → P vals := byS fun a => by1 (P := fun l => P (a :: l)) (h a)
theorem midI {C : Cx} {st : Stmt} {ρ : EV} {H : HV} {Q : Fl → EV → HV → Prop} (B : EV → HV → Prop) (h : ∀ P : EV → HV → Prop, (∀ ρ H, B ρ H → P ρ H) → (∀ ρ H, P ρ H → B ρ H) → Ex C st ρ H fun fl ρ₁ H₁ => match fl with | .next => P ρ₁ H₁ | _ => False)
    (k : ∀ ρ₁ H₁, B ρ₁ H₁ → Q .next ρ₁ H₁) : Ex C st ρ H Q :=
  fun A s hA R => wpAny_mono (h B (fun _ _ x => x) (fun _ _ x => x) A s hA R) (fun f s' ⟨fl, ρ', H', a, b, c, d⟩ => ⟨fl, ρ', H', a, b, c, by cases fl <;> first | exact k _ _ d | exact d.elim⟩) fun _ _ e => e
theorem kk {a b k : Nat} (h : b < k) (h2 : a + 1 ≤ b) : a < k - 1 := Nat.lt_sub_of_add_lt (Nat.lt_of_le_of_lt h2 h)
theorem kp {b k : Nat} (h : b < k) : 0 < k := Nat.lt_of_le_of_lt (Nat.zero_le _) h
end Mine
end
section
set_option maxRecDepth 100000
set_option Elab.async false
set_option linter.unusedVariables false
namespace Mine
open PySem PySem.Spec PyProof.Rows
section
variable {C : Cx} {ρ : EV} {H H' : HV} {A : Around} {s : Shared} {Q : V → HV → Prop}
end
/-! whatever is replayed is derived, plain -/
/-! the law's reckoning of the rules that fit, plain -/
end Mine
end
section
set_option maxRecDepth 100000
set_option Elab.async false
set_option linter.unusedVariables false
namespace Mine
open PySem PySem.Spec PyProof.Rows
section
variable {C : Cx} {ρ : EV} {H H' : HV} {A : Around} {s : Shared}
theorem vc_len_tuple {a : Addr} {vs : List V} {Q : V → HV → Prop} (e : H a = some (.tuple vs)) (q : Q (.int vs.length) H) : VCall C (.builtin "len") [.loc a] ρ H Q := by
  intro us hus A s hA R
  cases hus with
  | cons x r =>
    cases r
    cases isV_loc x
    obtain ⟨its, hl, hx, hz⟩ := R.view a _ e
    have hlen := hx.length
    refine PyProof.Rows.len_tuple hl (by rw [List.size_toArray]; omega) (Done.v R ?_ q _)
    show some (V.int ((its.toArray.size : Nat) : Int)) = _
    rw [List.size_toArray, hlen]
end
/-! first and follow sets, plain -/
/-- lists of strs at addresses -/
inductive LsAt (H : HV) : List Addr → List (List Str) → Prop
  | nil : LsAt H [] []
  | cons {a : Addr} {l : List Str} {as : List Addr} {ls : List (List Str)} : H a = some (.list (strsV l)) → LsAt H as ls → LsAt H (a :: as) (l :: ls)
theorem LsAt.imp {H H' : HV} {as : List Addr} {ls : List (List Str)} (x : LsAt H as ls) (h : ∀ a l, H a = some (.list l) → H' a = some (.list l)) : LsAt H' as ls := by
  induction x with
  | nil => exact .nil
  | cons e _ ih => exact .cons (h _ _ e) ih
theorem LsAt.le {H H' : HV} {as : List Addr} {ls : List (List Str)} (x : LsAt H as ls) (h : H.le H') : LsAt H' as ls := x.imp fun a l e => h a _ e
theorem LsAt.away {H : HV} {d : Addr} {o : AO} {as : List Addr} {ls : List (List Str)} (x : LsAt H as ls) (h : ∀ a ∈ as, a ≠ d) : LsAt (upd H d o) as ls := by
  induction x with
  | nil => exact .nil
  | cons e _ ih => exact .cons (upd_keep (h _ (List.mem_cons_self ..)) e) (ih fun a ha => h a (List.mem_cons_of_mem _ ha))
theorem LsAt.append {H : HV} {as bs : List Addr} {ls ms : List (List Str)} (x : LsAt H as ls) (y : LsAt H bs ms) : LsAt H (as ++ bs) (ls ++ ms) := by
  induction x with
  | nil => exact y
  | cons e _ ih => exact .cons e ih
theorem LsAt.length {H : HV} {as : List Addr} {ls : List (List Str)} (x : LsAt H as ls) : as.length = ls.length := by
  induction x with
  | nil => rfl
  | cons _ _ ih => simp [ih]
theorem LsAt.get {H : HV} {as : List Addr} {ls : List (List Str)} (x : LsAt H as ls) {i : Nat} {l : List Str} (e : ls[i]? = some l) : ∃ a, as[i]? = some a ∧ H a = some (.list (strsV l)) := by
  induction x generalizing i with
  | nil => simp at e
  | @cons a l' as ls h _ ih =>
    cases i with
    | zero => simp at e; subst e; exact ⟨a, rfl, h⟩
    | succ i => simpa using ih (by simpa using e)
/-! lawful grammars, plain -/
noncomputable def inB (y x : Str) : Bool := !(Builtin.Str.occurrences x y 0 x.length 1).isEmpty
noncomputable def symBad (s : Str) : Bool := s == "" || s == "$" || s == "->" || inB " " s || inB "\n" s
noncomputable def gok (g : Gram) : Bool := !g.isEmpty && g.all fun r => (r.1 :: r.2).all fun s => !symBad s
theorem gok_bad {g : Gram} {h s : Str} {bd : List Str} (hm : (h, bd) ∈ g) (hs : s ∈ h :: bd) (hb : symBad s = true) : gok g = false := by
  unfold gok
  rw [Bool.and_eq_false_iff]
  right
  rw [List.all_eq_false]
  refine ⟨(h, bd), hm, ?_⟩
  rw [Bool.not_eq_true, List.all_eq_false]
  exact ⟨s, hs, by simp [hb]⟩
theorem gok_good {g : Gram} (hne : g ≠ []) (hg : ∀ r ∈ g, ∀ s ∈ r.1 :: r.2, symBad s = false) : gok g = true := by
  unfold gok
  rw [Bool.and_eq_true]
  refine ⟨by cases g with | nil => exact absurd rfl hne | cons _ _ => rfl, ?_⟩
  rw [List.all_eq_true]
  intro r hr
  rw [List.all_eq_true]
  intro s hs
  simp [hg r hr s hs]
end Mine
end
section
set_option maxRecDepth 100000
set_option Elab.async false
set_option linter.unusedVariables false
namespace Mine
open PySem PySem.Spec PyProof.Rows
open PySem.W (hideAll hideAll_get of_hideAll hideAll_none)
/-! exceptions: what a raise leaves -/
/-- an exception class of the module's own -/
noncomputable def ClsOK (B : Heap) (c : Addr) : Prop := ∃ nm q N bs bm hdct sn sub ab col dd k0 k1 k2 k3 k5 Bn newId initId mN,
  B.get? c = some (excClassObj nm q c N bs bm hdct sn sub ab col dd k0 k1 k2 k3 k5 newId) ∧ B.Ns N mN ∧ mN "__init__" = none ∧ ExcBaseFacts Bn newId initId bm
noncomputable def frs (C : Cx) (outer : List Env) : List Addr := (C.env :: outer).filterMap (·.frame)
/-- the frames outside, in the heap -/
structure OutF (C : Cx) (outer : List Env) (H : HV) (h : Heap) : Prop where
  own : C.env.frame = some C.env.locals
  out : ∀ env ∈ outer, env.scope.kind ≠ .module ∧ ∃ L o es ep, env.frame = some L ∧ h.get? L = some o ∧ o.data = .dict es ep ∧ L < C.lo ∧ C.B.objs.size ≤ L ∧ H L = Option.none
section
variable {C : Cx} {outer : List Env} {ρ : EV} {H H' : HV} {s s' : Shared} {h : Heap} {A : Around}
theorem OutF.skp (x : OutF C outer H s.heap) (K : SKp C H H' s s') : OutF C outer H' s'.heap :=
  ⟨x.own, fun env he => let ⟨a, L, o, es, ep, b, c, d, e, f, g⟩ := x.out env he; ⟨a, L, o, es, ep, b, K.get L o c (tabl_dict d) (.inl e), d, e, f, K.gr L o c g⟩⟩
theorem OutF.frs_out (x : OutF C outer H h) {b : Addr} (hb : b ∈ frs C outer) : b = C.env.locals ∨ (b < C.lo ∧ C.B.objs.size ≤ b ∧ H b = Option.none ∧ ∃ o es ep, h.get? b = some o ∧ o.data = .dict es ep) := by
  obtain ⟨env, he, hf⟩ := List.mem_filterMap.mp hb
  rcases List.mem_cons.mp he with rfl | he
  · left; rw [x.own] at hf; exact (Option.some.inj hf).symm
  · right
    obtain ⟨_, L, o, es, ep, hL, ho, hd, hlt, hge, hn⟩ := x.out env he
    rw [hL] at hf; cases hf
    exact ⟨hlt, hge, hn, o, es, ep, ho, hd⟩
theorem funFrames_mk {as : List Addr} : ∀ {l : List Env}, (∀ env ∈ l, env.scope.kind ≠ .module ∧ ∃ L o, env.frame = some L ∧ L ∈ as ∧ h.get? L = some o ∧ ∀ vs, o.data ≠ .fields vs) → h.FunFrames (hideAll h as) l
  | [], _ => trivial
  | env :: l, x => by
    obtain ⟨a, L, o, b, c, d, e⟩ := x env (List.mem_cons_self ..)
    exact ⟨a, ⟨L, o, b, hideAll_none _ c, d, e⟩, funFrames_mk fun env' he => x env' (List.mem_cons_of_mem _ he)⟩
theorem OutF.ff (x : OutF C outer H h) (R : Rel C ρ H h) : h.FunFrames (hideAll h (frs C outer)) (C.env :: outer) := by
  refine funFrames_mk fun env he => ?_
  have hin : ∀ L, env.frame = some L → L ∈ frs C outer := fun L hL => List.mem_filterMap.mpr ⟨env, he, hL⟩
  rcases List.mem_cons.mp he with rfl | he
  · obtain ⟨m, ⟨o, es, ep, ho, hd, _⟩, _⟩ := R.loc
    exact ⟨by rw [R.eok.kind]; decide, _, o, x.own, hin _ x.own, ho, fun vs q => by rw [hd] at q; cases q⟩
  · obtain ⟨a, L, o, es, ep, b, c, d, _⟩ := x.out env he
    exact ⟨a, L, o, b, hin _ b, c, fun vs q => by rw [d] at q; cases q⟩
/-- the exception e, made or held, on its way through this activation -/
structure Thrown (c : Addr) (C : Cx) (outer : List Env) (sr : Shared) (ea : Addr) (s' : Shared) : Prop where
  os : s'.os = sr.os
  gens : s'.gens = sr.gens
  slots : sr.heap.UpToSlots s'.heap
  st : (∃ args, Heap.MadeExcOf sr.heap s'.heap ea (.ref c) args) ∨ ∃ a0, Heap.HeldW (hideAll sr.heap (frs C outer)) (C.env :: outer) ea (.ref c) a0 C.env.locals s'.heap
noncomputable def EDone (c : Addr) (C : Cx) (outer : List Env) (H : HV) (s : Shared) (X : Prop) (e : Value) (s' : Shared) : Prop :=
  ∃ sr ρ' H' ea, e = .ref ea ∧ SKp C H H' s sr ∧ Rel C ρ' H' sr.heap ∧ OutF C outer H' sr.heap ∧ X ∧ Thrown c C outer sr ea s'
theorem EDone.trans {c : Addr} {H₁ : HV} {s₁ : Shared} {X : Prop} {e : Value} (K : SKp C H H₁ s s₁) (d : EDone c C outer H₁ s₁ X e s') : EDone c C outer H s X e s' :=
  let ⟨sr, ρ', H', ea, a, b, r⟩ := d; ⟨sr, ρ', H', ea, a, K.trans b, r⟩
noncomputable def ExX (c : Addr) (C : Cx) (outer : List Env) (st : Stmt) (ρ : EV) (H : HV) (Q : Fl → EV → HV → Prop) (X : Prop) : Prop :=
  ∀ (A : Around) (s : Shared), Rm A C.k → A.frames = some (C.env :: outer) → OutF C outer H s.heap → Rel C ρ H s.heap → wpAny (model C.prog C.w) A (exec st C.env) (SDone C H s Q) (EDone c C outer H s X) s
noncomputable def ExsX (c : Addr) (C : Cx) (outer : List Env) (body : List Stmt) (ρ : EV) (H : HV) (Q : Fl → EV → HV → Prop) (X : Prop) : Prop :=
  ∀ (A : Around) (s : Shared), Rm A C.k → A.frames = some (C.env :: outer) → OutF C outer H s.heap → Rel C ρ H s.heap → wpAny (model C.prog C.w) A (execs body C.env) (SDone C H s Q) (EDone c C outer H s X) s
variable {c : Addr} {Q : Fl → EV → HV → Prop} {X : Prop}
theorem exX_of {st : Stmt} (h : Ex C st ρ H Q) : ExX c C outer st ρ H Q X := fun A s hA _ _ R => wpAny_mono (h A s hA R) (fun _ _ d => d) fun _ _ e => e.elim
theorem exsX_of {body : List Stmt} (h : Exs C body ρ H Q) : ExsX c C outer body ρ H Q X := fun A s hA _ _ R => wpAny_mono (h A s hA R) (fun _ _ d => d) fun _ _ e => e.elim
theorem exsX_cons {st : Stmt} {rest : List Stmt} (h : ExX c C outer st ρ H (fun fl ρ₁ H₁ => match fl with | .next => ExsX c C outer rest ρ₁ H₁ Q X | fl => Q fl ρ₁ H₁) X) : ExsX c C outer (st :: rest) ρ H Q X := by
  intro A s hA hf hO R
  refine wpAny_execs_cons (wpAny_mono (h A s hA hf hO R) (fun f s' hd => ?_) fun _ _ e => e)
  obtain ⟨fl, ρ', H', a, b, r, d⟩ := hd
  cases f <;> cases fl <;> first | exact absurd a (fun x => x) | skip
  · exact wpAny_mono (d A s' hA hf (hO.skp b) r) (fun _ _ d => d.trans b) fun _ _ e => e.trans b
  · exact ⟨.brk, ρ', H', a, b, r, d⟩
  · exact ⟨.cont, ρ', H', a, b, r, d⟩
  · exact ⟨.ret _, ρ', H', a, b, r, d⟩
theorem exX_If {test : Expr} {body orelse : List Stmt} {pos : Pos} (h : Tst C test ρ H fun b H₁ => if b = true then ExsX c C outer body ρ H₁ Q X else ExsX c C outer orelse ρ H₁ Q X) : ExX c C outer (.If test body orelse pos) ρ H Q X := by
  intro A s hA hf hO R
  refine wpAny_If (h.use hA R fun u v s₁ H₁ a K R₁ G q => ?_)
  cases (show u = v from a)
  have K' : SKp C H H₁ s s₁ := .of_kp K G
  cases u with
  | true => exact wpAny_mono (q A s₁ hA hf (hO.skp K') R₁) (fun _ _ d => d.trans K') fun _ _ e => e.trans K'
  | false => exact wpAny_mono (q A s₁ hA hf (hO.skp K') R₁) (fun _ _ d => d.trans K') fun _ _ e => e.trans K'
/-- raise X(text) -/
theorem exX_Raise {x : Str} {np cpos pos : Pos} {e : Expr} (CO : ClsOK C.B c) (g : GlobIs C x (.ref c)) (hk : C.nms.lookup x = some .globalImplicit) (hx : X) (h : TG C (fun (_ : Value) (_ : Unit) => True) (eval e C.env) ρ H fun _ _ => True)
    (hs : ∀ env, backTo cpos (starEach [e] env) = [(false, eval e env)] := by intro _; rfl) (hd : (x == ("__debug__" : Str)) = false := by decide) :
    ExX c C outer (.Raise (some (.Call (.Name x np) [e] [] cpos)) none pos) ρ H Q X := by
  intro A s hA hf hO R
  obtain ⟨nm, q, N, bs, bm, hdct, sn, sub, ab, col, dd, k0, k1, k2, k3, k5, Bn, newId, initId, mN, hC, hN, hni, F⟩ := CO
  refine wpAny_Raise_call_sub (C := c) (nm := nm) (q := q) (N := N) (bs := bs) (bm := bm) (hdct := hdct) (sn := sn) (sub := sub) (ab := ab) (col := col) (dd := dd) (k0 := k0) (k1 := k1) (k2 := k2) (k3 := k3) (k5 := k5) F hA.hd (by rw [hs]; rfl) hni (glob_load R g hk ⟨rfl, ?_⟩ hd)
  rw [hs]
  refine Calls.evalArgs_plain (Calls.spliced_cons (h.use hA R fun u v s₁ H₁ a K R₁ G q => Calls.spliced_nil ?_))
  have K' : SKp C H H₁ s s₁ := .of_kp K G
  refine ⟨rfl, (by decide : (1 : Nat) ≤ sizeLine), R₁.base _ _ hC (tabl_type rfl), ns_at hN (R₁.base _), fun h' e hm => ?_⟩
  exact ⟨s₁, ρ, H₁, e, rfl, K', R₁, hO.skp K', hx, rfl, rfl, .of_keeps hm.keeps, .inl ⟨_, hm⟩⟩
theorem made_base {sr : Shared} {s' : Shared} {ea : Addr} {args : List Value} (R : Rel C ρ H sr.heap) (hO : OutF C outer H sr.heap) (hm : Heap.MadeExcOf sr.heap s'.heap ea (.ref c) args) :
    (hideAll sr.heap (frs C outer)).StaysIn sr.heap ∧ sr.heap.FunFrames (hideAll sr.heap (frs C outer)) (C.env :: outer) ∧ (hideAll sr.heap (frs C outer)).get? ea = none := by
  refine ⟨fun b o e => of_hideAll _ e, hO.ff R, ?_⟩
  cases e : (hideAll sr.heap (frs C outer)).get? ea with
  | none => rfl
  | some o => have := of_hideAll _ e; rw [hm.new] at this; cases this
/-- noting the frame leaves the exception held -/
theorem note_held {sr : Shared} {ea : Addr} {P : Unit → Shared → Prop} {E : Value → Shared → Prop} (hf : A.frames = some (C.env :: outer)) (R : Rel C ρ H sr.heap) (hO : OutF C outer H sr.heap) (T : Thrown c C outer sr ea s')
    (q : ∀ h' a0, Heap.HeldW (hideAll sr.heap (frs C outer)) (C.env :: outer) ea (.ref c) a0 C.env.locals h' → sr.heap.UpToSlots h' → P () { s' with heap := h' }) :
    wpAny (model C.prog C.w) A (noteFrame (.ref ea) C.env) P E s' := by
  rcases T.st with ⟨args, hm⟩ | ⟨a0, hh⟩
  · obtain ⟨b1, b2, b3⟩ := made_base R hO hm
    obtain ⟨t, he, htn, ht⟩ := hm.there
    unfold noteFrame
    simp only [hO.own]
    refine wpAny_bind (wpAny_field he rfl rfl ?_)
    rw [if_neg (by simp)]
    refine wpAny_entryW (a0 := .ref t) (base := hideAll sr.heap (frs C outer)) hf (b2.of_keeps fun b o hb _ => ⟨o, hm.keeps b o hb, rfl⟩) hO.own he (fun b o hb => hm.keeps b o (b1 b o hb)) b3 rfl (by simp) rfl fun h' hN => ?_
    obtain ⟨k1, k2, k3, k4⟩ := hN
    exact q h' (.ref t) ⟨k1, b3, k2, k3⟩ (T.slots.trans k4)
  · exact wpAny_noteFrame_againW hO.own hh.2.2.2 (q s'.heap a0 hh T.slots)
/-- leaving the activation -/
theorem leave_fly {sr : Shared} {ea : Addr} {P : Unit → Shared → Prop} {E : Value → Shared → Prop} (hf : A.frames = some (C.env :: outer)) (R : Rel C ρ H sr.heap) (hO : OutF C outer H sr.heap) (T : Thrown c C outer sr ea s')
    (q : ∀ h' a0, Heap.FlyingW (hideAll sr.heap (frs C outer)) outer ea (.ref c) a0 h' → sr.heap.UpToSlots h' → P () { s' with heap := h' }) :
    wpAny (model C.prog C.w) A (leaving C.env (.ref ea)) P E s' := by
  rcases T.st with ⟨args, hm⟩ | ⟨a0, hh⟩
  · obtain ⟨b1, b2, b3⟩ := made_base R hO hm
    exact wpAny_leaves_madeW hf hO.own b1 b2 hm fun h' t k1 k2 k3 k4 => q h' _ k1 (T.slots.trans k4)
  · unfold leaving
    refine wpAny_bind (wpAny_noteFrame_againW hO.own hh.2.2.2 ?_)
    refine wpAny_landsW hh fun h' hfl k4 => ?_
    obtain ⟨k1, k2, ⟨_, _, k3⟩, k5⟩ := hfl
    exact q h' a0 ⟨k1, k2, k3, k5⟩ (T.slots.trans k4)
/-- behind a loop's own activation -/
theorem came_held {base : Heap} {l : List Env} {ea L : Addr} {a0 : Value} {env : Env} {E : Value → Shared → Prop} (hfr : env.frame = some L) (hh : Heap.HeldW base l ea (.ref c) a0 L s'.heap)
    (q : ∀ h', Heap.HeldW base l ea (.ref c) a0 L h' → s'.heap.UpToSlots h' → E (.ref ea) { s' with heap := h' }) : cameBackBy (model C.prog C.w) A env E (.ref ea) s' := by
  obtain ⟨hkb, hen, hl, oe, vs, T, oT, ts, he, hcls, hd, h1, hnT, hTe, hT, hdT, h3⟩ := hh
  have hsz3 : 3 < ts.size := (Array.getElem?_eq_some_iff.mp h3).1
  unfold cameBackBy
  refine wpAny_bind (wpAny_field he hd h1 ?_)
  rw [if_neg (show ¬ ((Value.ref T == Value.none) = true) from by simp)]
  unfold setFlight
  refine wpAny_bind (wpAny_field he hd h1 ?_)
  rw [if_pos (show (Value.ref T != Value.none) = true from by simp), hfr]
  have other : ∀ b, b ≠ T → (s'.heap.update T (Obj.mapFields (·.setIfInBounds 3 ((some L : Option Addr).elim Value.none fun f => rawInt f)))).get? b = s'.heap.get? b :=
    fun b hb => Heap.get?_update_other _ _ (Ne.symm hb)
  have noRecord : ∀ b o, s'.heap.get? b = some o → (∀ vs, o.data ≠ .fields vs) → b ≠ T := fun b o hb hnf q => by
    rw [q, hT] at hb; injection hb with hb; subst hb; exact hnf ts hdT
  refine wpAny_setField hT hdT hsz3 (q _ ⟨fun b o hbo => (other b fun q => by rw [q, hnT] at hbo; cases hbo).trans (hkb b o hbo), hen,
    (hl.of_keeps fun b o hb hnf => ⟨o, (other b (noRecord b o hb hnf)).trans hb, rfl⟩), ?_⟩ fun b o hb hnf => ⟨o.slots, (other b (noRecord b o hb hnf)).trans hb⟩)
  exact ⟨oe, vs, T, _, _, (other ea (Ne.symm hTe)).trans he, hcls, hd, h1, hnT, hTe, Heap.get?_update_self _ hT (Obj.isFreed_of_fields (Obj.data_mapFields hdT _)), Obj.data_mapFields hdT _, by simp [hsz3]⟩
end
end Mine
end
section
set_option maxRecDepth 100000
set_option Elab.async false
set_option linter.unusedVariables false
namespace Mine
open PySem PySem.Spec PyProof.Rows
open PySem.W (hideAll hideAll_get of_hideAll hideAll_none)
section
variable {C : Cx} {outer : List Env} {ρ : EV} {H H' : HV} {s s' : Shared} {h : Heap} {A : Around} {c : Addr} {Q : Fl → EV → HV → Prop} {X : Prop}
noncomputable def EHeld (c : Addr) (C : Cx) (outer : List Env) (H : HV) (s : Shared) (X : Prop) (e : Value) (s' : Shared) : Prop :=
  ∃ sr ρ' H' ea a0, e = .ref ea ∧ SKp C H H' s sr ∧ Rel C ρ' H' sr.heap ∧ OutF C outer H' sr.heap ∧ X ∧ s'.os = sr.os ∧ s'.gens = sr.gens ∧ sr.heap.UpToSlots s'.heap ∧
    Heap.HeldW (hideAll sr.heap (frs C outer)) (C.env :: outer) ea (.ref c) a0 C.env.locals s'.heap
/-- a for loop whose body may raise -/
theorem exX_For {x : Str} {p pos : Pos} {iter : Expr} {body : List Stmt} (hk : C.nms.lookup x = some .local ∨ C.nms.lookup x = some .cell)
    (h : Its C iter ρ H fun src H₁ => ∃ Inv : Nat → EV → HV → Prop, Inv 0 ρ H₁ ∧
      (∀ i v ρ' H', src.vals[i]? = some v → Inv i ρ' H' → src.Ok H' → ExsX c C outer body (put ρ' x v) H' (fun fl ρ₂ H₂ => match fl with
        | .next | .cont => Inv (i + 1) ρ₂ H₂ ∧ src.Ok H₂ | .brk => Q .next ρ₂ H₂ | .ret v => Q (.ret v) ρ₂ H₂) X) ∧
      (∀ ρ' H', Inv src.vals.length ρ' H' → src.Ok H' → Q .next ρ' H'))
    (hs : ∀ env x, foldedSetIterable iter env x = pure x := by intros; rfl) : ExX c C outer (.For (.Name x p) iter body [] pos) ρ H Q X := by
  intro A s hA hf hO R
  refine wpAny_For (wpAny_mono (h A s hA R) (fun u s₁ h₁ => wpAny_mono h₁ (fun it s₂ h₂ => ?_) fun _ _ e => e.elim) fun _ _ e => e.elim) (hs _)
  obtain ⟨I, src, H₁, rfl, hnew, hit, K, R₁, G, off, ok, Inv, inv0, turn, done⟩ := h₂
  refine codeAny_mono (R := fun r s' => match r with | .ok f => SDone C H s Q f s' | .error e => EHeld c C outer H s X e s') ?_ ?_
  · refine codeAny_forLoop (fun n s' => ∃ i ρ' H', i ≤ src.vals.length ∧ n = src.vals.length - i ∧ Inv i ρ' H' ∧ src.Ok H' ∧ ItIs s'.heap I i src ∧ SKp C H H' s s' ∧ Rel C ρ' H' s'.heap ∧ Off C H' I) ?_ (src.vals.length - 0)
      ⟨0, ρ, H₁, Nat.zero_le _, rfl, inv0, ok, hit, .of_kp K G, R₁, off⟩
    rintro n s₃ ⟨i, ρ', H', hi, rfl, inv, ok', hit', K', R', off'⟩
    by_cases hlt : i < src.vals.length
    · refine next_item R' ok' hit' (v := src.vals[i]) (by simp [hlt]) fun u h₄ t ha hit₄ hx₄ => ?_
      have K₄ := K'.skip (t := t) hnew hx₄
      have R₄ := R'.other off' hx₄
      refine wpAny_assign_Name (store_name hk (s := { s₃ with heap := h₄, toks := t }) R₄ ha fun s₅ K₅ R₅ => ?_)
      obtain ⟨oI, eI, tI⟩ := hit₄.there
      have hit₅ : ItIs s₅.heap I (i + 1) src := hit₄.at fun o e tb => K₅.get I o e tb (.inr ⟨off'.hi, off'.loc, off'.cel⟩)
      obtain ⟨oI₅, eI₅, tI₅⟩ := hit₅.there
      have K₄₅ := K₄.trans K₅
      refine wpAny_mono (turn i src.vals[i] ρ' H' (by simp [hlt]) inv ok' A s₅ hA hf (hO.skp K₄₅) R₅) (fun f s₆ d => ?_) (fun e s₆ d => ?_)
      · obtain ⟨fl, ρ₆, H₆, a, K₆, R₆, q⟩ := d
        have K₇ := K₄.trans (K₅.trans K₆)
        have hit₆ : ItIs s₆.heap I (i + 1) src := hit₅.at fun o e tb => K₆.get I o e tb (.inr ⟨off'.hi, off'.loc, off'.cel⟩)
        cases f <;> cases fl <;> first | exact absurd a (fun x => x) | skip
        · exact ⟨_, by omega, i + 1, ρ₆, H₆, hlt, rfl, q.1, q.2, hit₆, K₇, R₆, off'.gr eI₅ K₆.gr⟩
        · exact ⟨.next, ρ₆, H₆, trivial, K₇, R₆, q⟩
        · exact ⟨_, by omega, i + 1, ρ₆, H₆, hlt, rfl, q.1, q.2, hit₆, K₇, R₆, off'.gr eI₅ K₆.gr⟩
        · exact ⟨.ret _, ρ₆, H₆, a, K₇, R₆, q⟩
      · obtain ⟨sr, ρr, Hr, ea, rfl, Kr, Rr, Or, hx, T⟩ := d
        show wpAny _ _ (noteFrame (.ref ea) C.env) _ _ _
        exact note_held hf Rr Or T fun h' a0 hh sl => ⟨sr, ρr, Hr, ea, a0, rfl, K₄₅.trans Kr, Rr, Or, hx, T.os, T.gens, sl, hh⟩
    · have e : i = src.vals.length := by omega
      subst e
      refine next_end hA.hd R' ok' hit' fun h₄ hx₄ => wpAny_execs_nil ⟨.next, ρ', H', trivial, K'.skip (t := s₃.toks) hnew hx₄, R'.other off' hx₄, done ρ' H' inv ok'⟩
  · intro r s' d
    cases r with
    | ok f => exact d
    | error e =>
      obtain ⟨sr, ρr, Hr, ea, a0, rfl, Kr, Rr, Or, hx, os, gens, sl, hh⟩ := d
      exact came_held Or.own hh fun h' hh' sl' => ⟨sr, ρr, Hr, ea, rfl, Kr, Rr, Or, hx, os, gens, sl.trans sl', .inr ⟨a0, hh'⟩⟩
/-- the way into a call -/
theorem enter {fa : Addr} {params : List Str} {body : List Stmt} {nms : List (Str × NameKind)} {fd : FuncData} {vs : List V} {us : List Value} {P : Value → Shared → Prop} {E : Value → Shared → Prop} (F : Fn C fa params body nms fd) (lim : C.B.NoLimit) (hv : ValsAre us vs) (hlen : vs.length = params.length)
    (hA : Rm A C.k) (hk : 0 < C.k) (R : Rel C ρ H s.heap)
    (h : ∀ s₁, (∀ b o, s.heap.get? b = some o → s₁.heap.get? b = some o) → s₁.os = s.os → s₁.gens = s.gens → (∀ a, (H a).isSome = true → a < s.heap.objs.size) →
      Rel (C.into (callEnvC fd s.heap.objs.size fa) s.heap.objs.size nms) (argsV params vs) H s₁.heap →
      wpAny (model C.prog C.w) (A.deeper (callEnvC fd s.heap.objs.size fa)) (execs body (callEnvC fd s.heap.objs.size fa)) (fun f s' => P (match f with | .ret v => v | _ => .none) s')
        (fun e s' => wpAny (model C.prog C.w) (A.deeper (callEnvC fd s.heap.objs.size fa)) (leaving (callEnvC fd s.heap.objs.size fa) e) (fun _ s'' => E e s'') (fun e' s'' => E e' s'') s') s₁) :
    wpAny (model C.prog C.w) A (call (.ref fa) us) P E s := by
  obtain ⟨o, ho, hdat⟩ := F.obj
  have hul : us.length = params.length := hv.length.trans hlen
  have hrec : s.heap.CodeRec fd.code fd.qualname := by
    obtain ⟨c, oc, vs', t, n, e1, e2, e3, e4, e5⟩ := F.crec
    exact ⟨c, oc, vs', t, e1, R.base _ _ e2 (tabl_type e3), e4, e5⟩
  have hlim : s.heap.NoLimit := by
    obtain ⟨mc, hn, e⟩ := lim
    exact ⟨mc, ns_at hn (R.base _), e⟩
  have hkinds : ∀ x ∈ params.zip us, fd.scope.names.lookup x.1 = some .local ∨ (fd.scope.names.lookup x.1 = some .cell ∧ ((cellsFrom (s.heap.objs.size + 1) fd.scope.names []).lookup x.1).isSome = true) := by
    intro x hx
    have hm := F.pk x.1 (List.of_mem_zip hx).1
    rw [F.names]
    rcases hm with q | q
    · exact .inl q
    · exact .inr ⟨q, hasCell _ _ _ (.inl q)⟩
  refine wpAny_call (codeAny_call_cells (by have := hA.dp; show A.depth < 1000; omega) (R.base _ _ ho (tabl_func hdat)) hdat hlim hrec F.body (F.binds us hul) F.clo hkinds (fun s₁ X => ?_) F.co F.gen F.kind)
  have hlo : C.lo ≤ s.heap.objs.size := R.lo_size
  have hdom : ∀ a, (H a).isSome = true → a < s.heap.objs.size := fun a e => by
    obtain ⟨o, eo⟩ := Option.isSome_iff_exists.mp e
    obtain ⟨ob, e'⟩ := (R.view a o eo).there
    exact Heap.lt_size e'
  have hko : ∀ x, (callEnvC fd s.heap.objs.size fa).kindOf x = nms.lookup x := fun x => by show fd.scope.names.lookup x = _; rw [F.names]
  obtain ⟨ρ₁, e₁, g1, g2⟩ := zip_vals params us vs hv hul (callEnvC fd s.heap.objs.size fa).kindOf (fun _ => Option.none) (fun _ => Option.none) (fun _ => Option.none) (fun x hx => by rw [hko]; exact F.pk x hx) (fun _ _ _ e => by cases e) (fun _ _ _ e => by cases e)
  have eρ : argsV params vs = ρ₁ := funext fun x => by rw [e₁ x]; simp [argsV]
  have keep := X.toInCall.keep
  have dom₁ : ∀ x v, ρ₁ x = some v → nms.lookup x = some .local ∨ nms.lookup x = some .cell ∨ nms.lookup x = some .free := fun x v e => by
    rw [e₁ x] at e
    simp only [Option.or_none] at e
    have hm : (x, v) ∈ params.zip vs := by
      have := mem_of_lookup e
      exact List.mem_reverse.mp this
    rcases F.pk x (List.of_mem_zip hm).1 with q | q
    · exact .inl q
    · exact .inr (.inl q)
  have R₁ : Rel (C.into (callEnvC fd s.heap.objs.size fa) s.heap.objs.size nms) (argsV params vs) H s₁.heap := by
    rw [eρ]
    refine ⟨⟨F.kind, F.glob, F.bui, F.names⟩, fun b o e t => keep _ _ (R.base b o e t), R.old.step_keeps keep, Nat.le_trans R.blo hlo, fun a o e => (R.view a o e).at fun _ e' _ => keep _ _ e', dom₁, ⟨_, X.toInCall.ns, fun x v hx e => g1 x v (by rw [hko]; exact hx) e⟩, fun x hx => ?_, fun x y c h h' => name_of_addr X.apart h h', fun x c hm => ?_, ?_, Nat.le_refl _, ⟨R.sysm.1, ?_⟩, R.code.trans (.of_keep keep)⟩
    · have hx' : nms.lookup x = some .cell ∨ nms.lookup x = some .free := hx
      rcases hx' with hx' | hx'
      · have hsome : ((cellsFrom (s.heap.objs.size + 1) fd.scope.names []).lookup x).isSome = true := hasCell _ _ _ (.inl (by rw [F.names]; exact hx'))
        obtain ⟨c, hc⟩ := Option.isSome_iff_exists.mp hsome
        refine ⟨c, _, hc, X.cell x c hc, fun v e => ?_⟩
        exact g2 x v (by rw [hko]; exact hx') e
      · exact absurd hx' (F.nofree x)
    · have hgt := X.above x c hm
      have hgt' : s.heap.objs.size < c := hgt
      refine ⟨Nat.ne_of_gt hgt, Nat.le_of_lt hgt', ?_, ?_⟩
      · cases e : H c with
        | none => rfl
        | some o => exact absurd (hdom c (by rw [e]; rfl)) (Nat.not_lt.mpr (Nat.le_of_lt hgt'))
      · have hnd : ((cellsFrom (s.heap.objs.size + 1) fd.scope.names []).map (·.1)).Nodup := by
          rw [F.names, cellsFrom_names nms (s.heap.objs.size + 1) 0 [] [] rfl]; exact F.nd
        obtain ⟨o, e, _⟩ := X.cell x c (lookup_of_mem_nodup hnd hm)
        exact ⟨o, e⟩
    · exact R.new
    · obtain ⟨_, o, e⟩ := R.sysm
      exact ⟨o, keep _ _ e⟩
  obtain ⟨h₁, t₁, e₁, _⟩ := X.toInCall.done
  exact h s₁ keep (by rw [e₁]) (by rw [e₁]) hdom R₁
end
end Mine
end
section
set_option maxRecDepth 100000
set_option Elab.async false
set_option linter.unusedVariables false
namespace Mine
open PySem PySem.Spec PyProof.Rows
open PySem.W (hideAll hideAll_get of_hideAll hideAll_none)
theorem oldK_lt {h₀ h h' : Heap} (K : OldK h₀ h) (hx : ∀ b o, b < h₀.objs.size → h.get? b = some o → h'.get? b = some o) : OldK h₀ h' := by
  have lt : ∀ b o, h₀.get? b = some o → b < h₀.objs.size := fun b o e => Heap.lt_size e
  refine ⟨fun b o e => ?_, fun b o e => let ⟨o', ho'⟩ := K.there b o e; ⟨o', hx b _ (lt b o e) ho'⟩⟩
  rcases K.old b o e with x | ⟨t, hc, vs, more, hv, x⟩ | ⟨rfl, hc, ⟨o', es, n, ho', r⟩, z⟩
  · exact .inl (hx _ _ (lt b o e) x)
  · exact .inr (.inl ⟨t, hc, vs, more, hv, hx _ _ (lt b o e) x⟩)
  · exact .inr (.inr ⟨rfl, hc, ⟨o', es, n, hx _ _ (lt _ o e) ho', r⟩, fun key => by rw [OldK.staticOf_congr ((hx _ _ (lt _ o e) ho').trans ho'.symm) key]; exact z key⟩)
theorem tabl_nf {o : Obj} (h : ∀ vs, o.data ≠ .fields vs) : tabl o = false := by
  obtain ⟨c, d, dt, sl⟩ := o
  unfold tabl
  cases c <;> cases dt <;> first | rfl | exact absurd rfl (h _)
section
variable {C : Cx} {outer : List Env} {ρ : EV} {H H' : HV} {s s' : Shared} {h h' : Heap} {A : Around} {c : Addr}
/-- the abstract state goes on where all but some frames stays -/
theorem Rel.stepF {S : List Addr} (R : Rel C ρ H h) (hS : ∀ b ∈ S, C.B.objs.size ≤ b ∧ ∀ x, (x, b) ∉ C.env.cells) (k : ∀ b o, h.get? b = some o → tabl o = false → b ∉ S → h'.get? b = some o) (kl : ∀ m, h.Ns C.env.locals m → h'.Ns C.env.locals m)
    (th : ∀ b o, h.get? b = some o → ∃ o', h'.get? b = some o') (old : OldK C.B h') (tb : TabK h h') (v : ∀ a o, H' a = some o → ObjIs C.prog C.w h' a o) (g : Gr H H' h) : Rel C ρ H' h' := by
  obtain ⟨m, hn, hm⟩ := R.loc
  refine ⟨R.eok, fun b o e t => k _ _ (R.base b o e t) t fun hb => absurd (Heap.lt_size e) (Nat.not_lt.mpr (hS b hb).1), old, R.blo, v, R.dom, ⟨m, kl m hn, hm⟩, fun x hx => ?_, R.apart, fun x c hm => ?_, ?_, R.lloc, ?_, R.code.trans tb⟩
  · obtain ⟨c, u, a1, a2, a3⟩ := R.cel x hx
    obtain ⟨o, e, d⟩ := a2
    exact ⟨c, u, a1, ⟨o, k _ _ e (tabl_cell d) fun hb => (hS c hb).2 x (mem_of_lookup a1), d⟩, a3⟩
  · obtain ⟨h1, h2, h3, o, h4⟩ := R.cloc x c hm
    exact ⟨h1, h2, g c o h4 h3, th _ _ h4⟩
  · obtain ⟨o, _, _, ho, _⟩ := hn
    exact g _ o ho R.hloc
  · obtain ⟨h1, o, h2⟩ := R.sysm
    exact ⟨g _ o h2 h1, th _ _ h2⟩
theorem frs_ok (R : Rel C ρ H h) (hO : OutF C outer H h) : ∀ b ∈ frs C outer, C.B.objs.size ≤ b ∧ (∀ x, (x, b) ∉ C.env.cells) ∧ H b = Option.none ∧ ∃ o es ep, h.get? b = some o ∧ o.data = .dict es ep := by
  intro b hb
  rcases hO.frs_out hb with rfl | ⟨h1, h2, h3, h4⟩
  · obtain ⟨m, ⟨o, es, ep, ho, hd, _⟩, _⟩ := R.loc
    exact ⟨Nat.le_trans R.blo R.lloc, fun x hx => (R.cloc x _ hx).1 rfl, R.hloc, o, es, ep, ho, hd⟩
  · exact ⟨h2, fun x hx => absurd (R.cloc x _ hx).2.1 (Nat.not_le.mpr h1), h3, h4⟩
/-- the exception has left the callee -/
structure Fly (c : Addr) (C : Cx) (outer : List Env) (s : Shared) (base : Heap) (ea : Addr) (s' : Shared) : Prop where
  os : s'.os = s.os
  gens : GB s.gens s'.gens
  slots : s.heap.UpToSlots s'.heap
  get : ∀ b o, s.heap.get? b = some o → tabl o = false → b ∉ frs C outer → base.get? b = some o
  there : ∀ b o, s.heap.get? b = some o → b ∉ frs C outer → ∃ o', base.get? b = some o'
  tab : TabK s.heap base
  old : OldK C.B base
  fly : ∃ a0, Heap.FlyingW base (C.env :: outer) ea (.ref c) a0 s'.heap
noncomputable def FCallX (c : Addr) (C : Cx) (outer : List Env) (params : List Str) (body : List Stmt) (nms : List (Str × NameKind)) (vs : List V) (H : HV) (Q : V → HV → Prop) (X : Prop) : Prop :=
  0 < C.k ∧ vs.length = params.length ∧ ∀ env lo, C.lo ≤ lo → (∀ a, (H a).isSome = true → a < lo) → ExsX c (C.into env lo nms) (C.env :: outer) body (argsV params vs) H (fun fl _ H' => Q (retOf fl) H') X
theorem OutF.into {fd : FuncData} {fa : Addr} {nms : List (Str × NameKind)} {s₁ : Shared} (R : Rel C ρ H s.heap) (hO : OutF C outer H s.heap) (keep : ∀ b o, s.heap.get? b = some o → s₁.heap.get? b = some o) :
    OutF (C.into (callEnvC fd s.heap.objs.size fa) s.heap.objs.size nms) (C.env :: outer) H s₁.heap := by
  refine ⟨rfl, fun env he => ?_⟩
  rcases List.mem_cons.mp he with rfl | he
  · obtain ⟨m, ⟨o, es, ep, ho, hd, _⟩, _⟩ := R.loc
    exact ⟨by rw [R.eok.kind]; decide, _, o, es, ep, hO.own, keep _ _ ho, hd, Heap.lt_size ho, Nat.le_trans R.blo R.lloc, R.hloc⟩
  · obtain ⟨a, L, o, es, ep, b, c, d, e, f, g⟩ := hO.out env he
    exact ⟨a, L, o, es, ep, b, keep _ _ c, d, Heap.lt_size c, f, g⟩
theorem callX {fa : Addr} {params : List Str} {body : List Stmt} {nms : List (Str × NameKind)} {fd : FuncData} {vs : List V} {us : List Value} {Q : V → HV → Prop} {X : Prop} (F : Fn C fa params body nms fd) (lim : C.B.NoLimit) (hv : ValsAre us vs)
    (h : FCallX c C outer params body nms vs H Q X) (hA : Rm A C.k) (hf : A.frames = some (C.env :: outer)) (hO : OutF C outer H s.heap) (R : Rel C ρ H s.heap) :
    wpAny (model C.prog C.w) A (call (.ref fa) us) (Done C isV ρ H s Q) (fun e s' => ∃ ea base, e = .ref ea ∧ X ∧ Fly c C outer s base ea s') s := by
  obtain ⟨hk, hlen, h⟩ := h
  refine enter F lim hv hlen hA hk R fun s₁ keep os gens hdom R₁ => ?_
  have hf' : (A.deeper (callEnvC fd s.heap.objs.size fa)).frames = some (callEnvC fd s.heap.objs.size fa :: C.env :: outer) := Around.frames_deeper hf
  have hO' := OutF.into (fd := fd) (fa := fa) (nms := nms) R hO keep
  refine wpAny_mono (h _ _ R.lo_size hdom _ s₁ (hA.deeper hk _) hf' hO' R₁) (fun f s' d => ?_) (fun e s' d => ?_)
  · obtain ⟨fl, ρ', H', a, K, R', q⟩ := d
    have kp : Kp s s' := ⟨fun b o e t => K.get b o (keep _ _ e) t (.inl (Heap.lt_size e)), fun b o e => K.there b o (keep _ _ e), K.os.trans os, (by have := K.gens; rw [gens] at this; exact this), (TabK.of_keep keep).trans K.tab⟩
    have gr : Gr H H' s.heap := fun b o e n => K.gr b o (keep _ _ e) n
    have fin : ∀ u, absV u = some (retOf fl) → Done C isV ρ H s Q u s' := fun u e => ⟨retOf fl, H', e, kp, R.stepT kp.get kp.there R'.old kp.tab R'.view gr, gr, q⟩
    cases f <;> cases fl <;> first | exact absurd a (fun x => x) | exact fin _ a | exact fin _ rfl
  · obtain ⟨sr, ρr, Hr, ea, rfl, K, Rr, Or, hx, T⟩ := d
    refine leave_fly hf' Rr Or T fun h' a0 fl sl => ⟨ea, hideAll sr.heap (frs (C.into (callEnvC fd s.heap.objs.size fa) s.heap.objs.size nms) (C.env :: outer)), rfl, hx, ?_⟩
    have fr := frs_ok Rr Or
    have out : ∀ b o, s.heap.get? b = some o → b ∉ frs C outer → b ∉ frs (C.into (callEnvC fd s.heap.objs.size fa) s.heap.objs.size nms) (C.env :: outer) := fun b o e hb hm => by
      have hm : b ∈ (callEnvC fd s.heap.objs.size fa :: C.env :: outer).filterMap (·.frame) := hm
      rw [List.filterMap_cons] at hm
      have hm : b ∈ s.heap.objs.size :: (C.env :: outer).filterMap (·.frame) := hm
      rcases List.mem_cons.mp hm with rfl | hm
      · exact absurd (Heap.lt_size e) (Nat.lt_irrefl _)
      · exact hb hm
    refine ⟨T.os.trans (K.os.trans os), ?_, ?_, fun b o e t hb => ?_, fun b o e hb => ?_, ?_, ?_, a0, fl⟩
    · have := K.gens
      rw [gens] at this
      show GB s.gens s'.gens
      rw [T.gens]; exact this
    · intro b o e nf
      exact sl b o (K.get b o (keep _ _ e) (tabl_nf nf) (.inl (Heap.lt_size e))) nf
    · exact hideAll_get _ (K.get b o (keep _ _ e) t (.inl (Heap.lt_size e))) (out b o e hb)
    · obtain ⟨o', e'⟩ := K.there b o (keep _ _ e)
      exact ⟨o', hideAll_get _ e' (out b o e hb)⟩
    · intro c P ps x
      obtain ⟨ps', y⟩ := (TabK.of_keep keep).trans K.tab c P ps x
      obtain ⟨⟨o, vs, e, d⟩, o', vs', e', d'⟩ := isCode_there y
      have nin : ∀ b o vs, sr.heap.get? b = some o → o.data = .fields vs → b ∉ frs (C.into (callEnvC fd s.heap.objs.size fa) s.heap.objs.size nms) (C.env :: outer) := fun b o vs e d hb => by
        obtain ⟨_, _, _, o', es, ep, e', d'⟩ := fr b hb
        rw [e] at e'; cases e'; rw [d] at d'; cases d'
      exact ⟨ps', isCode_at y (fun o₁ e₁ => hideAll_get _ e₁ (nin _ _ _ e d)) fun o₁ e₁ => hideAll_get _ e₁ (nin _ _ _ e' d')⟩
    · exact oldK_lt Rr.old fun b o lt e => hideAll_get _ e fun hb => absurd lt (Nat.not_lt.mpr (fr b hb).1)
end
end Mine
end
section
set_option maxRecDepth 100000
set_option Elab.async false
set_option linter.unusedVariables false
namespace Mine
open PySem PySem.Spec PyProof.Rows
section
variable {C : Cx} {outer : List Env} {ρ : EV} {H H' : HV} {s s' : Shared} {h h' : Heap} {A : Around} {c : Addr}
/-- what an activation in which an exception was caught leaves as it was -/
structure SKpF (C : Cx) (outer : List Env) (H H' : HV) (s s' : Shared) : Prop where
  get : ∀ b o, s.heap.get? b = some o → tabl o = false → (b < C.lo ∨ (H b = Option.none ∧ b ≠ C.env.locals ∧ ∀ x, (x, b) ∉ C.env.cells)) → b ∉ frs C outer → s'.heap.get? b = some o
  slots : ∀ b o, s.heap.get? b = some o → (∀ vs, o.data ≠ .fields vs) → b < C.lo → ∃ sl, s'.heap.get? b = some { o with slots := sl }
  there : ∀ b o, s.heap.get? b = some o → ∃ o', s'.heap.get? b = some o'
  gr : Gr H H' s.heap
  os : s'.os = s.os
  gens : GB s.gens s'.gens
  tab : TabK s.heap s'.heap
theorem SKp.toF (K : SKp C H H' s s') : SKpF C outer H H' s s' :=
  ⟨fun b o e t c _ => K.get b o e t c, fun b o e nf lt => ⟨o.slots, K.get b o e (tabl_nf nf) (.inl lt)⟩, K.there, K.gr, K.os, K.gens, K.tab⟩
theorem SKpF.trans {H₁ H₂ : HV} {s₁ s₂ : Shared} (a : SKpF C outer H H₁ s s₁) (b : SKpF C outer H₁ H₂ s₁ s₂) : SKpF C outer H H₂ s s₂ :=
  ⟨fun x o e t c n => b.get x o (a.get x o e t c n) t (c.imp (fun h => h) fun ⟨h1, h2⟩ => ⟨a.gr x o e h1, h2⟩) n,
    fun x o e nf lt => let ⟨sl, e'⟩ := a.slots x o e nf lt; let ⟨sl', e''⟩ := b.slots x _ e' nf lt; ⟨sl', e''⟩,
    fun x o e => let ⟨o', e'⟩ := a.there x o e; b.there x o' e', a.gr.trans a.there b.gr, b.os.trans a.os, a.gens.trans b.gens, a.tab.trans b.tab⟩
noncomputable def FDone (C : Cx) (outer : List Env) (H : HV) (s : Shared) (Q : Fl → EV → HV → Prop) (f : Flow) (s' : Shared) : Prop :=
  ∃ fl ρ' H', isFl f fl ∧ SKpF C outer H H' s s' ∧ Rel C ρ' H' s'.heap ∧ OutF C outer H' s'.heap ∧ Q fl ρ' H'
noncomputable def ExsF (C : Cx) (outer : List Env) (body : List Stmt) (ρ : EV) (H : HV) (Q : Fl → EV → HV → Prop) : Prop :=
  ∀ (A : Around) (s : Shared), Rm A C.k → A.frames = some (C.env :: outer) → OutF C outer H s.heap → Rel C ρ H s.heap → wpAny (model C.prog C.w) A (execs body C.env) (FDone C outer H s Q) nay s
variable {Q : Fl → EV → HV → Prop}
theorem exsF_of {body : List Stmt} (h : Exs C body ρ H Q) : ExsF C outer body ρ H Q := fun A s hA hf hO R =>
  wpAny_mono (h A s hA R) (fun f s' ⟨fl, ρ', H', a, b, r, q⟩ => ⟨fl, ρ', H', a, b.toF, r, hO.skp b, q⟩) fun _ _ e => e
theorem exsF_cons {st : Stmt} {rest : List Stmt} (h : Ex C st ρ H fun fl ρ₁ H₁ => match fl with | .next => ExsF C outer rest ρ₁ H₁ Q | fl => Q fl ρ₁ H₁) : ExsF C outer (st :: rest) ρ H Q := by
  intro A s hA hf hO R
  refine wpAny_execs_cons (wpAny_mono (h A s hA R) (fun f s' hd => ?_) fun _ _ e => e)
  obtain ⟨fl, ρ', H', a, b, r, d⟩ := hd
  cases f <;> cases fl <;> first | exact absurd a (fun x => x) | skip
  · exact wpAny_mono (d A s' hA hf (hO.skp b) r) (fun _ _ ⟨fl, ρ', H', a', b', r', o', q'⟩ => ⟨fl, ρ', H', a', b.toF.trans b', r', o', q'⟩) fun _ _ e => e
  · exact ⟨.brk, ρ', H', a, b.toF, r, hO.skp b, d⟩
  · exact ⟨.cont, ρ', H', a, b.toF, r, hO.skp b, d⟩
  · exact ⟨.ret _, ρ', H', a, b.toF, r, hO.skp b, d⟩
/-- where the exception has landed -/
theorem fly_lands {base : Heap} {ea : Addr} {h' : Heap} {a0 : Value} (R : Rel C ρ H s.heap) (hO : OutF C outer H s.heap) (F : Fly c C outer s base ea s') (fl : Heap.FlyingW base (C.env :: outer) ea (.ref c) a0 h') (sl : s.heap.UpToSlots h') {t : Nat} :
    SKpF C outer H H s { s' with heap := h', toks := t } ∧ Rel C ρ H h' ∧ OutF C outer H h' := by
  have fr := frs_ok R hO
  have get : ∀ b o, s.heap.get? b = some o → tabl o = false → b ∉ frs C outer → h'.get? b = some o := fun b o e tb n => fl.1 _ _ (F.get b o e tb n)
  have th : ∀ b o, s.heap.get? b = some o → ∃ o', h'.get? b = some o' := fun b o e => by
    by_cases hb : b ∈ frs C outer
    · obtain ⟨_, _, _, o', es, ep, e', d⟩ := fr b hb
      obtain ⟨sl', e''⟩ := sl b o' e' fun vs q => by rw [d] at q; cases q
      exact ⟨_, e''⟩
    · obtain ⟨o', e'⟩ := F.there b o e hb
      exact ⟨o', fl.1 _ _ e'⟩
  have tab : TabK s.heap h' := F.tab.trans (.of_keep fl.1)
  have nin : ∀ a o, H a = some o → a ∉ frs C outer := fun a o e hb => by rw [(fr a hb).2.2.1] at e; cases e
  refine ⟨⟨fun b o e tb _ n => get b o e tb n, fun b o e nf _ => sl b o e nf, th, Gr.refl _ _, F.os, F.gens, tab⟩, ?_, hO.own, fun env he => ?_⟩
  · exact R.stepF (S := frs C outer) (fun b hb => ⟨(fr b hb).1, (fr b hb).2.1⟩) get (fun m hn => sl.ns hn) th (F.old.step_keeps fl.1) tab (fun a o e => (R.view a o e).at fun ob e' tb => get a ob e' tb (nin a o e)) (Gr.refl _ _)
  · obtain ⟨a, L, o, es, ep, b, c, d, e, f, g⟩ := hO.out env he
    obtain ⟨sl', e'⟩ := sl L o c fun vs q => by rw [d] at q; cases q
    exact ⟨a, L, _, es, ep, b, e', d, e, f, g⟩
/-- try: x = f(e), except a class of the module's own: pass -/
theorem exsF_Try {x f : Str} {xn : Str} {p fp cpos apos np pp hpos pos : Pos} {e : Expr} {rest : List Stmt} {fa : Addr} {params : List Str} {body : List Stmt} {nms : List (Str × NameKind)} {fd : FuncData} {X : Prop}
    (F : Fn C fa params body nms fd) (lim : C.B.NoLimit) (gf : GlobIs C f (.ref fa)) (kf : C.nms.lookup f = some .globalImplicit) (kx : C.nms.lookup x = some .local ∨ C.nms.lookup x = some .cell) (CO : ClsOK C.B c) (gc : GlobIs C xn (.ref c)) (kc : C.nms.lookup xn = some .globalImplicit)
    (h : Ev C e ρ H fun v H₁ => FCallX c C outer params body nms [v] H₁ (fun u H₂ => ExsF C outer rest (put ρ x u) H₂ Q) X ∧ (X → ExsF C outer rest ρ H₁ Q))
    (hs : ∀ env, starEach [e] env = [(false, eval e env)] := by intro _; rfl) (hp : ∀ env, (backTo cpos (starEach [e] env)) = [(false, eval e env)] := by intro _; rfl)
    (hd : (f == ("__debug__" : Str)) = false := by decide) (hdx : (xn == ("__debug__" : Str)) = false := by decide)
    (hw : ∀ env, swapsWith (.Call (.Name f fp) [e] [] cpos) (some (.Name x p)) apos.line env = pure false := by intro _; rfl) :
    ExsF C outer (.Try [.Assign [.Name x p] (.Call (.Name f fp) [e] [] cpos) apos] [.ExceptHandler (some (.Name xn np)) none [.Pass pp] hpos] [] [] pos :: rest) ρ H Q := by
  intro A s hA hf hO R
  refine wpAny_execs_cons (wpAny_Try_except (wpAny_execs_cons (wpAny_Assign_Name (wpAny_Call_NameR (glob_load R gf kf ?_ hd)) (hw _))))
  obtain ⟨o, ho, hdat⟩ := F.obj
  rw [hp]
  refine Calls.callWith_function (o := o) (fd := fd) (Calls.evalArgs_plain (Calls.spliced_cons (h.use hA R fun u v s₁ H₁ a K R₁ G q => Calls.spliced_nil ⟨⟨R₁.base _ _ ho (tabl_func hdat), hdat⟩, ?_⟩)))
  have K₁ : SKp C H H₁ s s₁ := .of_kp K G
  have hO₁ := hO.skp K₁
  refine wpAny_mono (callX F lim (.cons a .nil) q.1 hA hf hO₁ R₁) (fun u₂ s₂ d => ?_) (fun ev s₂ d => ?_)
  · obtain ⟨v₂, H₂, a₂, K₂, R₂, G₂, q₂⟩ := d
    refine store_name kx R₂ a₂ fun s₃ K₃ R₃ => wpAny_execs_nil (wpAny_execs_nil ?_)
    have K' := K₁.trans ((SKp.of_kp K₂ G₂).trans K₃)
    exact wpAny_mono (q₂ A s₃ hA hf (hO.skp K') R₃) (fun _ _ ⟨fl, ρ', H', a', b', r', o', q'⟩ => ⟨fl, ρ', H', a', K'.toF.trans b', r', o', q'⟩) fun _ _ e => e
  · obtain ⟨ea, base, rfl, hx, Fl⟩ := d
    obtain ⟨a0, fl⟩ := Fl.fly
    refine wpAny_looks_onW hf hO.own fl fun h₃ hh₃ sl₃ => ?_
    refine wpAny_landsW hh₃ fun h₄ fl₄ sl₄ => ?_
    obtain ⟨K₄, R₄, O₄⟩ := fly_lands (t := s₂.toks) R₁ hO₁ Fl fl₄ ((Fl.slots.trans sl₃).trans sl₄)
    obtain ⟨ob, hob, hobc⟩ := fl₄.there
    obtain ⟨nm, qn, N, bs, bm, hdct, sn, sub, ab, col, dd, k0, k1, k2, k3, k5, Bn, newId, initId, mN, hC, hN, hni, FB⟩ := CO
    refine wpAny_handleBy_cons (codeAny_handlers_test (glob_load (s := { s₂ with heap := h₄ }) R₄ gc kc ?_ hdx)) (by intro q; cases q)
    refine wpAny_excMatches_sub_self (R₄.base _ _ hC (tabl_type rfl)) hob hobc FB.hasBase ?_
    refine codeAny_handlers_suite (lands_againW (s := { s₂ with heap := h₄ }) fl₄ fun h₅ fl₅ sl₅ => ?_)
    obtain ⟨K₅, R₅, O₅⟩ := fly_lands (t := s₂.toks) R₁ hO₁ Fl fl₅ (((Fl.slots.trans sl₃).trans sl₄).trans sl₅)
    refine wpAny_execs_cons (wpAny_Pass (wpAny_execs_nil ?_))
    exact wpAny_mono ((q.2 hx) A { s₂ with heap := h₅ } hA hf O₅ R₅) (fun _ _ ⟨fl, ρ', H', a', b', r', o', q'⟩ => ⟨fl, ρ', H', a', (K₁.toF.trans K₅).trans b', r', o', q'⟩) fun _ _ e => e
end
end Mine
end
section
set_option maxRecDepth 100000
set_option Elab.async false
set_option linter.unusedVariables false
namespace Mine
open PySem PySem.Spec PyProof.Rows
open PySem.W (Frag Frag.In nsIn mg_of mg_none_of GoodWG ClaimW WData ReadsW Well WellAll ofPy)
/-- the law's own body, called from nowhere -/
noncomputable def Exs0 (C : Cx) (body : List Stmt) (ρ : EV) (H : HV) (Q : Fl → EV → HV → Prop) : Prop :=
  ∀ (A : Around) (s : Shared), Rm A C.k → A.frames = some [C.env] → OutF C [] H s.heap → Rel C ρ H s.heap → wpAny (model C.prog C.w) A (execs body C.env) (SDone C H s Q) nay s
noncomputable def FCallF (C : Cx) (outer : List Env) (params : List Str) (body : List Stmt) (nms : List (Str × NameKind)) (vs : List V) (H : HV) (Q : V → HV → Prop) : Prop :=
  0 < C.k ∧ vs.length = params.length ∧ ∀ env lo, C.lo ≤ lo → (∀ a, (H a).isSome = true → a < lo) → ExsF (C.into env lo nms) (C.env :: outer) body (argsV params vs) H fun fl _ H' => Q (retOf fl) H'
section
variable {C : Cx} {ρ : EV} {H H' : HV} {s s' : Shared} {h h' : Heap} {A : Around} {Q : Fl → EV → HV → Prop}
theorem exs0_of {body : List Stmt} (h : Exs C body ρ H Q) : Exs0 C body ρ H Q := fun A s hA _ _ R => h A s hA R
theorem exs0_cons {st : Stmt} {rest : List Stmt} (h : Ex C st ρ H fun fl ρ₁ H₁ => match fl with | .next => Exs0 C rest ρ₁ H₁ Q | fl => Q fl ρ₁ H₁) : Exs0 C (st :: rest) ρ H Q := by
  intro A s hA hf hO R
  refine wpAny_execs_cons (wpAny_mono (h A s hA R) (fun f s' hd => ?_) fun _ _ e => e)
  obtain ⟨fl, ρ', H', a, b, r, d⟩ := hd
  cases f <;> cases fl <;> first | exact absurd a (fun x => x) | skip
  · exact wpAny_mono (d A s' hA hf (hO.skp b) r) (fun _ _ d => d.trans b) fun _ _ e => e
  · exact ⟨.brk, ρ', H', a, b, r, d⟩
  · exact ⟨.cont, ρ', H', a, b, r, d⟩
  · exact ⟨.ret _, ρ', H', a, b, r, d⟩
theorem exs0_mid {st : Stmt} {rest : List Stmt} (B : EV → HV → Prop) (h : Ex C st ρ H fun fl ρ₁ H₁ => match fl with | .next => B ρ₁ H₁ | _ => False) (k : ∀ ρ₁ H₁, B ρ₁ H₁ → Exs0 C rest ρ₁ H₁ Q) : Exs0 C (st :: rest) ρ H Q :=
  exs0_cons (midI B (fun P mk un => fun A s hA R => wpAny_mono (h A s hA R) (fun f s' ⟨fl, ρ', H', a, b, c, d⟩ => ⟨fl, ρ', H', a, b, c, by cases fl <;> first | exact mk _ _ d | exact d⟩) fun _ _ e => e) k)
theorem exs0_call {x f : Str} {p fp cpos apos : Pos} {e : Expr} {rest : List Stmt} {fa : Addr} {params : List Str} {body : List Stmt} {nms : List (Str × NameKind)} {fd : FuncData}
    (F : Fn C fa params body nms fd) (lim : C.B.NoLimit) (gf : GlobIs C f (.ref fa)) (kf : C.nms.lookup f = some .globalImplicit) (kx : C.nms.lookup x = some .local ∨ C.nms.lookup x = some .cell)
    (h : Ev C e ρ H fun v H₁ => FCallF C [] params body nms [v] H₁ fun u H₂ => Exs0 C rest (put ρ x u) H₂ Q)
    (hp : ∀ env, (backTo cpos (starEach [e] env)) = [(false, eval e env)] := by intro _; rfl) (hd : (f == ("__debug__" : Str)) = false := by decide)
    (hw : ∀ env, swapsWith (.Call (.Name f fp) [e] [] cpos) (some (.Name x p)) apos.line env = pure false := by intro _; rfl) :
    Exs0 C (.Assign [.Name x p] (.Call (.Name f fp) [e] [] cpos) apos :: rest) ρ H Q := by
  intro A s hA hf hO R
  refine wpAny_execs_cons (wpAny_Assign_Name (wpAny_Call_NameR (glob_load R gf kf ?_ hd)) (hw _))
  obtain ⟨o, ho, hdat⟩ := F.obj
  rw [hp]
  refine Calls.callWith_function (o := o) (fd := fd) (Calls.evalArgs_plain (Calls.spliced_cons (h.use hA R fun u v s₁ H₁ a K R₁ G q => Calls.spliced_nil ⟨⟨R₁.base _ _ ho (tabl_func hdat), hdat⟩, ?_⟩)))
  have K₁ : SKp C H H₁ s s₁ := .of_kp K G
  have hO₁ := hO.skp K₁
  obtain ⟨hk, hlen, q⟩ := q
  refine enter F lim (.cons a .nil) hlen hA hk R₁ fun s₂ keep os gens hdom R₂ => ?_
  have hf' : (A.deeper (callEnvC fd s₁.heap.objs.size fa)).frames = some (callEnvC fd s₁.heap.objs.size fa :: [C.env]) := Around.frames_deeper hf
  have hO₂ := OutF.into (fd := fd) (fa := fa) (nms := nms) R₁ hO₁ keep
  refine wpAny_mono (q _ _ R₁.lo_size hdom _ s₂ (hA.deeper hk _) hf' hO₂ R₂) (fun f s' d => ?_) (fun _ _ e => e.elim)
  obtain ⟨fl, ρ', H', a', Kf, R', O', q'⟩ := d
  have hnin : ∀ b o, s₁.heap.get? b = some o → b ≠ C.env.locals → b ∉ frs (C.into (callEnvC fd s₁.heap.objs.size fa) s₁.heap.objs.size nms) [C.env] := fun b o e hb hm => by
    have hm : b ∈ (callEnvC fd s₁.heap.objs.size fa :: [C.env]).filterMap (·.frame) := hm
    rw [List.filterMap_cons] at hm
    have hm : b ∈ s₁.heap.objs.size :: [C.env].filterMap (·.frame) := hm
    rcases List.mem_cons.mp hm with rfl | hm
    · exact absurd (Heap.lt_size e) (Nat.lt_irrefl _)
    · obtain ⟨env, he, hfr⟩ := List.mem_filterMap.mp hm
      rw [List.mem_singleton.mp he, hO.own] at hfr
      exact hb (Option.some.inj hfr).symm
  have get : ∀ b o, s₁.heap.get? b = some o → tabl o = false → b ≠ C.env.locals → s'.heap.get? b = some o := fun b o e t hb => Kf.get b o (keep _ _ e) t (.inl (Heap.lt_size e)) (hnin b o e hb)
  have th : ∀ b o, s₁.heap.get? b = some o → ∃ o', s'.heap.get? b = some o' := fun b o e => Kf.there b o (keep _ _ e)
  have gr : Gr H₁ H' s₁.heap := fun b o e n => Kf.gr b o (keep _ _ e) n
  have tab : TabK s₁.heap s'.heap := (TabK.of_keep keep).trans Kf.tab
  have K₂ : SKp C H₁ H' s₁ s' := by
    refine ⟨fun b o e t cd => get b o e t ?_, th, gr, Kf.os.trans os, ?_, tab⟩
    · rintro rfl
      rcases cd with cd | ⟨_, cd, _⟩
      · exact absurd R₁.lloc (Nat.not_le.mpr cd)
      · exact cd rfl
    · have := Kf.gens
      rw [gens] at this; exact this
  have R₃ : Rel C ρ H' s'.heap := by
    refine R₁.stepF (S := [C.env.locals]) (fun b hb => ?_) (fun b o e t hb => get b o e t fun q => hb (List.mem_singleton.mpr q)) (fun m hn => ?_) th R'.old tab R'.view gr
    · rw [List.mem_singleton.mp hb]
      exact ⟨Nat.le_trans R₁.blo R₁.lloc, fun x hx => (R₁.cloc x _ hx).1 rfl⟩
    · obtain ⟨o, es, ep, ho, hd, r⟩ := hn
      obtain ⟨sl, hs⟩ := Kf.slots _ o (keep _ _ ho) (fun vs q => by rw [hd] at q; cases q) (Heap.lt_size ho)
      exact ⟨_, es, ep, hs, hd, r⟩
  have fin : ∀ u, absV u = some (retOf fl) → wpAny (model C.prog C.w) A (storeName C.env x u) (fun _ s₃ => wpAny (model C.prog C.w) A (execs rest C.env) (SDone C H s Q) nay s₃) nay s' := fun u e =>
    store_name kx R₃ e fun s₃ K₃ R₄ => by
      have K' := K₁.trans (K₂.trans K₃)
      exact wpAny_mono (q' A s₃ hA hf (hO.skp K') R₄) (fun _ _ d => d.trans K') fun _ _ e => e
  cases f <;> cases fl <;> first | exact absurd a' (fun x => x) | exact fin _ a' | exact fin _ rfl
end
theorem top_callF {C : Cx} {s : Shared} {fa : Addr} {params : List Str} {body : List Stmt} {nms : List (Str × NameKind)} {fd : FuncData} {vs : List V} {us : List Value} {H : HV} {A : Around} {Q : V → HV → Prop} (hB : C.B = s.heap) (hA : Rm A C.k) (hfr : A.frames = some [])
    (F : Fn C fa params body nms fd) (lim : C.B.NoLimit) (hv : ValsAre us vs) (hk : 0 < C.k) (hlen : vs.length = params.length) (view : ∀ a o, H a = some o → ObjIs C.prog C.w s.heap a o) (sysm : H sysModules = none ∧ ∃ o, s.heap.get? sysModules = some o)
    (h : ∀ env lo, C.B.objs.size ≤ lo → (∀ a, (H a).isSome = true → a < lo) → Exs0 (C.into env lo nms) body (argsV params vs) H fun fl _ H' => Q (retOf fl) H') :
    wpAny (model C.prog C.w) A (call (.ref fa) us) (fun u s' => ∃ v H', absV u = some v ∧ OldK s.heap s'.heap ∧ s'.os = s.os ∧ (AllBare s.gens → AllBare s'.gens) ∧ Q v H') nay s := by
  obtain ⟨o, ho, hdat⟩ := F.obj
  have hul : us.length = params.length := hv.length.trans hlen
  have hrec : s.heap.CodeRec fd.code fd.qualname := by
    obtain ⟨c, oc, vs', t, n, e1, e2, e3, e4, e5⟩ := F.crec
    exact ⟨c, oc, vs', t, e1, hB ▸ e2, e4, e5⟩
  have hlim : s.heap.NoLimit := hB ▸ lim
  have hkinds : ∀ x ∈ params.zip us, fd.scope.names.lookup x.1 = some .local ∨ (fd.scope.names.lookup x.1 = some .cell ∧ ((cellsFrom (s.heap.objs.size + 1) fd.scope.names []).lookup x.1).isSome = true) := by
    intro x hx
    have hm := F.pk x.1 (List.of_mem_zip hx).1
    rw [F.names]
    rcases hm with q | q
    · exact .inl q
    · exact .inr ⟨q, hasCell _ _ _ (.inl q)⟩
  refine wpAny_call (codeAny_call_cells (by have := hA.dp; show A.depth < 1000; omega) (hB ▸ ho) hdat hlim hrec F.body (F.binds us hul) F.clo hkinds (fun s₁ X => ?_) F.co F.gen F.kind)
  have hdom : ∀ a, (H a).isSome = true → a < s.heap.objs.size := fun a e => by
    obtain ⟨o, eo⟩ := Option.isSome_iff_exists.mp e
    obtain ⟨ob, e'⟩ := (view a o eo).there
    exact Heap.lt_size e'
  have hko : ∀ x, (callEnvC fd s.heap.objs.size fa).kindOf x = nms.lookup x := fun x => by show fd.scope.names.lookup x = _; rw [F.names]
  obtain ⟨ρ₁, e₁, g1, g2⟩ := zip_vals params us vs hv hul (callEnvC fd s.heap.objs.size fa).kindOf (fun _ => Option.none) (fun _ => Option.none) (fun _ => Option.none) (fun x hx => by rw [hko]; exact F.pk x hx) (fun _ _ _ e => by cases e) (fun _ _ _ e => by cases e)
  have eρ : argsV params vs = ρ₁ := funext fun x => by rw [e₁ x]; simp [argsV]
  have keep := X.toInCall.keep
  have dom₁ : ∀ x v, ρ₁ x = some v → nms.lookup x = some .local ∨ nms.lookup x = some .cell ∨ nms.lookup x = some .free := fun x v e => by
    rw [e₁ x] at e
    simp only [Option.or_none] at e
    have hm : (x, v) ∈ params.zip vs := by
      have := mem_of_lookup e
      exact List.mem_reverse.mp this
    rcases F.pk x (List.of_mem_zip hm).1 with q | q
    · exact .inl q
    · exact .inr (.inl q)
  have R₁ : Rel (C.into (callEnvC fd s.heap.objs.size fa) s.heap.objs.size nms) (argsV params vs) H s₁.heap := by
    rw [eρ]
    refine ⟨⟨F.kind, F.glob, F.bui, F.names⟩, fun b o e t => keep _ _ (hB ▸ e), ?_, ?_, fun a o e => (view a o e).at fun _ e' _ => keep _ _ e', dom₁, ⟨_, X.toInCall.ns, fun x v hx e => g1 x v (by rw [hko]; exact hx) e⟩, fun x hx => ?_, fun x y c h h' => name_of_addr X.apart h h', fun x c hm => ?_, ?_, Nat.le_refl _, ⟨sysm.1, ?_⟩, ?_⟩
    · show OldK C.B _
      rw [hB]; exact .of_keep keep
    · show C.B.objs.size ≤ _
      rw [hB]; exact Nat.le_refl _
    · have hx' : nms.lookup x = some .cell ∨ nms.lookup x = some .free := hx
      rcases hx' with hx' | hx'
      · have hsome : ((cellsFrom (s.heap.objs.size + 1) fd.scope.names []).lookup x).isSome = true := hasCell _ _ _ (.inl (by rw [F.names]; exact hx'))
        obtain ⟨c, hc⟩ := Option.isSome_iff_exists.mp hsome
        refine ⟨c, _, hc, X.cell x c hc, fun v e => ?_⟩
        exact g2 x v (by rw [hko]; exact hx') e
      · exact absurd hx' (F.nofree x)
    · have hgt := X.above x c hm
      have hgt' : s.heap.objs.size < c := hgt
      refine ⟨Nat.ne_of_gt hgt, Nat.le_of_lt hgt', ?_, ?_⟩
      · cases e : H c with
        | none => rfl
        | some o => exact absurd (hdom c (by rw [e]; rfl)) (Nat.not_lt.mpr (Nat.le_of_lt hgt'))
      · have hnd : ((cellsFrom (s.heap.objs.size + 1) fd.scope.names []).map (·.1)).Nodup := by
          rw [F.names, cellsFrom_names nms (s.heap.objs.size + 1) 0 [] [] rfl]; exact F.nd
        obtain ⟨o, e, _⟩ := X.cell x c (lookup_of_mem_nodup hnd hm)
        exact ⟨o, e⟩
    · show H s.heap.objs.size = none
      cases e : H s.heap.objs.size with
      | none => rfl
      | some o => exact absurd (hdom _ (by rw [e]; rfl)) (Nat.lt_irrefl _)
    · obtain ⟨_, o, e⟩ := sysm
      exact ⟨o, keep _ _ e⟩
    · show TabK C.B _
      rw [hB]; exact .of_keep keep
  have hf' : (A.deeper (callEnvC fd s.heap.objs.size fa)).frames = some [callEnvC fd s.heap.objs.size fa] := Around.frames_deeper hfr
  refine wpAny_mono (h _ _ (by rw [hB]; exact Nat.le_refl _) hdom _ s₁ (hA.deeper hk _) hf' ⟨rfl, fun _ h => by cases h⟩ R₁) (fun f s' ⟨fl, ρ', H', a, K, R', q⟩ => ?_) (fun _ _ e => e.elim)
  obtain ⟨h₁, t₁, e₁, _⟩ := X.toInCall.done
  have fin : ∀ u, absV u = some (retOf fl) → ∃ v H', absV u = some v ∧ OldK s.heap s'.heap ∧ s'.os = s.os ∧ (AllBare s.gens → AllBare s'.gens) ∧ Q v H' := fun u e =>
    ⟨retOf fl, H', e, hB ▸ R'.old, K.os.trans (by rw [e₁]), fun x => K.gens.1 (by rw [e₁]; exact x), q⟩
  cases f <;> cases fl <;> first | exact absurd a (fun x => x) | exact fin _ a | exact fin _ rfl
theorem top_goodF {C : Cx} {s : Shared} {fa : Addr} {params : List Str} {body : List Stmt} {nms : List (Str × NameKind)} {fd : FuncData} {vs : List V} {us : List Value} {H : HV} {c : ClaimW} {cl : Str → Option Addr} {mean : ExcName → Option Value} {args : List WData}
    (hr : ∀ cls, c.raises args cls = false) (hp : c.post args (.bool true) args = true) (hg : s.gens = #[]) (hB : C.B = s.heap) (hk : C.k = 50)
    (F : Fn C fa params body nms fd) (lim : C.B.NoLimit) (hv : ValsAre us vs) (hlen : vs.length = params.length) (view : ∀ a o, H a = some o → ObjIs C.prog C.w s.heap a o) (sysm : H sysModules = none ∧ ∃ o, s.heap.get? sysModules = some o)
    (h : ∀ env lo, C.B.objs.size ≤ lo → (∀ a, (H a).isSome = true → a < lo) → Exs0 (C.into env lo nms) body (argsV params vs) H fun fl _ H' => retOf fl = .bool true) :
    wpAny (model C.prog C.w) callerA (call (.ref fa) us) (fun v s' => GoodWG c cl mean args s (.ok (.ret v)) s') (fun e s' => GoodWG c cl mean args s (.error e) s') s := by
  refine wpAny_mono (top_callF (Q := fun v _ => v = .bool true) hB ?_ rfl F lim hv (by omega) hlen view sysm h) (fun u s' ⟨v, H', e, o, os, g, q⟩ => ?_) fun _ _ e => e.elim
  · refine ⟨rfl, ?_, ?_⟩ <;> rw [hk] <;> decide
  · subst q
    have hu : u = .bool true := by
      cases u <;> simp only [absV] at e <;> (try split at e) <;> cases e; rfl
    subst hu
    exact ⟨.inl ⟨_, _, [], rfl, hr, ReadsW.bool true, hp, fun _ => ⟨List.nodup_nil, fun _ hm => (nomatch hm)⟩⟩, o, os, g (.of_eq hg)⟩
theorem law_topF {K : Params → Frag} {prog p : Program} {w : World} {s : Shared} {loose : List Str} {mean : ExcName → Option Value} {mg mb : Str → Option Value} {fa la : Addr} {v : Value} {ns : List Int} {c : ClaimW} {cl : Str → Option Addr} {mean' : ExcName → Option Value} {args : List WData} {fd : FuncData}
    (T : Top p loose mean mg mb s.heap) (hi : importsNone p = true) (KX : (K w.params).In s.heap) (W : Well w.params s.heap v (ofPy (.list (ns.map .int)))) (hf : mg "law" = some (.ref fa)) (hn : nsIn (K w.params) mainGlobals "law" = some (some (.ref la))) (hl : ns.length ≤ 63)
    (F : ∀ C : Cx, C.w = w → Gd K C → Fn C la ["script"] (bodyAt (K w.params) la) (namesAt (K w.params) la) fd) (gl : List (Addr × AO)) (hgl : ∀ q ∈ gl, ObjIs prog w s.heap q.1 q.2) (hnd : (gl.map (·.1)).Nodup) (h1 : ∀ q ∈ gl, q.1 ≠ 1) (hne : ∀ q ∈ gl, ∀ ns, q.2 ≠ .list (intsV ns))
    (hr : ∀ cls, c.raises args cls = false) (hp : c.post args (.bool true) args = true) (hg : s.gens = #[])
    (h : ∀ C : Cx, Gd K C → C.w = w → C.k = 50 → C.B = s.heap → ∀ (H : HV) (a : Addr), H a = some (.list (intsV ns)) → (∀ q ∈ gl, H q.1 = some q.2) → ∀ env lo, C.B.objs.size ≤ lo → (∀ a, (H a).isSome = true → a < lo) → Exs0 (C.into env lo (namesAt (K w.params) la)) (bodyAt (K w.params) la) (argsV ["script"] [.loc a]) H fun fl _ H' => retOf fl = .bool true) :
    wpAny (model prog w) callerA (call (.ref fa) [v]) (fun v s' => GoodWG c cl mean' args s (.ok (.ret v)) s') (fun e s' => GoodWG c cl mean' args s (.error e) s') s := by
  obtain ⟨a, vs, rfl, hpl, hv⟩ := law_arg W
  have e := mg_of KX T.g hn
  rw [hf] at e
  cases e
  obtain ⟨mm, hsys, _⟩ := (T.seer hi).mods
  obtain ⟨so, ses, sep, hso, hsd, _⟩ := hsys
  have oa : ObjIs prog w s.heap a (.list (intsV ns)) := ⟨vs, hpl, hv, by simp; omega⟩
  let C : Cx := ⟨prog, w, s.heap, default, s.heap.objs.size, [], 50⟩
  have G : Gd K C := ⟨KX, ⟨mg, T.g⟩, ⟨mb, T.b, T.builtins⟩, T.nolimit⟩
  let H : HV := fun b => if b = a then some (.list (intsV ns)) else gl.lookup b
  have ha1 : a ≠ 1 := by
    rintro rfl
    obtain ⟨n, en⟩ := hpl
    rw [show s.heap.get? 1 = some so from hso] at en
    cases en; cases hsd
  have hH : ∀ q ∈ gl, H q.1 = some q.2 := by
    intro q hq
    have : q.1 ≠ a := by
      intro e
      have o := hgl q hq
      rw [e] at o
      exact hne q hq ns (objIs_inj oa o)
    show (if q.1 = a then _ else gl.lookup q.1) = _
    rw [if_neg this]
    exact lk_of hnd hq
  have hx := h C G rfl rfl rfl H a (by show (if a = a then _ else _) = _; rw [if_pos rfl]) hH
  refine top_goodF (C := C) (H := H) hr hp hg rfl rfl (F C rfl G) T.nolimit (.cons rfl .nil) rfl ?_ ⟨?_, ⟨so, hso⟩⟩ hx
  · intro b o e
    have e : (if b = a then some (AO.list (intsV ns)) else gl.lookup b) = some o := e
    split at e
    · rename_i hb; cases e; subst hb; exact oa
    · exact hgl (b, o) (lk_mem e)
  · show (if (1 : Nat) = a then _ else gl.lookup 1) = none
    rw [if_neg (Ne.symm ha1)]
    cases e : gl.lookup (1 : Nat) with
    | none => rfl
    | some o => exact absurd rfl (h1 _ (lk_mem e))
end Mine
end
section
set_option maxRecDepth 100000
set_option Elab.async false
set_option linter.unusedVariables false
namespace Mine
open PySem PySem.Spec PyProof.Rows
section
variable {C : Cx} {ρ : EV} {H H' : HV} {A : Around} {s : Shared}
theorem tg_any {e : Expr} (h : Ev C e ρ H fun _ _ => True) : TG C (fun (_ : Value) (_ : Unit) => True) (eval e C.env) ρ H fun _ _ => True :=
  fun A s hA R => h.use hA R fun u v s₁ H₁ a K R₁ G q => ⟨(), H₁, trivial, K, R₁, G, trivial⟩
/-- f'..{n}..' -/
theorem tg_fstr {a b : Str} {k1 k2 : Nat} {p1 p2 p3 pos : Pos} {e : Expr} (ha : a.length ≤ 1000) (hb : b.length ≤ 1000) (h : Ev C e ρ H fun v H₁ => ∃ n : Int, v = .int n ∧ n.natAbs.log2 < 1920 ∧ (Str.ofString (toString n)).length ≤ 1000) :
    TG C (fun (_ : Value) (_ : Unit) => True) (eval (.JoinedStr [.Constant (.str a) k1 p1, .FormattedValue e (-1) none p2, .Constant (.str b) k2 p3] pos) C.env) ρ H fun _ _ => True := by
  intro A s hA R
  refine JoinedStr_many ?_
  have e0 : ∀ y : Str, (Str.empty ++ y).length = y.length := fun y => by rw [strLen_append]; simp [Str.empty, Str.length]
  have big : 3000 ≤ sizeLine := by decide
  refine joinParts_cons (Calls.Constant_str ⟨by rw [e0]; omega, ?_⟩)
  refine joinParts_cons (FormattedValue_plain (h.use (s := { s with toks := s.toks + 1 }) hA R fun u v s₂ H₁ a' K R₁ G q => ?_))
  obtain ⟨n, rfl, hn, hl⟩ := q
  obtain ⟨t, rfl⟩ := isV_int a'
  refine formatField_int_small hn ⟨by rw [strLen_append, e0]; omega, ?_⟩
  refine joinParts_cons (Calls.Constant_str ⟨by rw [strLen_append, strLen_append, e0]; omega, ?_⟩)
  refine joinParts_nil ⟨(), H₁, trivial, ?_, R₁, G, trivial⟩ (by rw [strLen_append, strLen_append, e0]; omega)
  exact (kp_tok s (s.toks + 1)).trans (K.trans (kp_tok s₂ _))
end
/-! a list or a tuple of strs -/
noncomputable def LnAt (H : HV) (a : Addr) (tp : Bool) (ls : List Str) : Prop := H a = some (if tp = true then AO.tuple (strsV ls) else AO.list (strsV ls))
section
variable {C : Cx} {ρ : EV} {H H' : HV} {Q : V → HV → Prop} {a : Addr} {tp : Bool} {ls : List Str}
theorem LnAt.le (x : LnAt H a tp ls) (h : H.le H') : LnAt H' a tp ls := h _ _ x
theorem vc_len_ln (x : LnAt H a tp ls) (q : Q (.int ls.length) H) : VCall C (.builtin "len") [.loc a] ρ H Q := by
  cases tp with
  | true => exact vc_len_tuple (vs := strsV ls) x (by rw [List.length_map]; exact q)
  | false => exact vc_len_list (vs := strsV ls) x (by rw [List.length_map]; exact q)
theorem sok_ln {i : Nat} {y : Str} (x : LnAt H a tp ls) (hv : ls[i]? = some y) (q : Q (.str y) H) : SOK C (.loc a) (.int i) ρ H Q := by
  have hv' : (strsV ls)[(i : Int).toNat]? = some (.str y) := by rw [Int.toNat_natCast, List.getElem?_map, hv]; rfl
  cases tp with
  | true => exact sok_tuple (vs := strsV ls) x (Int.natCast_nonneg _) hv' q
  | false => exact sok_list (vs := strsV ls) x (Int.natCast_nonneg _) hv' q
theorem cok_eq_ln {b : Addr} {ms : List Str} (y : H b = some (.list (strsV ms))) (x : LnAt H a tp ls) (q : Q (.bool (decide (ms = ls) && !tp)) H) : COK C .Eq (.loc b) (.loc a) ρ H Q := by
  cases tp with
  | true =>
    refine cok_eq_den (n := 1) (m := 1) (.list y (den_strs 0 ms)) (.tuple (vs := strsV ls) x (den_strs 0 ls)) ?_
    rw [same_dec (p := False) (by simp)]
    simpa using q
  | false => exact cok_eq_strs y x (by simpa using q)
end
/-! reading a grammar, plain -/
noncomputable def rdLine (l : Str) : Option (Str × List Str) := match Txt.split l " " with
  | h :: a :: bd => if a = "->" then some (h, bd) else none
  | _ => none
noncomputable def rdAll : List Str → Option Gram
  | [] => some []
  | l :: ls => match rdLine l, rdAll ls with
    | some r, some g => some (r :: g)
    | _, _ => none
noncomputable def readG (ls : List Str) : Option Gram := match rdAll ls with
  | some g => if gok g = true then some g else none
  | none => none
theorem rdAll_bad {l : Str} : ∀ {ls : List Str}, l ∈ ls → rdLine l = none → rdAll ls = none
  | m :: ls, h, e => by
    rw [rdAll]
    rcases List.mem_cons.mp h with rfl | h
    · rw [e]
    · rw [rdAll_bad h e]
      split <;> simp_all
theorem rdAll_snoc {l : Str} {r : Str × List Str} (e : rdLine l = some r) : ∀ {ls : List Str} {g : Gram}, rdAll ls = some g → rdAll (ls ++ [l]) = some (g ++ [r])
  | [], g, h => by rw [rdAll] at h; cases h; simp [rdAll, e]
  | m :: ls, g, h => by
    rw [rdAll] at h
    split at h
    · rename_i r' g' e1 e2
      cases h
      rw [List.cons_append, rdAll, e1, rdAll_snoc e e2]; rfl
    · cases h
theorem readG_bad {l : Str} {ls : List Str} (h : l ∈ ls) (e : rdLine l = none) : readG ls = none := by unfold readG; rw [rdAll_bad h e]
theorem rdAll_len : ∀ {ls : List Str} {g : Gram}, rdAll ls = some g → g.length = ls.length
  | [], g, h => by rw [rdAll] at h; cases h; rfl
  | m :: ls, g, h => by
    rw [rdAll] at h
    split at h
    · rename_i r' g' e1 e2
      cases h
      rw [List.length_cons, List.length_cons, rdAll_len e2]
    · cases h
/-- an exception class of the module's own, from the objects as they lie there -/
theorem cls_of {B : Heap} {c N : Addr} {nm q : Str} {bs : List Value} {hdct : Bool} {sn : List Str} {sub : List Value} {ab : Bool} {col : Option Bool} {dd : Option Addr} {k0 k1 k2 k3 k5 : Option Value} {o : Obj} {es : Array DictEntry} {ep : Nat}
    (hC : B.get? c = some (excClassObj nm q c N bs [.type "Exception", .type "BaseException", .type "object"] hdct sn sub ab col dd k0 k1 k2 k3 k5 "Exception.__new__")) (hN : B.get? N = some o) (hd : o.data = .dict es ep)
    (hs : es.toList.all (fun e => match e.key with | .str _ _ => true | _ => false) = true) (hi : nsFind es "__init__" = none) : ClsOK B c := by
  refine ⟨nm, q, N, bs, _, hdct, sn, sub, ab, col, dd, k0, k1, k2, k3, k5, _, _, _, fun name => nsFind es name, hC, ⟨o, es, ep, hN, hd, fun e he => ?_, fun _ => rfl⟩, hi, PySem.F.excBase_Exception⟩
  have := List.all_eq_true.mp hs e (by simpa using he)
  split at this
  · rename_i x t hx; exact ⟨x, t, hx⟩
  · cases this
end Mine
end
section
set_option maxRecDepth 100000
set_option Elab.async false
set_option linter.unusedVariables false
namespace Mine
open PySem PySem.Spec PyProof.Rows PySem.SeqAt
end Mine
end
section
open PySem PySem.W PyProof.Rows
set_option Elab.async false
set_option maxRecDepth 100000
set_option maxHeartbeats 8000000
namespace Mine
open_top hd for PySem.Challenge.rw_k18_0052
end Mine
end
section
set_option maxRecDepth 100000
set_option Elab.async false
set_option linter.unusedVariables false
namespace Mine
open PySem PySem.Spec PyProof.Rows
noncomputable abbrev K52 := Mine.hd.heap_39
variable {C : Cx} {H : HV} {Q : V → HV → Prop}
set_option maxHeartbeats 4000000
theorem fn_gramok (G : Gd K52 C) : Fn C 34 ["g"] (bodyAt (K52 C.w.params) 34) (namesAt (K52 C.w.params) 34) (fdAt (K52 C.w.params) 34) :=
  fn_of G rfl rfl rfl rfl rfl rfl rfl rfl rfl rfl rfl rfl rfl rfl (by1 (fun a0 => rfl)) rfl rfl (of_decide_eq_true rfl)
theorem fn_text (G : Gd K52 C) : Fn C 39 ["g"] (bodyAt (K52 C.w.params) 39) (namesAt (K52 C.w.params) 39) (fdAt (K52 C.w.params) 39) :=
  fn_of G rfl rfl rfl rfl rfl rfl rfl rfl rfl rfl rfl rfl rfl rfl (by1 (fun a0 => rfl)) rfl rfl (of_decide_eq_true rfl)
theorem fn_gft (G : Gd K52 C) : Fn C 46 ["lines"] (bodyAt (K52 C.w.params) 46) (namesAt (K52 C.w.params) 46) (fdAt (K52 C.w.params) 46) :=
  fn_of G rfl rfl rfl rfl rfl rfl rfl rfl rfl rfl rfl rfl rfl rfl (by1 (fun a0 => rfl)) rfl rfl (of_decide_eq_true rfl)
theorem fn_target (G : Gd K52 C) : Fn C 53 ["lines"] (bodyAt (K52 C.w.params) 53) (namesAt (K52 C.w.params) 53) (fdAt (K52 C.w.params) 53) :=
  fn_of G rfl rfl rfl rfl rfl rfl rfl rfl rfl rfl rfl rfl rfl rfl (by1 (fun a0 => rfl)) rfl rfl (of_decide_eq_true rfl)
theorem fn_cell (G : Gd K52 C) : Fn C 63 ["script", "i"] (bodyAt (K52 C.w.params) 63) (namesAt (K52 C.w.params) 63) (fdAt (K52 C.w.params) 63) :=
  fn_of G rfl rfl rfl rfl rfl rfl rfl rfl rfl rfl rfl rfl rfl rfl (by2 (fun a0 a1 => rfl)) rfl rfl (of_decide_eq_true rfl)
theorem fn_refused (G : Gd K52 C) : Fn C 70 ["words"] (bodyAt (K52 C.w.params) 70) (namesAt (K52 C.w.params) 70) (fdAt (K52 C.w.params) 70) :=
  fn_of G rfl rfl rfl rfl rfl rfl rfl rfl rfl rfl rfl rfl rfl rfl (by1 (fun a0 => rfl)) rfl rfl (of_decide_eq_true rfl)
theorem fn_law (G : Gd K52 C) : Fn C 75 ["script"] (bodyAt (K52 C.w.params) 75) (namesAt (K52 C.w.params) 75) (fdAt (K52 C.w.params) 75) :=
  fn_of G rfl rfl rfl rfl rfl rfl rfl rfl rfl rfl rfl rfl rfl rfl (by1 (fun a0 => rfl)) rfl rfl (of_decide_eq_true rfl)
local macro_rules | `(tactic| walk_at "gd") => `(tactic| first | assumption | ((refine Gd.cast (C := ?Ca) ?Ga ?ha ?hb); (case Ga => assumption); (case ha => exact rfl); (case hb => exact rfl)))
local macro_rules | `(tactic| w_left) => `(tactic| first
  | with_reducible refine exs_cons ?_
  | with_reducible refine exs_nil ?_
  | with_reducible refine ex_Return ?_
  | ((with_reducible refine ex_Assign ?k ?_ ?s); (case k => first | exact .inl rfl | exact .inr rfl); (case s => intros; exact rfl))
  | with_reducible refine ex_If ?_
  | ((with_reducible refine t_Compare ?_ ?m); (case m => exact rfl))
  | with_reducible refine t_Not ?_
  | with_reducible refine t_And ?_
  | with_reducible refine t_Or ?_
  | with_reducible refine t_and_cons ?_
  | with_reducible refine t_or_cons ?_
  | with_reducible refine t_or_nil ?_
  | with_reducible refine ev_int ?_
  | ((with_reducible refine ev_str ?_ ?o); (case o => decide +kernel))
  | with_reducible refine ev_bool ?_
  | with_reducible refine ev_none ?_
  | ((with_reducible refine ev_Name (v := ?v) ?e ?_ ?d ?n); (case e => first | exact rfl | assumption); (case d => decide); (case n => decide))
  | with_reducible refine ev_BinOp ?_
  | ((with_reducible refine ev_Compare ?_ ?m); (case m => exact rfl))
  | with_reducible refine ev_SliceUpto ?_
  | with_reducible refine ev_SliceFrom ?_
  | ((with_reducible refine ev_Sub ?_ ?m); (case m => intros; exact rfl))
  | with_reducible refine ev_List ?_
  | with_reducible refine ev_Tuple ?_
  | ((with_reducible refine args_cons ?_ ?m); (case m => intros; exact rfl))
  | with_reducible refine args_nil ?_
  | with_reducible refine bok_add_int ?_
  | with_reducible refine bok_sub_int ?_
  | ((with_reducible refine bok_mul_int ?m ?_); (case m => first | exact .of_left (by decide) | exact .of_right (by decide)))
  | with_reducible refine cok_eq_int ?_
  | with_reducible refine cok_lt_int ?_
  | with_reducible refine cok_eq_str ?_
  | with_reducible refine cok_ne_str ?_
  | with_reducible refine tr_bool ?_
  | with_reducible refine t_Name ?_
  | with_reducible refine t_Call ?_
  | ((with_reducible refine bok_mod ?n ?_); (case n => decide))
  | ((with_reducible refine ev_CallB (id := ?id) ?g ?k ?_ ?hs ?hp ?hd); (case g => (refine Gd.blt (K := ?K1) ?G1 ?ge1 ?gv1 ?gn1); (case G1 => walk_at "gd"); (case ge1 => exact rfl); (case gv1 => exact rfl); (case gn1 => decide)); (case k => exact rfl); (case hs => intro _; exact rfl); (case hp => intro _; exact rfl); (case hd => decide))
  | ((with_reducible refine ev_CallT (T := ?id) ?g ?k ?_ ?hs ?hp ?hd); (case g => (refine Gd.blt (K := ?K2) ?G2 ?ge2 ?gv2 ?gn2); (case G2 => walk_at "gd"); (case ge2 => exact rfl); (case gv2 => exact rfl); (case gn2 => decide)); (case k => exact rfl); (case hs => intro _; exact rfl); (case hp => intro _; exact rfl); (case hd => decide))
  | ((with_reducible refine vc_len_list (vs := ?vs) ?e ?_); (case e => (first | assumption | rfl)))
  | ((with_reducible refine ev_Glob (u := ?u) (v := ?v) ?g ?k ?e ?_ ?d); (case g => (refine Gd.glob (K := ?K3) ?G3 ?ge3); (case G3 => walk_at "gd"); (case ge3 => exact rfl)); (case k => exact rfl); (case e => first | exact rfl | ((refine isV_mk (x := ?xx) (t := ?tt) ?hu ?ok); (case hu => exact rfl); (case ok => decide +kernel))); (case d => decide))
  | ((with_reducible refine ev_CallF (fa := ?fa) (fd := ?fd) (params := ?ps) (body := ?bd) (nms := ?nn) ?F ?lim ?g ?k ?_ ?hs ?hp ?hd); (case g => (refine Gd.glob (K := ?K4) ?G4 ?ge4); (case G4 => walk_at "gd"); (case ge4 => exact rfl)); (case F => ((first | refine fn_gramok ?GF | refine fn_text ?GF | refine fn_cell ?GF | refine fn_refused ?GF); (case GF => walk_at "gd"))); (case lim => (refine Gd.lim (K := ?K5) ?G5); (case G5 => walk_at "gd")); (case k => exact rfl); (case hs => intro _; exact rfl); (case hp => intro _; exact rfl); (case hd => decide))
  | ((with_reducible refine ev_Glob (u := ?u) (v := ?v) ?g ?k ?e ?_ ?d); (case g => (refine Gd.blt (K := ?K8) ?G8 ?ge8 ?gv8 ?gn8); (case G8 => walk_at "gd"); (case ge8 => exact rfl); (case gv8 => exact rfl); (case gn8 => decide)); (case k => exact rfl); (case e => exact rfl); (case d => decide)))
theorem gramok_ok {P : Addr → Prop} (G : Gd K52 C) (hk : 0 < C.k) {R : Addr} {g : Gram} (hg : GrAt H P R g) (hl : g.length ≤ 60) (hbl : ∀ r ∈ g, r.2.length ≤ 100) (q : ∀ H', H.le H' → Q (.bool (gok g)) H') :
    FCall C ["g"] (bodyAt (K52 C.w.params) 34) (namesAt (K52 C.w.params) 34) [.loc R] H Q := by
  refine ⟨kp hk, rfl, fun env lo hlo h2 => ?_⟩
  obtain ⟨ts, eR, rs⟩ := hg
  have hts : ts.length = g.length := rs.length
  change Exs _ (_ :: _) _ _ _
  repeat w_left
  by_cases hne : g = []
  · subst hne
    have : ts = [] := by simpa using hts
    subst this
    rw [if_pos (by rfl)]
    repeat w_left
    exact q _ (HV.le_refl _)
  · rw [if_neg (by
      have : 0 < g.length := List.length_pos_iff.mpr hne
      simp only [List.length_map, hts, beq_iff_eq]; omega)]
    refine exs_nil (exs_cons (ex_For (.inl rfl) (its_list ?_)))
    repeat w_left
    refine ⟨R, _, rfl, eR, ?_⟩
    refine ⟨fun i ρ' H' => H.le H' ∧ ∀ r ∈ g.take i, ∀ s ∈ r.1 :: r.2, symBad s = false, ⟨HV.le_refl _, by simp⟩, ?_, ?_⟩
    · rintro i v ρ' H' hv ⟨le, good⟩ ok
      obtain ⟨t, b, h, bd, rfl, hgi, _, _, et, eb⟩ := rs.get' hv
      have okR : H' R = some (.list (ts.map V.loc)) := ok
      have hgm : (h, bd) ∈ g := List.mem_of_getElem? hgi
      have bdl : bd.length ≤ 100 := hbl _ hgm
      refine exs_cons (ex_For (.inl rfl) (its_list ?_))
      repeat w_left
      refine sok_tuple (le _ _ et) (by decide) rfl ?_
      repeat w_left
      refine ⟨by simp, fun c1 lc1 nc1 => ?_⟩
      have x1 := le_upd (o := .list [.str h]) nc1
      repeat w_left
      refine sok_tuple (x1 _ _ (le _ _ et)) (by decide) rfl ?_
      refine bok_add_list (vs := strsV [h]) (ws := strsV bd) (upd_at _ _ _) (x1 _ _ (le _ _ eb)) (by simp; omega) fun c2 lc2 nc2 => ?_
      have x2 := x1.trans (le_upd (o := .list (strsV [h] ++ strsV bd)) nc2)
      have e2 : upd (upd H' c1 (.list [.str h])) c2 (.list (strsV [h] ++ strsV bd)) c2 = some (.list (strsV (h :: bd))) := by rw [upd_at]; rfl
      generalize upd (upd H' c1 (.list [.str h])) c2 (.list (strsV [h] ++ strsV bd)) = H1 at x2 e2
      refine ⟨c2, _, rfl, e2, ?_⟩
      refine ⟨fun j ρ₂ H₂ => H1.le H₂ ∧ ∀ s ∈ (h :: bd).take j, symBad s = false, ⟨HV.le_refl _, by simp⟩, ?_, ?_⟩
      · rintro j v ρ₂ H₂ hv ⟨le2, good2⟩ ok2
        obtain ⟨s, hs, rfl⟩ := strs_get hv
        have hsm : s ∈ h :: bd := List.mem_of_getElem? hs
        have okc : H₂ c2 = some (.list (strsV (h :: bd))) := ok2
        have bad : symBad s = true → Q (.bool false) H₂ := fun hb => by
          have := q H₂ ((le.trans x2).trans le2)
          rwa [gok_bad hgm hsm hb] at this
        repeat w_left
        by_cases c1 : (s == "") = true
        · rw [if_pos c1, if_pos rfl]
          repeat w_left
          exact bad (by unfold symBad; rw [c1]; rfl)
        rw [if_neg c1]
        repeat w_left
        by_cases c2 : (s == "$") = true
        · rw [if_pos c2, if_pos rfl]
          repeat w_left
          exact bad (by unfold symBad; rw [c2]; simp)
        rw [if_neg c2]
        repeat w_left
        by_cases c3 : (s == "->") = true
        · rw [if_pos c3, if_pos rfl]
          repeat w_left
          exact bad (by unfold symBad; rw [c3]; simp)
        rw [if_neg c3]
        repeat w_left
        rw [if_neg (by decide)]
        repeat w_left
        refine cok_in_str ?_
        repeat w_left
        by_cases c4 : (!(Builtin.Str.occurrences s " " 0 s.length 1).isEmpty) = true
        · rw [if_pos c4, if_pos rfl]
          repeat w_left
          exact bad (by unfold symBad inB; rw [c4]; simp)
        rw [if_neg c4]
        repeat w_left
        refine cok_in_str ?_
        repeat w_left
        by_cases c5 : (!(Builtin.Str.occurrences s "\n" 0 s.length 1).isEmpty) = true
        · rw [if_pos c5, if_pos rfl]
          repeat w_left
          exact bad (by unfold symBad inB; rw [c5]; simp)
        rw [if_neg c5]
        repeat w_left
        rw [if_neg (by decide)]
        repeat w_left
        refine ⟨⟨le2, fun x hx => ?_⟩, okc⟩
        rw [take_snoc hs, List.mem_append, List.mem_singleton] at hx
        rcases hx with hx | rfl
        · exact good2 x hx
        · unfold symBad inB
          rw [Bool.not_eq_true] at c1 c2 c3 c4 c5
          rw [c1, c2, c3, c4, c5]; rfl
      · rintro ρ₂ H₂ ⟨le2, good2⟩ ok2
        have : (Src.list c2 (strsV (h :: bd))).vals.length = (h :: bd).length := by show (strsV (h :: bd)).length = _; simp
        rw [this, List.take_length] at good2
        refine exs_nil ⟨⟨(le.trans x2).trans le2, fun r hr => ?_⟩, (x2.trans le2) _ _ okR⟩
        rw [take_snoc hgi, List.mem_append, List.mem_singleton] at hr
        rcases hr with hr | rfl
        · exact good r hr
        · exact good2
    · rintro ρ' H' ⟨le, good⟩ ok
      have hlen : (Src.list R (ts.map V.loc)).vals.length = g.length := by show (ts.map V.loc).length = _; rw [List.length_map, hts]
      rw [hlen, List.take_length] at good
      repeat w_left
      have := q H' le
      rwa [gok_good hne good] at this
noncomputable def lineOf (r : Str × List Str) : Str := Str.join " " (r.1 :: "->" :: r.2)
noncomputable def small (r : Str × List Str) : Prop := r.1.length ≤ 100 ∧ r.2.length ≤ 100 ∧ ∀ s ∈ r.2, s.length ≤ 100
theorem sum_le {l : List Str} (h : ∀ s ∈ l, s.length ≤ 100) : (l.map (·.length)).sum ≤ 100 * l.length := by
  induction l with
  | nil => simp
  | cons x l ih =>
    have h1 := h x (List.mem_cons_self ..)
    have h2 := ih fun s hs => h s (List.mem_cons_of_mem _ hs)
    simp only [List.map_cons, List.sum_cons, List.length_cons]; omega
theorem text_ok {P : Addr → Prop} (G : Gd K52 C) (hk : 0 < C.k) {R : Addr} {g : Gram} (hg : GrAt H P R g) (hb : ∀ r ∈ g, small r) (hl : g.length ≤ 100)
    (q : ∀ H' b, H.le H' → H' b = some (.list (strsV (g.map lineOf))) → Q (.loc b) H') :
    FCall C ["g"] (bodyAt (K52 C.w.params) 39) (namesAt (K52 C.w.params) 39) [.loc R] H Q := by
  refine ⟨hk, rfl, fun env lo hlo h2 => ?_⟩
  obtain ⟨ts, eR, rs⟩ := hg
  change Exs _ (_ :: _) _ _ _
  repeat w_left
  refine ev_ListComp (its_list ?_)
  repeat w_left
  refine ⟨R, _, rfl, eR, ?_⟩
  refine ⟨fun i ys H' => H.le H' ∧ ys = strsV ((g.take i).map lineOf), ⟨⟨HV.le_refl _, rfl⟩, ?_⟩, ?_⟩
  · rintro i v ys H' hv ⟨le, rfl⟩ ok env'
    obtain ⟨t, b, h, bd, rfl, hgi, _, _, et, eb⟩ := rs.get' hv
    obtain ⟨s1, s2, s3⟩ := hb _ (List.mem_of_getElem? hgi)
    have s1 : h.length ≤ 100 := s1
    have s2 : bd.length ≤ 100 := s2
    refine ifs_nil ?_
    show Ev _ _ _ _ _
    refine ev_MethS PySem.F.slot_str_join PySem.F.type_str_join ?_
    repeat w_left
    refine ⟨_, rfl, ?_⟩
    repeat w_left
    refine sok_tuple (le _ _ et) (by decide) rfl ?_
    repeat w_left
    refine ⟨by simp, fun c lc nc => ?_⟩
    repeat w_left
    refine sok_tuple (upd_old (le _ _ et) nc) (by decide) rfl ?_
    refine bok_add_list (vs := strsV [h, "->"]) (ws := strsV bd) (upd_at _ _ _) (upd_old (le _ _ eb) nc) (by simp; omega) fun d ld nd => ?_
    have es : (bd.map (·.length)).sum ≤ 100 * bd.length := sum_le s3
    have s1 : h.length ≤ 100 := s1
    have s2 : bd.length ≤ 100 := s2
    refine vc_join (ys := h :: "->" :: bd) (by rw [upd_at]; simp) (by decide +kernel) ?_ ?_
    · have : (Str.ofString "->").length = 2 := by decide +kernel
      simp only [List.map_cons, List.sum_cons, List.length_cons, this]
      have : 100 * bd.length ≤ 100 * 100 := Nat.mul_le_mul_left _ s2
      omega
    refine ⟨⟨le.trans ((le_upd nc).trans (le_upd nd)), ?_⟩, (le.trans ((le_upd nc).trans (le_upd nd))) _ _ eR⟩
    rw [take_snoc hgi]
    simp [lineOf]
  · rintro ys H' ⟨le, rfl⟩ b lb nb
    have : (Src.list R (ts.map V.loc)).vals.length = g.length := by show (ts.map V.loc).length = _; rw [List.length_map, rs.length]
    rw [this, List.take_length]
    exact q _ b (le.trans (le_upd nb)) (upd_at _ _ _)
theorem gftX_ok (G : Gd K52 C) (CO : ClsOK C.B 24) (hk : 1 < C.k) {outer : List Env} {lA : Addr} {tp : Bool} {lines : List Str} (hL : LnAt H lA tp lines) (hll : lines.length ≤ 3) (hz : ∀ l ∈ lines, l.length ≤ 1000 ∧ (Txt.split l " ").length ≤ 100)
    (q : ∀ H' R g, H.le H' → GrAt H' (fun _ => True) R g → readG lines = some g → Q (.loc R) H') :
    FCallX 24 C outer ["lines"] (bodyAt (K52 C.w.params) 46) (namesAt (K52 C.w.params) 46) [.loc lA] H Q (readG lines = none) := by
  refine ⟨kp hk, rfl, fun env lo hlo h2 => ?_⟩
  have hk0 : 0 < C.k - 1 := kk hk (by decide)
  have CO' : ClsOK (C.into env lo (namesAt (K52 C.w.params) 46)).B 24 := CO
  change ExsX _ _ _ (_ :: _) _ _ _ _
  refine exsX_cons (exX_of ?_)
  repeat w_left
  refine ⟨by decide, fun R lR nR => ?_⟩
  have x0 := le_upd (o := .list []) nR
  refine exsX_cons (exX_For (.inl rfl) (its_range1 (Gd.blt (K := K52) (by exact G.cast rfl rfl) rfl rfl (by decide)) rfl ?_))
  repeat w_left
  refine vc_len_ln (hL.le x0) ?_
  refine ⟨_, rfl, by omega, by omega, ?_⟩
  rw [Int.toNat_natCast]
  refine ⟨fun i ρ' H' => ρ' "lines" = some (.loc lA) ∧ ρ' "g" = some (.loc R) ∧ H.le H' ∧ ∃ (ts : List Addr) (g : Gram), H' R = some (.list (ts.map V.loc)) ∧ RulesAt H' (· ≠ R) ts g ∧ rdAll (lines.take i) = some g ∧ ∀ r ∈ g, r.2.length ≤ 100, ⟨rfl, rfl, x0, [], [], upd_at _ _ _, .nil, rfl, by simp⟩, ?_, ?_⟩
  · rintro i v ρ' H' hv ⟨r1, r2, le, ts, g, eR, rs, rd, gl⟩ ok
    obtain ⟨hi, rfl⟩ := rng_get hv
    rw [Int.zero_add]
    have hli : lines[i]? = some lines[i] := List.getElem?_eq_getElem hi
    have hlm : lines[i] ∈ lines := List.getElem_mem hi
    obtain ⟨z1, z2⟩ := hz _ hlm
    have htl : ts.length ≤ 3 := by
      have h1 := rs.length
      have h2 : g.length = i := by
        have := rdAll_len rd
        rw [List.length_take] at this; omega
      omega
    have htk := take_snoc hli
    generalize hl : lines[i] = l at *
    refine exsX_cons (exX_of (ex_Assign (.inl rfl) (ev_MethS PySem.F.slot_str_split PySem.F.type_str_split ?_) (by intros; rfl)))
    repeat w_left
    refine sok_ln (hL.le le) hli ?_
    refine ⟨_, rfl, ?_⟩
    repeat w_left
    refine vc_split (c := 32) (by omega) fun wA lwA nwA => ?_
    have eW : Txt.split l ⟨#[32]⟩ = Txt.split l " " := rfl
    rw [eW]
    have hrd : rdLine l = match Txt.split l " " with | h :: a :: bd => if a = "->" then some (h, bd) else none | _ => none := rfl
    generalize Txt.split l " " = W at *
    have ew := upd_at H' wA (.list (strsV W))
    have x1 := le_upd (o := .list (strsV W)) nwA
    generalize upd H' wA (.list (strsV W)) = H1 at ew x1
    refine exsX_cons (exX_If ?_)
    repeat w_left
    match W, hrd, ew with
    | [], hrd, ew =>
      rw [if_pos (by decide), if_pos rfl]
      refine exsX_cons (exX_Raise CO' (Gd.glob (K := K52) (by exact G.cast rfl rfl) rfl) rfl (readG_bad hlm hrd) (tg_fstr ?_ ?_ ?_))
      · decide +kernel
      · decide +kernel
      · repeat w_left
        refine ⟨_, rfl, ?_⟩
        have : i = 0 ∨ i = 1 ∨ i = 2 := by omega
        rcases this with rfl | rfl | rfl <;> decide +kernel
    | [w0], hrd, ew =>
      rw [if_pos (by rfl), if_pos rfl]
      refine exsX_cons (exX_Raise CO' (Gd.glob (K := K52) (by exact G.cast rfl rfl) rfl) rfl (readG_bad hlm hrd) (tg_fstr ?_ ?_ ?_))
      · decide +kernel
      · decide +kernel
      · repeat w_left
        refine ⟨_, rfl, ?_⟩
        have : i = 0 ∨ i = 1 ∨ i = 2 := by omega
        rcases this with rfl | rfl | rfl <;> decide +kernel
    | h :: ar :: bd, hrd, ew =>
      have hrd : rdLine l = if ar = "->" then some (h, bd) else none := hrd
      rw [if_neg (by simp; omega)]
      repeat w_left
      refine sok_list ew (by decide) (v := .str ar) rfl ?_
      repeat w_left
      by_cases ha : ar = "->"
      · rw [if_neg (by simp [ha])]
        repeat w_left
        rw [if_neg (by decide)]
        rw [if_pos ha] at hrd
        refine exsX_of (exs_nil ?_)
        refine exsX_of (exs_cons (ex_append ?_))
        repeat w_left
        refine ⟨R, rfl, ⟨_, x1 _ _ eR⟩, ?_⟩
        repeat w_left
        refine sok_list ew (by decide) (v := .str h) rfl ?_
        repeat w_left
        refine ⟨wA, _, 2, rfl, rfl, by decide, ew, fun sb lsb nsb => ?_⟩
        have sbR : sb ≠ R := (ne_of_new (x1 _ _ eR) nsb).symm
        have esb : upd H1 sb (.list ((strsV (h :: ar :: bd)).drop (2 : Int).toNat)) sb = some (.list (strsV bd)) := by rw [upd_at]; rfl
        have x2 := x1.trans (le_upd (o := .list ((strsV (h :: ar :: bd)).drop (2 : Int).toNat)) nsb)
        generalize upd H1 sb (.list ((strsV (h :: ar :: bd)).drop (2 : Int).toNat)) = H2 at x2 esb
        repeat w_left
        refine ⟨by simp, fun t lt nt => ?_⟩
        have x3 := x2.trans (le_upd (o := .tuple [.str h, .loc sb]) nt)
        have tR : t ≠ R := (ne_of_new (x2 _ _ eR) nt).symm
        have tb : sb ≠ t := ne_of_new esb nt
        refine ⟨_, x3 _ _ eR, lR, by simp; omega, ?_⟩
        repeat w_left
        refine ⟨⟨r1, r2, le_turn (le.trans x3) nR, ts ++ [t], g ++ [(h, bd)], by rw [upd_at]; simp, ?_, ?_, ?_⟩, ok⟩
        · refine RulesAt.append (rs.imp (fun d o p e => upd_keep p (x3 _ _ e)) fun _ p => p) (.cons tR sbR ?_ ?_ .nil)
          · exact upd_keep tR (upd_at _ _ _)
          · exact upd_keep sbR (upd_keep tb esb)
        · rw [htk]; exact rdAll_snoc hrd rd
        · intro r hr
          rcases List.mem_append.mp hr with hr | hr
          · exact gl r hr
          · rw [List.mem_singleton.mp hr]
            simp at z2; show bd.length ≤ 100; omega
      · rw [if_pos (by simpa using ha), if_pos rfl]
        rw [if_neg ha] at hrd
        refine exsX_cons (exX_Raise CO' (Gd.glob (K := K52) (by exact G.cast rfl rfl) rfl) rfl (readG_bad hlm hrd) (tg_fstr ?_ ?_ ?_))
        · decide +kernel
        · decide +kernel
        · repeat w_left
          refine ⟨_, rfl, ?_⟩
          have : i = 0 ∨ i = 1 ∨ i = 2 := by omega
          rcases this with rfl | rfl | rfl <;> decide +kernel
  · rintro ρ' H' ⟨r1, r2, le, ts, g, eR, rs, rd, gl⟩ ok
    rw [rng_len, List.take_length] at rd
    have gg : GrAt H' (fun _ => True) R g := ⟨ts, eR, rs.imp (fun _ _ _ e => e) fun _ _ => trivial⟩
    have gn : g.length ≤ 60 := by have := rdAll_len rd; omega
    have hr : readG lines = if gok g = true then some g else none := by unfold readG; rw [rd]
    refine exsX_cons (exX_If ?_)
    repeat w_left
    refine gramok_ok (by exact G.cast rfl rfl) hk0 gg gn gl fun H2 le2 => ?_
    repeat w_left
    by_cases hg : gok g = true
    · rw [hg, if_neg (by decide)]
      rw [if_pos hg] at hr
      refine exsX_of (exs_nil ?_)
      refine exsX_of ?_
      repeat w_left
      exact q _ R g (le.trans le2) (gg.le le2) hr
    · rw [if_neg hg] at hr
      rw [Bool.not_eq_true] at hg
      rw [hg, if_pos (by decide)]
      refine exsX_cons (exX_Raise CO' (Gd.glob (K := K52) (by exact G.cast rfl rfl) rfl) rfl hr (tg_any ?_))
      repeat w_left
      trivial
theorem target_ok (G : Gd K52 C) (CO : ClsOK C.B 24) (hk : 3 < C.k) {lA : Addr} {tp : Bool} {lines : List Str} (hL : LnAt H lA tp lines) (hll : lines.length ≤ 3) (hz : ∀ l ∈ lines, l.length ≤ 1000 ∧ (Txt.split l " ").length ≤ 100)
    (hs : ∀ g, readG lines = some g → (∀ r ∈ g, small r) ∧ g.length ≤ 60 ∧ g.map lineOf = lines) (q : ∀ H', H.le H' → Q (.bool (decide (readG lines = none) || !tp)) H') :
    FCallF C [] ["lines"] (bodyAt (K52 C.w.params) 53) (namesAt (K52 C.w.params) 53) [.loc lA] H Q := by
  refine ⟨kp hk, rfl, fun env lo hlo h2 => ?_⟩
  have CO' : ClsOK (C.into env lo (namesAt (K52 C.w.params) 53)).B 24 := CO
  change ExsF _ _ (_ :: _) _ _ _
  refine exsF_cons ?_
  repeat w_left
  refine exsF_Try (X := readG lines = none) (fn_gft (by exact G.cast rfl rfl)) G.lim (Gd.glob (K := K52) (by exact G.cast rfl rfl) rfl) rfl (.inl rfl) CO' (Gd.glob (K := K52) (by exact G.cast rfl rfl) rfl) rfl ?_
  repeat w_left
  refine ⟨?_, fun hx => ?_⟩
  · refine gftX_ok (C := C.into env lo (namesAt (K52 C.w.params) 53)) (by exact G.cast rfl rfl) CO' (kk hk (by decide)) hL hll hz fun H1 R g le1 gg hr => exsF_of ?_
    obtain ⟨s1, s2, s3⟩ := hs g hr
    have hne : decide (readG lines = none) = false := by rw [hr]; rfl
    have hgok : gok g = true := by
      unfold readG at hr
      split at hr
      · split at hr
        · rename_i hg; cases hr; exact hg
        · cases hr
      · cases hr
    refine exs_cons (ex_Return (ev_BoolOp (bl_or ?_)))
    repeat w_left
    refine cok_is_none ?_
    repeat w_left
    rw [if_neg (by show ¬ (false = true); decide)]
    refine bl_one (ev_BoolOp (bl_and ?_))
    repeat w_left
    refine gramok_ok (C := C.into env lo (namesAt (K52 C.w.params) 53)) (by exact G.cast rfl rfl) (kk hk (by decide)) gg s2 (fun r hr => (s1 r hr).2.1) fun H2 le2 => ?_
    rw [hgok]
    repeat w_left
    rw [if_pos rfl]
    refine bl_one ?_
    repeat w_left
    refine text_ok (C := C.into env lo (namesAt (K52 C.w.params) 53)) (by exact G.cast rfl rfl) (kk hk (by decide)) (gg.le le2) s1 (by omega) fun H3 b le3 eb => ?_
    repeat w_left
    refine cok_eq_ln eb (((hL.le le1).le le2).le le3) ?_
    have := q H3 ((le1.trans le2).trans le3)
    rw [hne, Bool.false_or] at this
    rw [s3]
    have e : (decide (lines = lines) && !tp) = !tp := by simp
    rw [e]
    exact this
  · refine exsF_of ?_
    refine exs_cons (ex_Return (ev_BoolOp (bl_or ?_)))
    repeat w_left
    refine cok_is_none ?_
    repeat w_left
    have e0 : isNone V.none = true := rfl
    rw [e0, if_pos rfl]
    have := q H (HV.le_refl _)
    rw [decide_eq_true hx, Bool.true_or] at this
    exact this
noncomputable def cellv (ns : List Int) (i : Int) : Int := (ns[i.toNat]?).getD 0
theorem cell_ok (G : Gd K52 C) (hk : 0 < C.k) {a : Addr} {ns : List Int} (ha : H a = some (.list (ns.map .int))) {i : Int} (h0 : 0 ≤ i) (q : Q (.int (cellv ns i)) H) :
    FCall C ["script", "i"] (bodyAt (K52 C.w.params) 63) (namesAt (K52 C.w.params) 63) [.loc a, .int i] H Q := by
  refine ⟨hk, rfl, fun env lo h1 h2 => ?_⟩
  change Exs _ (_ :: _) _ _ _
  repeat w_left
  by_cases hi : i.toNat < ns.length
  · have : decide (i < ((ns.map V.int).length : Int)) = true := by simp; omega
    rw [this, if_pos rfl]
    repeat w_left
    refine sok_list ha h0 (v := .int ns[i.toNat]) (by simp [hi]) ?_
    have e : cellv ns i = ns[i.toNat] := by unfold cellv; rw [List.getElem?_eq_getElem hi]; rfl
    exact e ▸ q
  · have : decide (i < ((ns.map V.int).length : Int)) = false := by simp; omega
    rw [this, if_neg (by decide)]
    repeat w_left
    have e : cellv ns i = 0 := by unfold cellv; rw [List.getElem?_eq_none (by omega)]; rfl
    exact e ▸ q
noncomputable def cleanL : List Str := ["A", "B", "a", "$$", "->x", "+"]
noncomputable def dirtyL : List Str := ["A", "a", "", "$", "->", "x\ny", "B", "("]
noncomputable def secL : List Str := ["->", "->", "->", "=>", "", "->", "A"]
noncomputable def badL : List Str := ["", "$", "->", "x\ny"]
noncomputable def allL : List Str := cleanL ++ dirtyL ++ secL
/-- a row of words: what the law builds -/
structure RowOK (w : List Str) : Prop where
  ne : w ≠ []
  le : w.length ≤ 4
  all : ∀ s ∈ w, s ∈ allL
  sym : ∀ s ∈ w.take 1 ++ w.drop 2, s ∈ cleanL ++ dirtyL
noncomputable def shp (w : List Str) : Bool := decide (w[1]? = some ("->" : Str))
noncomputable def rowG (w : List Str) : Str × List Str := (w.headD "", w.drop 2)
noncomputable def refB (w : List Str) : Bool := !shp w || (w.take 1 ++ w.drop 2).any fun s => decide (s ∈ badL)
theorem all_free : ∀ s ∈ allL, (32 : Nat) ∉ s.cps.toList := by decide +kernel
theorem all_short : ∀ s ∈ allL, s.length ≤ 3 := by decide +kernel
theorem sym_bad : ∀ s ∈ cleanL ++ dirtyL, symBad s = decide (s ∈ badL) := by decide +kernel
theorem split_row {w : List Str} (x : RowOK w) : Txt.split (Str.join " " w) " " = w := split_of_join (c := 32) x.ne fun y hy => all_free y (x.all y hy)
theorem shp_is {w : List Str} (h : shp w = true) : ∃ (h : Str) (bd : List Str), w = h :: ("->" : Str) :: bd := by
  unfold shp at h
  rw [decide_eq_true_iff] at h
  match w, h with
  | [], h => cases h
  | [a], h => cases h
  | a :: b :: bd, h => exact ⟨a, bd, by simp at h; rw [h]⟩
theorem rd_row {w : List Str} (x : RowOK w) : rdLine (Str.join " " w) = if shp w = true then some (rowG w) else none := by
  unfold rdLine
  rw [split_row x]
  match w, x.ne with
  | [a], _ => rfl
  | a :: b :: bd, _ =>
    have e : shp (a :: b :: bd) = decide (b = "->") := by unfold shp; simp
    rw [e]
    by_cases hb : b = "->"
    · simp [hb, rowG]
    · simp [hb]
theorem rdAll_rows : ∀ {rows : List (List Str)}, (∀ w ∈ rows, RowOK w) → rdAll (rows.map (Str.join " ")) = if rows.all shp = true then some (rows.map rowG) else none
  | [], _ => rfl
  | w :: rows, h => by
    rw [List.map_cons, rdAll, rd_row (h w (List.mem_cons_self ..)), rdAll_rows fun v hv => h v (List.mem_cons_of_mem _ hv)]
    cases e1 : shp w <;> cases e2 : rows.all shp <;> simp [e1, e2]
theorem gok_rows {rows : List (List Str)} (h : ∀ w ∈ rows, RowOK w) (hs : rows.all shp = true) : gok (rows.map rowG) = !(rows.isEmpty || rows.any refB) := by
  unfold gok
  have e1 : (rows.map rowG).isEmpty = rows.isEmpty := by cases rows <;> rfl
  rw [e1, Bool.not_or]
  congr 1
  rw [List.all_map, List.not_any_eq_all_not]
  have key : ∀ w ∈ rows, ((fun r : Str × List Str => (r.1 :: r.2).all fun s => !symBad s) ∘ rowG) w = !refB w := fun w hw => by
    have hk := h w hw
    have hsh := List.all_eq_true.mp hs w hw
    obtain ⟨a, bd, rfl⟩ := shp_is hsh
    have e : refB (a :: "->" :: bd) = (a :: bd).any fun s => decide (s ∈ badL) := by unfold refB; rw [hsh]; rfl
    rw [e, List.not_any_eq_all_not]
    show ((a :: bd).all fun s => !symBad s) = _
    rw [Bool.eq_iff_iff, List.all_eq_true, List.all_eq_true]
    have hb : ∀ s ∈ a :: bd, symBad s = decide (s ∈ badL) := fun s hs' => sym_bad s (hk.sym s hs')
    exact ⟨fun hh s hs' => by rw [← hb s hs']; exact hh s hs', fun hh s hs' => by rw [hb s hs']; exact hh s hs'⟩
  rw [Bool.eq_iff_iff, List.all_eq_true, List.all_eq_true]
  exact ⟨fun hh w hw => by rw [← key w hw]; exact hh w hw, fun hh w hw => by rw [key w hw]; exact hh w hw⟩
theorem read_none {rows : List (List Str)} (h : ∀ w ∈ rows, RowOK w) : decide (readG (rows.map (Str.join " ")) = none) = (rows.isEmpty || rows.any refB) := by
  unfold readG
  rw [rdAll_rows h]
  by_cases hs : rows.all shp = true
  · rw [if_pos hs]
    have := gok_rows h hs
    cases e : (rows.isEmpty || rows.any refB) with
    | true => rw [e] at this; simp [this]
    | false => rw [e] at this; simp [this]
  · rw [if_neg hs]
    rw [Bool.not_eq_true, List.all_eq_false] at hs
    obtain ⟨w, hw, hn⟩ := hs
    have : rows.any refB = true := List.any_eq_true.mpr ⟨w, hw, by unfold refB; simp at hn; simp [hn]⟩
    simp [this]
theorem rows_small {rows : List (List Str)} (h : ∀ w ∈ rows, RowOK w) (hl : rows.length ≤ 3) (g : Gram) (e : readG (rows.map (Str.join " ")) = some g) : (∀ r ∈ g, small r) ∧ g.length ≤ 60 ∧ g.map lineOf = rows.map (Str.join " ") := by
  unfold readG at e
  rw [rdAll_rows h] at e
  by_cases hs : rows.all shp = true
  · rw [if_pos hs] at e
    simp only at e
    split at e
    · cases e
      refine ⟨fun r hr => ?_, by simp; omega, ?_⟩
      · obtain ⟨w, hw, rfl⟩ := List.mem_map.mp hr
        obtain ⟨a, bd, rfl⟩ := shp_is (List.all_eq_true.mp hs w hw)
        have hk := h _ hw
        have le := hk.le
        refine ⟨Nat.le_trans (all_short _ (hk.all a (by simp))) (by decide), ?_, fun s hs' => Nat.le_trans (all_short _ (hk.all s ?_)) (by decide)⟩
        · simp [rowG] at le ⊢; omega
        · simp [rowG] at hs' ⊢; simp [hs']
      · rw [List.map_map]
        refine List.map_congr_left fun w hw => ?_
        obtain ⟨a, bd, rfl⟩ := shp_is (List.all_eq_true.mp hs w hw)
        rfl
    · cases e
  · rw [if_neg hs] at e; cases e
theorem row_line {rows : List (List Str)} (h : ∀ w ∈ rows, RowOK w) : ∀ l ∈ rows.map (Str.join " "), l.length ≤ 1000 ∧ (Txt.split l " ").length ≤ 100 := by
  intro l hl
  obtain ⟨w, hw, rfl⟩ := List.mem_map.mp hl
  have hk := h w hw
  refine ⟨?_, by rw [split_row hk]; exact Nat.le_trans hk.le (by decide)⟩
  obtain ⟨a, r, rfl⟩ := List.exists_cons_of_ne_nil hk.ne
  rw [len_join_cons]
  have h1 := sum_le (l := a :: r) fun s hs => Nat.le_trans (all_short _ (hk.all s hs)) (by decide)
  have h4 : (Str.ofString " ").length = 1 := by decide +kernel
  have h5 := hk.le
  rw [h4]
  simp only [List.length_cons] at h1 h5 ⊢
  omega
theorem refused_ok (G : Gd K52 C) (hk : 0 < C.k) {wA : Addr} {w : List Str} (hw : H wA = some (.list (strsV w))) (hl : w.length ≤ 4) (q : ∀ H', H.le H' → Q (.bool (refB w)) H') :
    FCall C ["words"] (bodyAt (K52 C.w.params) 70) (namesAt (K52 C.w.params) 70) [.loc wA] H Q := by
  refine ⟨hk, rfl, fun env lo hlo h2 => ?_⟩
  change Exs _ (_ :: _) _ _ _
  repeat w_left
  by_cases h2' : w.length < 2
  · rw [if_pos (by simp; omega), if_pos rfl]
    repeat w_left
    have e : refB w = true := by
      have : shp w = false := by unfold shp; rw [List.getElem?_eq_none (by omega)]; rfl
      unfold refB; rw [this]; rfl
    have := q H (HV.le_refl _)
    rwa [e] at this
  · rw [if_neg (by simp; omega)]
    have h1 : 1 < w.length := by omega
    repeat w_left
    refine sok_list hw (by decide) (v := .str w[1]) (by rw [show (1 : Int).toNat = 1 from rfl, List.getElem?_map, List.getElem?_eq_getElem h1]; rfl) ?_
    have es : shp w = decide (w[1] = "->") := by unfold shp; rw [List.getElem?_eq_getElem h1]; simp
    repeat w_left
    by_cases ha : w[1] = "->"
    · rw [if_neg (by simp [ha])]
      repeat w_left
      rw [if_neg (by decide)]
      have e : refB w = (w.take 1 ++ w.drop 2).any fun s => decide (s ∈ badL) := by unfold refB; rw [es, decide_eq_true ha]; rfl
      refine exs_nil (exs_cons (ex_For (.inl rfl) (its_list ?_)))
      repeat w_left
      refine ⟨wA, _, 1, rfl, rfl, by decide, hw, fun c1 lc1 nc1 => ?_⟩
      have x1 := le_upd (o := .list ((strsV w).take (1 : Int).toNat)) nc1
      repeat w_left
      refine ⟨wA, _, 2, rfl, rfl, by decide, x1 _ _ hw, fun c2 lc2 nc2 => ?_⟩
      have x2 := x1.trans (le_upd (o := .list ((strsV w).drop (2 : Int).toNat)) nc2)
      refine bok_add_list (vs := strsV (w.take 1)) (ws := strsV (w.drop 2)) (upd_old (by rw [upd_at]; simp) nc2) (by rw [upd_at]; simp) (by simp; omega) fun c3 lc3 nc3 => ?_
      have x3 := x2.trans (le_upd (o := .list (strsV (w.take 1) ++ strsV (w.drop 2))) nc3)
      have e3 : upd (upd (upd H c1 (.list ((strsV w).take (1 : Int).toNat))) c2 (.list ((strsV w).drop (2 : Int).toNat))) c3 (.list (strsV (w.take 1) ++ strsV (w.drop 2))) c3 = some (.list (strsV (w.take 1 ++ w.drop 2))) := by rw [upd_at]; simp
      generalize upd (upd (upd H c1 (.list ((strsV w).take (1 : Int).toNat))) c2 (.list ((strsV w).drop (2 : Int).toNat))) c3 (.list (strsV (w.take 1) ++ strsV (w.drop 2))) = H1 at x3 e3
      generalize w.take 1 ++ w.drop 2 = u at e e3
      refine ⟨c3, _, rfl, e3, ?_⟩
      refine ⟨fun i ρ' H' => H1.le H' ∧ (u.take i).any (fun s => decide (s ∈ badL)) = false, ⟨HV.le_refl _, by simp⟩, ?_, ?_⟩
      · rintro i v ρ' H' hv ⟨le, hn⟩ ok
        obtain ⟨x, hx, rfl⟩ := strs_get hv
        have ok' : H' c3 = some (.list (strsV u)) := ok
        repeat w_left
        refine ⟨by simp, fun b lb nb => ?_⟩
        have x4 := le_upd (o := .list [.str "", .str "$", .str "->", .str "x\ny"]) nb
        refine cok_in_strs (ss := badL) (upd_at _ _ _) ?_
        repeat w_left
        by_cases hb : x ∈ badL
        · rw [decide_eq_true hb, if_pos rfl]
          repeat w_left
          have := q _ ((x3.trans le).trans x4)
          have e' : refB w = true := by rw [e]; exact List.any_eq_true.mpr ⟨x, List.mem_of_getElem? hx, decide_eq_true hb⟩
          rwa [e'] at this
        · rw [decide_eq_false hb, if_neg (by decide)]
          repeat w_left
          refine ⟨⟨le.trans x4, ?_⟩, x4 _ _ ok'⟩
          rw [take_snoc hx, List.any_append, hn]
          simp [hb]
      · rintro ρ' H' ⟨le, hn⟩ ok
        have : (Src.list c3 (strsV u)).vals.length = u.length := by show (strsV u).length = _; simp
        rw [this, List.take_length] at hn
        repeat w_left
        have := q _ (x3.trans le)
        rwa [e, hn] at this
    · rw [if_pos (by simpa using ha), if_pos rfl]
      repeat w_left
      have e : refB w = true := by unfold refB; rw [es, decide_eq_false ha]; rfl
      have := q H (HV.le_refl _)
      rwa [e] at this
noncomputable def pk (l : List Str) (c : Int) : Str := l.getD (c.fmod (l.length : Int)).toNat ""
theorem pk_get {l : List Str} (h : 0 < l.length) (c : Int) : (strsV l)[(c.fmod ((strsV l).length : Int)).toNat]? = some (.str (pk l c)) ∧ pk l c ∈ l := by
  have h1 := fm0 c (n := (l.length : Int)) (by omega)
  have h2 := fm1 c (n := (l.length : Int)) (by omega)
  have h3 : (c.fmod (l.length : Int)).toNat < l.length := by omega
  have e : pk l c = l[(c.fmod (l.length : Int)).toNat] := by unfold pk; rw [List.getD_eq_getElem?_getD, List.getElem?_eq_getElem h3]; rfl
  rw [List.length_map, List.getElem?_map, List.getElem?_eq_getElem h3, e]
  exact ⟨rfl, List.getElem_mem _⟩
noncomputable def StkOK (stk sec : List Str) (lw : Int) : Prop := (stk = cleanL ∧ sec = (["->"] : List Str) ∧ lw = 2) ∨ (stk = dirtyL ∧ sec = secL ∧ lw = 1)
theorem StkOK.facts {stk sec : List Str} {lw : Int} (x : StkOK stk sec lw) : 0 < stk.length ∧ 0 < sec.length ∧ (∀ s ∈ stk, s ∈ cleanL ++ dirtyL) ∧ (∀ s ∈ sec, s ∈ allL) ∧ 1 ≤ lw ∧ lw ≤ 2 := by
  rcases x with ⟨rfl, rfl, rfl⟩ | ⟨rfl, rfl, rfl⟩
  · exact ⟨by decide, by decide, fun s h => List.mem_append_left _ h, by decide +kernel, by decide, by decide⟩
  · exact ⟨by decide, by decide, fun s h => List.mem_append_right _ h, fun s h => List.mem_append_right _ h, by decide, by decide⟩
theorem row_ok {stk sec : List Str} {lw : Int} (x : StkOK stk sec lw) (h s y c : Int) : RowOK (([pk stk h, pk sec s, pk stk y, pk stk (h + y)] : List Str).take (lw + c.fmod (5 - lw)).toNat) := by
  obtain ⟨f1, f2, f3, f4, f5, f6⟩ := x.facts
  have c0 := fm0 c (n := 5 - lw) (by omega)
  have c1 := fm1 c (n := 5 - lw) (by omega)
  have a1 := f3 _ (pk_get f1 h).2
  have a2 := f4 _ (pk_get f2 s).2
  have a3 := f3 _ (pk_get f1 y).2
  have a4 := f3 _ (pk_get f1 (h + y)).2
  have up : ∀ s, s ∈ cleanL ++ dirtyL → s ∈ allL := fun s hs => List.mem_append_left _ hs
  generalize pk stk h = u1 at *
  generalize pk sec s = u2 at *
  generalize pk stk y = u3 at *
  generalize pk stk (h + y) = u4 at *
  have hn : (lw + c.fmod (5 - lw)).toNat = 1 ∨ (lw + c.fmod (5 - lw)).toNat = 2 ∨ (lw + c.fmod (5 - lw)).toNat = 3 ∨ (lw + c.fmod (5 - lw)).toNat = 4 := by omega
  rcases hn with e | e | e | e <;> rw [e]
  · refine ⟨by simp, by simp, fun s hs => ?_, fun s hs => ?_⟩
    · simp only [List.take_succ_cons, List.take_zero, List.mem_cons, List.not_mem_nil, or_false] at hs
      rw [hs]; exact up _ a1
    · simp at hs
      rw [hs]; exact a1
  · refine ⟨by simp, by simp, fun s hs => ?_, fun s hs => ?_⟩
    · simp only [List.take_succ_cons, List.take_zero, List.mem_cons, List.not_mem_nil, or_false] at hs
      rcases hs with hs | hs <;> rw [hs]
      · exact up _ a1
      · exact a2
    · simp at hs
      rw [hs]; exact a1
  · refine ⟨by simp, by simp, fun s hs => ?_, fun s hs => ?_⟩
    · simp only [List.take_succ_cons, List.take_zero, List.mem_cons, List.not_mem_nil, or_false] at hs
      rcases hs with hs | hs | hs <;> rw [hs]
      · exact up _ a1
      · exact a2
      · exact up _ a3
    · simp only [List.take_succ_cons, List.take_zero, List.drop_succ_cons, List.drop_zero, List.mem_append, List.mem_cons, List.not_mem_nil, or_false] at hs
      rcases hs with hs | hs <;> rw [hs]
      · exact a1
      · exact a3
  · refine ⟨by simp, by simp, fun s hs => ?_, fun s hs => ?_⟩
    · simp only [List.take_succ_cons, List.take_zero, List.mem_cons, List.not_mem_nil, or_false] at hs
      rcases hs with hs | hs | hs | hs <;> rw [hs]
      · exact up _ a1
      · exact a2
      · exact up _ a3
      · exact up _ a4
    · simp only [List.take_succ_cons, List.take_zero, List.drop_succ_cons, List.drop_zero, List.mem_append, List.mem_cons, List.not_mem_nil, or_false] at hs
      rcases hs with hs | hs | hs <;> rw [hs]
      · exact a1
      · exact a3
      · exact a4
theorem snoc_strs (j : List Str → Str) (l : List (List Str)) (w : List Str) : strsV (l.map j) ++ [V.str (j w)] = strsV ((l ++ [w]).map j) := by
  rw [List.map_append]
  show List.map V.str (l.map j) ++ [V.str (j w)] = List.map V.str (l.map j ++ [w].map j)
  rw [List.map_append]; rfl
theorem law_ok (G : Gd K52 C) (CO : ClsOK C.B 24) (hk : 10 < C.k) {a : Addr} {ns : List Int} (ha : H a = some (.list (intsV ns))) (h54 : H 54 = some (.list (strsV cleanL))) (h55 : H 55 = some (.list (strsV dirtyL))) (h56 : H 56 = some (.list (strsV secL))) :
    ∀ env lo, C.B.objs.size ≤ lo → (∀ a, (H a).isSome = true → a < lo) → Exs0 (C.into env lo (namesAt (K52 C.w.params) 75)) (bodyAt (K52 C.w.params) 75) (argsV ["script"] [.loc a]) H fun fl _ H' => retOf fl = .bool true := by
  intro env lo hlo h2
  have hk0 : 0 < C.k - 1 := kk hk (by decide)
  change Exs0 _ (_ :: _) _ _ _
  refine exs0_cons ?_
  repeat w_left
  refine exs0_cons ?_
  repeat w_left
  refine ⟨by simp, fun s0 ls0 ns0 => ?_⟩
  have x0 := le_upd (o := .list [.str "->"]) ns0
  refine exs0_cons ?_
  repeat w_left
  refine exs0_mid (fun ρ₁ H₁ => ∃ sk sc stk sec lw, ρ₁ "script" = some (.loc a) ∧ ρ₁ "stock" = some (.loc sk) ∧ ρ₁ "seconds" = some (.loc sc) ∧ ρ₁ "low" = some (.int lw) ∧ H.le H₁ ∧ H₁ sk = some (.list (strsV stk)) ∧ H₁ sc = some (.list (strsV sec)) ∧ StkOK stk sec lw) ?_ ?_
  · repeat w_left
    refine cell_ok (by exact G.cast rfl rfl) hk0 (x0 _ _ ha) (by decide) ?_
    repeat w_left
    split
    · repeat w_left
      exact ⟨55, 56, dirtyL, secL, 1, rfl, rfl, rfl, rfl, x0, x0 _ _ h55, x0 _ _ h56, .inr ⟨rfl, rfl, rfl⟩⟩
    · repeat w_left
      exact ⟨54, s0, cleanL, ["->"], 2, rfl, rfl, rfl, rfl, x0, x0 _ _ h54, upd_at _ _ _, .inl ⟨rfl, rfl, rfl⟩⟩
  rintro ρ₁ H1 ⟨sk, sc, stk, sec, lw, r1, r2, r3, r4, le1, e1, e2, so⟩
  obtain ⟨f1, f2, f3, f4, f5, f6⟩ := so.facts
  have ha1 := le1 _ _ ha
  refine exs0_cons ?_
  repeat w_left
  refine ⟨by decide, fun R lR nR => ?_⟩
  have n0 := fm0 (cellv ns 1) (n := 4) (by decide)
  have n1 := fm1 (cellv ns 1) (n := 4) (by decide)
  obtain ⟨N, hN⟩ : ∃ N : Nat, (cellv ns 1).fmod 4 = (N : Int) := ⟨((cellv ns 1).fmod 4).toNat, by omega⟩
  refine exs0_mid (fun ρ₂ H₂ => ρ₂ "script" = some (.loc a) ∧ ρ₂ "rows" = some (.loc R) ∧ H1.le H₂ ∧ ∃ ts rows, H₂ R = some (.list (ts.map V.loc)) ∧ LsAt H₂ ts rows ∧ rows.length ≤ 3 ∧ ∀ w ∈ rows, RowOK w) ?_ ?_
  · refine ex_For (.inl rfl) (its_range1 (Gd.blt (K := K52) (by exact G.cast rfl rfl) rfl rfl (by decide)) rfl ?_)
    repeat w_left
    refine cell_ok (by exact G.cast rfl rfl) hk0 ((le_upd nR) _ _ ha1) (by decide) ?_
    repeat w_left
    refine ⟨N, by rw [hN], by omega, by omega, ?_⟩
    rw [Int.toNat_natCast]
    refine ⟨fun i ρ' H' => ρ' "script" = some (.loc a) ∧ ρ' "stock" = some (.loc sk) ∧ ρ' "seconds" = some (.loc sc) ∧ ρ' "low" = some (.int lw) ∧ ρ' "rows" = some (.loc R) ∧ H1.le H' ∧ ∃ ts rows, H' R = some (.list (ts.map V.loc)) ∧ LsAt H' ts rows ∧ (∀ t ∈ ts, t ≠ R) ∧ rows.length = i ∧ ∀ w ∈ rows, RowOK w,
      ⟨r1, r2, r3, r4, rfl, le_upd nR, [], [], upd_at _ _ _, .nil, by simp, rfl, by simp⟩, ?_, ?_⟩
    · rintro i v ρ' H' hv ⟨q1, q2, q3, q4, q5, le, ts, rows, eR, ls, neR, rl, ro⟩ ok
      obtain ⟨hi, rfl⟩ := rng_get hv
      rw [Int.zero_add]
      have e1' := le _ _ e1
      have e2' := le _ _ e2
      have ha2 := le _ _ ha1
      have tl := ls.length
      have z1 : ((strsV stk).length : Int) ≠ 0 := by simp only [List.length_map]; omega
      have z2 : ((strsV sec).length : Int) ≠ 0 := by simp only [List.length_map]; omega
      have z1' : (0 : Int) < ((strsV stk).length : Int) := by simp only [List.length_map]; omega
      have z2' : (0 : Int) < ((strsV sec).length : Int) := by simp only [List.length_map]; omega
      repeat w_left
      refine cell_ok (by exact G.cast rfl rfl) hk0 ha2 (by omega) ?_
      repeat w_left
      refine cell_ok (by exact G.cast rfl rfl) hk0 ha2 (by omega) ?_
      repeat w_left
      refine cell_ok (by exact G.cast rfl rfl) hk0 ha2 (by omega) ?_
      repeat w_left
      refine cell_ok (by exact G.cast rfl rfl) hk0 ha2 (by omega) ?_
      repeat w_left
      refine bok_mod (by omega) ?_
      generalize cellv ns (3 + 4 * (i : Int)) = ch
      generalize cellv ns (4 + 4 * (i : Int)) = cs
      generalize cellv ns (5 + 4 * (i : Int)) = cx
      generalize cellv ns (6 + 4 * (i : Int)) = cz
      have hrow := row_ok so ch cs cx cz
      have c0 := fm0 cz (n := 5 - lw) (by omega)
      repeat w_left
      refine bok_mod z1 ?_
      refine sok_list e1' (fm0 _ z1') (pk_get f1 ch).1 ?_
      repeat w_left
      refine bok_mod z2 ?_
      refine sok_list e2' (fm0 _ z2') (pk_get f2 cs).1 ?_
      repeat w_left
      refine bok_mod z1 ?_
      refine sok_list e1' (fm0 _ z1') (pk_get f1 cx).1 ?_
      repeat w_left
      refine bok_mod z1 ?_
      refine sok_list e1' (fm0 _ z1') (pk_get f1 (ch + cx)).1 ?_
      repeat w_left
      refine ⟨by simp, fun b lb nb => ?_⟩
      have x1 := le_upd (o := .list [.str (pk stk ch), .str (pk sec cs), .str (pk stk cx), .str (pk stk (ch + cx))]) nb
      have eb := upd_at H' b (.list [.str (pk stk ch), .str (pk sec cs), .str (pk stk cx), .str (pk stk (ch + cx))])
      generalize upd H' b (.list [.str (pk stk ch), .str (pk sec cs), .str (pk stk cx), .str (pk stk (ch + cx))]) = H2 at x1 eb
      refine exs_cons (ex_append ?_)
      repeat w_left
      refine ⟨R, rfl, ⟨_, x1 _ _ eR⟩, ?_⟩
      repeat w_left
      refine ⟨b, _, _, rfl, rfl, by omega, eb, fun sb lsb nsb => ?_⟩
      have sbR : sb ≠ R := (ne_of_new (x1 _ _ eR) nsb).symm
      have esb : upd H2 sb (.list (([.str (pk stk ch), .str (pk sec cs), .str (pk stk cx), .str (pk stk (ch + cx))] : List V).take (lw + cz.fmod (5 - lw)).toNat)) sb = some (.list (strsV (([pk stk ch, pk sec cs, pk stk cx, pk stk (ch + cx)] : List Str).take (lw + cz.fmod (5 - lw)).toNat))) := by
        rw [upd_at, strsV, List.map_take]; rfl
      have x2 := x1.trans (le_upd (o := .list (([.str (pk stk ch), .str (pk sec cs), .str (pk stk cx), .str (pk stk (ch + cx))] : List V).take (lw + cz.fmod (5 - lw)).toNat)) nsb)
      generalize upd H2 sb (.list (([.str (pk stk ch), .str (pk sec cs), .str (pk stk cx), .str (pk stk (ch + cx))] : List V).take (lw + cz.fmod (5 - lw)).toNat)) = H3 at x2 esb
      refine ⟨_, x2 _ _ eR, lR, by simp [tl, rl]; omega, ?_⟩
      repeat w_left
      refine ⟨⟨q1, q2, q3, q4, q5, le_turn (le.trans x2) nR, ts ++ [sb], rows ++ [_], by rw [upd_at]; simp, ((ls.le x2).away neR).append (.cons (upd_keep sbR esb) .nil), ?_, by simp [rl], ?_⟩, ok⟩
      · intro t ht
        rcases List.mem_append.mp ht with ht | ht
        · exact neR t ht
        · rw [List.mem_singleton.mp ht]; exact sbR
      · intro w hw
        rcases List.mem_append.mp hw with hw | hw
        · exact ro w hw
        · rw [List.mem_singleton.mp hw]; exact hrow
    · rintro ρ' H' ⟨q1, q2, q3, q4, q5, le, ts, rows, eR, ls, neR, rl, ro⟩ ok
      rw [rng_len] at rl
      exact ⟨q1, q5, le, ts, rows, eR, ls, by omega, ro⟩
  rintro ρ₂ H2 ⟨q1, q2, le2, ts, rows, eR, ls, rl, ro⟩
  have ha2 := le2 _ _ ha1
  have tl := ls.length
  refine exs0_cons ?_
  repeat w_left
  refine exs0_mid (fun ρ₃ H₃ => ρ₃ "script" = some (.loc a) ∧ ρ₃ "rows" = some (.loc R) ∧ H2.le H₃ ∧ ρ₃ "refused" = some (.bool (rows.isEmpty || rows.any refB))) ?_ ?_
  · refine ex_For (.inl rfl) (its_list ?_)
    repeat w_left
    refine ⟨R, _, rfl, eR, ?_⟩
    have einit : ((((ts.map V.loc).length : Nat) : Int) == 0) = rows.isEmpty := by
      rw [List.length_map, tl]
      cases rows <;> simp
      omega
    refine ⟨fun i ρ' H' => ρ' "script" = some (.loc a) ∧ ρ' "rows" = some (.loc R) ∧ H2.le H' ∧ ρ' "refused" = some (.bool (rows.isEmpty || (rows.take i).any refB)), ⟨q1, q2, HV.le_refl _, by show some (V.bool _) = _; rw [einit]; simp⟩, ?_, ?_⟩
    · rintro i v ρ' H' hv ⟨w1, w2, le, w3⟩ ok
      have hv' : (ts.map V.loc)[i]? = some v := hv
      rw [List.getElem?_map] at hv'
      obtain ⟨t, ht, rfl⟩ := Option.map_eq_some_iff.mp hv'
      have hil : i < rows.length := by rw [← tl]; exact (List.getElem?_eq_some_iff.mp ht).1
      have hri : rows[i]? = some rows[i] := List.getElem?_eq_getElem hil
      obtain ⟨t', ht', et⟩ := ls.get hri
      rw [ht] at ht'; cases ht'
      have okR : H' R = some (.list (ts.map V.loc)) := ok
      have hk4 := (ro _ (List.getElem_mem hil)).le
      have htk := take_snoc hri
      generalize rows[i] = w at *
      repeat w_left
      refine refused_ok (by exact G.cast rfl rfl) hk0 (le _ _ et) hk4 fun H4 le4 => ?_
      repeat w_left
      by_cases hb : refB w = true
      · rw [if_pos hb]
        repeat w_left
        refine ⟨⟨w1, w2, le.trans le4, ?_⟩, le4 _ _ okR⟩
        show some (V.bool true) = _
        rw [htk, List.any_append]; simp [hb]
      · rw [if_neg hb]
        repeat w_left
        refine ⟨⟨w1, w2, le.trans le4, ?_⟩, le4 _ _ okR⟩
        show ρ' "refused" = _
        rw [w3, htk, List.any_append]; simp [hb]
    · rintro ρ' H' ⟨w1, w2, le, w3⟩ ok
      have hlen : (Src.list R (ts.map V.loc)).vals.length = rows.length := by show (ts.map V.loc).length = _; rw [List.length_map, tl]
      rw [hlen, List.take_length] at w3
      exact ⟨w1, w2, le, w3⟩
  rintro ρ₃ H3 ⟨w1, w2, le3, w3⟩
  have hrn := read_none ro
  rw [← hrn] at w3
  have hsm := rows_small ro rl
  have hzz := row_line ro
  have lines_len : (rows.map (Str.join " ")).length ≤ 3 := by rw [List.length_map]; exact rl
  have elt : ∀ (H' : HV), H3.le H' → ∀ i t w, ts[i]? = some t → rows[i]? = some w → H' t = some (.list (strsV w)) ∧ (w.map (·.length)).sum + w.length ≤ 1048576 := fun H' le i t w ht hw => by
    obtain ⟨t', ht', et⟩ := ls.get hw
    rw [ht] at ht'; cases ht'
    have hkw := ro w (List.mem_of_getElem? hw)
    have h1 := sum_le (l := w) fun s hs => Nat.le_trans (all_short _ (hkw.all s hs)) (by decide)
    have h5 := hkw.le
    exact ⟨le _ _ (le3 _ _ et), by omega⟩
  refine exs0_cons (ex_AssignComp (its_list ?_) rfl)
  repeat w_left
  refine ⟨R, _, rfl, le3 _ _ eR, ?_⟩
  have hlen : (Src.list R (ts.map V.loc)).vals.length = rows.length := by show (ts.map V.loc).length = _; rw [List.length_map, tl]
  refine ⟨fun i ys H' => H' = H3 ∧ ys = strsV ((rows.take i).map (Str.join " ")), ⟨⟨rfl, rfl⟩, ?_⟩, ?_⟩
  · rintro i v ys H' hv ⟨rfl, rfl⟩ ok' env'
    have hv' : (ts.map V.loc)[i]? = some v := hv
    rw [List.getElem?_map] at hv'
    obtain ⟨t, ht, rfl⟩ := Option.map_eq_some_iff.mp hv'
    have hil : i < rows.length := by rw [← tl]; exact (List.getElem?_eq_some_iff.mp ht).1
    have hri : rows[i]? = some rows[i] := List.getElem?_eq_getElem hil
    obtain ⟨et, bw⟩ := elt H' (HV.le_refl _) i t _ ht hri
    refine ifs_nil ?_
    show Ev _ _ _ _ _
    refine ev_MethS PySem.F.slot_str_join PySem.F.type_str_join ?_
    repeat w_left
    refine ⟨_, rfl, ?_⟩
    repeat w_left
    refine vc_join et (by decide +kernel) bw ?_
    exact ⟨⟨rfl, by rw [take_snoc hri]; exact snoc_strs _ _ _⟩, ok'⟩
  rintro ys H' ⟨rfl, rfl⟩ lA llA nlA
  rw [hlen, List.take_length]
  have x4 := le_upd (o := .list (strsV (rows.map (Str.join " ")))) nlA
  have eL := upd_at H' lA (.list (strsV (rows.map (Str.join " "))))
  generalize upd H' lA (.list (strsV (rows.map (Str.join " ")))) = H4 at x4 eL
  refine exs0_cons ?_
  repeat w_left
  refine exs0_cons ?_
  repeat w_left
  generalize hLs : rows.map (Str.join " ") = L at *
  refine exs0_mid (fun ρ₅ H₅ => ρ₅ "rows" = some (.loc R) ∧ ρ₅ "lines" = some (.loc lA) ∧ H4.le H₅ ∧ ∃ gA tp, ρ₅ "given" = some (.loc gA) ∧ LnAt H₅ gA tp L ∧ ρ₅ "want" = some (.bool (decide (readG L = none) || !tp))) ?_ ?_
  · have ha4 := x4 _ _ (le3 _ _ ha2)
    repeat w_left
    refine cell_ok (by exact G.cast rfl rfl) hk0 ha4 (by decide) ?_
    repeat w_left
    split
    · repeat w_left
      refine vc_tuple eL fun tA ltA ntA => ?_
      repeat w_left
      refine ⟨w2, rfl, le_upd ntA, tA, true, rfl, upd_at _ _ _, ?_⟩
      simp only [Bool.not_true, Bool.or_false]
      first | rfl | exact w3
    · repeat w_left
      exact ⟨w2, rfl, HV.le_refl _, lA, false, rfl, eL, by simp; rfl⟩
  rintro ρ₅ H5 ⟨v1, v2, le5, gA, tp, v3, hL, v4⟩
  refine exs0_call (fn_target (by exact G.cast rfl rfl)) G.lim (Gd.glob (K := K52) (by exact G.cast rfl rfl) rfl) rfl (.inl rfl) ?_
  repeat w_left
  refine target_ok (C := C.into env lo (namesAt (K52 C.w.params) 75)) (by exact G.cast rfl rfl) CO (kk hk (by decide)) hL lines_len hzz hsm fun H6 le6 => exs0_of ?_
  generalize hbv : (decide (readG L = none) || !tp) = b at *
  have le46 := le5.trans le6
  have le36 := x4.trans le46
  refine exs_mid (fun ρ₆ H₆ => H6 = H₆ ∧ ρ₆ "want" = some (.bool b) ∧ ρ₆ "got" = some (.bool b) ∧ ρ₆ "rows" = some (.loc R) ∧ ρ₆ "lines" = some (.loc lA)) ?_ ?_
  · cases b with
    | true =>
      repeat w_left
      rw [if_pos rfl]
      repeat w_left
      refine cok_isnot_bool ?_
      repeat w_left
      rw [if_neg (by decide)]
      rw [if_neg (by decide)]
      repeat w_left
      exact ⟨rfl, v4, rfl, v1, v2⟩
    | false =>
      repeat w_left
      rw [if_neg (by decide)]
      rw [if_neg (by decide)]
      repeat w_left
      exact ⟨rfl, v4, rfl, v1, v2⟩
  rintro ρ₆ _ ⟨rfl, y1, y2, y3, y4⟩
  refine exs_mid (fun ρ₇ H₇ => H6 = H₇ ∧ ρ₇ "rows" = some (.loc R) ∧ ρ₇ "lines" = some (.loc lA)) ?_ ?_
  · cases b with
    | true =>
      repeat w_left
      rw [if_neg (by decide)]
      rw [if_neg (by decide)]
      repeat w_left
      exact ⟨rfl, y3, y4⟩
    | false =>
      repeat w_left
      rw [if_pos (by decide)]
      repeat w_left
      refine cok_isnot_bool ?_
      repeat w_left
      rw [if_neg (by decide)]
      rw [if_neg (by decide)]
      repeat w_left
      exact ⟨rfl, y3, y4⟩
  rintro ρ₇ _ ⟨rfl, z1, z2⟩
  refine exs_cons (ex_If (t_Compare ?_))
  repeat w_left
  refine ev_ListComp (its_list ?_)
  repeat w_left
  refine ⟨R, _, rfl, le36 _ _ (le3 _ _ eR), ?_⟩
  refine ⟨fun i ys H' => H' = H6 ∧ ys = strsV ((rows.take i).map (Str.join " ")), ⟨⟨rfl, rfl⟩, ?_⟩, ?_⟩
  · rintro i v ys H'' hv ⟨rfl, rfl⟩ ok' env'
    have hv' : (ts.map V.loc)[i]? = some v := hv
    rw [List.getElem?_map] at hv'
    obtain ⟨t, ht, rfl⟩ := Option.map_eq_some_iff.mp hv'
    have hil : i < rows.length := by rw [← tl]; exact (List.getElem?_eq_some_iff.mp ht).1
    have hri : rows[i]? = some rows[i] := List.getElem?_eq_getElem hil
    obtain ⟨et, bw⟩ := elt H'' le36 i t _ ht hri
    refine ifs_nil ?_
    show Ev _ _ _ _ _
    refine ev_MethS PySem.F.slot_str_join PySem.F.type_str_join ?_
    repeat w_left
    refine ⟨_, rfl, ?_⟩
    repeat w_left
    refine vc_join et (by decide +kernel) bw ?_
    exact ⟨⟨rfl, by rw [take_snoc hri]; exact snoc_strs _ _ _⟩, ok'⟩
  rintro ys H'' ⟨rfl, rfl⟩ cA lcA ncA
  rw [hlen, List.take_length, hLs]
  refine cok_ne_strs (upd_old (le46 _ _ eL) ncA) (upd_at _ _ _) ?_
  repeat w_left
  rw [if_neg (by simp)]
  repeat w_left
  rfl
end Mine
end
section
set_option maxRecDepth 100000
set_option Elab.async false
set_option linter.unusedVariables false
open PySem PySem.W PyProof.Rows
set_option maxHeartbeats 8000000
theorem PySem.Challenge.cw_k18_0052_holds : PySem.Challenge.rw_k18_0052.Holds := by
  apply Mine.hd
  w_strict (
  k_fill;
  intro w s₀ s₁ mg mb G Y fa o pm cd doc dV kV ho hd hcd hD hmg hg args vals as hpre hlay hrd hwl hlo;
  have KX := kIn_of Y;
  refine Ground.open G ?_;
  intro T B D TE TW;
  wrow_args hpre hlay hrd hwl hlo;
  have hcls := Mine.cls_of (c := 24) (N := 23) (KX 24 _ rfl) (KX 23 _ rfl) rfl rfl rfl;
  refine Mine.law_topF (K := Mine.hd.heap_39) (la := 75) (ns := ?ns) (fd := Mine.fdAt (Mine.hd.heap_39 w.params) 75) T ?i KX ?W hmg ?n ?l ?F [(54, .list (Mine.strsV Mine.cleanL)), (55, .list (Mine.strsV Mine.dirtyL)), (56, .list (Mine.strsV Mine.secL))] ?gl ?nd ?h1 ?ne ?r ?p hg ?h)
  case W => assumption
  case i => decide +kernel
  case n => rfl
  case l => omega
  case F => exact fun C hC G => by have := Mine.fn_law G; rw [hC] at this; exact this
  case gl =>
    intro q hq
    simp only [List.mem_cons, List.not_mem_nil, or_false] at hq
    rcases hq with rfl | rfl | rfl
    · refine Mine.obj_list (C := ⟨_, w, s₁.heap, default, 0, [], 0⟩) (KX 54 _ rfl) ?_ (by decide)
      repeat first | exact .nil | refine .cons (Mine.abs_str (by decide +kernel)) ?_
    · refine Mine.obj_list (C := ⟨_, w, s₁.heap, default, 0, [], 0⟩) (KX 55 _ rfl) ?_ (by decide)
      repeat first | exact .nil | refine .cons (Mine.abs_str (by decide +kernel)) ?_
    · refine Mine.obj_list (C := ⟨_, w, s₁.heap, default, 0, [], 0⟩) (KX 56 _ rfl) ?_ (by decide)
      repeat first | exact .nil | refine .cons (Mine.abs_str (by decide +kernel)) ?_
  case nd => decide
  case h1 => intro q hq; simp only [List.mem_cons, List.not_mem_nil, or_false] at hq; rcases hq with rfl | rfl | rfl <;> decide
  case ne =>
    intro q hq ns
    simp only [List.mem_cons, List.not_mem_nil, or_false] at hq
    rcases hq with rfl | rfl | rfl
    · cases ns <;> simp [Mine.cleanL]
    · cases ns <;> simp [Mine.dirtyL]
    · cases ns <;> simp [Mine.secL]
  case r => exact fun _ => rfl
  case p => first | rfl | wrow_post
  case h =>
    intro C G hC hk hB H a ha hgl
    have hc' : Mine.ClsOK C.B 24 := by rw [hB]; exact hcls
    have := Mine.law_ok G hc' (by omega) ha (hgl (54, .list (Mine.strsV Mine.cleanL)) (by simp)) (hgl (55, .list (Mine.strsV Mine.dirtyL)) (by simp)) (hgl (56, .list (Mine.strsV Mine.secL)) (by simp))
    rw [hC] at this
    exact this
end
