import PyProof.Rows.All
import Wide.All
import OpenK.AllK
import Wide.FinOn
import Lean
import PySem.Challenge.RW_k18_0056
section
set_option maxRecDepth 100000
set_option Elab.async false
set_option linter.unusedVariables false
namespace Mine
open PySem PySem.Spec PyProof.Rows
/-- abstract values: values without tokens -/
inductive V where
  | none | bool (b : Bool) | int (i : Int) | str (s : Str) | loc (a : Addr) | typ (n : String)
noncomputable def absV : Value → Option V
  | .none => some .none
  | .bool b => some (.bool b)
  | .int i _ => some (.int i)
  | .str x _ => if PyData.strOk x = true then some (.str x) else Option.none
  | .ref a => some (.loc a)
  | .type n => some (.typ n)
  | _ => Option.none
/-- abstract objects -/
inductive AO where
  | list (vs : List V) | tuple (vs : List V) | dict (kvs : List (Str × V))
abbrev HV := Addr → Option AO
abbrev EV := Str → Option V
noncomputable def upd (H : HV) (a : Addr) (o : AO) : HV := fun b => if b = a then some o else H b
noncomputable def put (ρ : EV) (x : Str) (v : V) : EV := fun y => if y = x then some v else ρ y
noncomputable def HV.le (H H' : HV) : Prop := ∀ a o, H a = some o → H' a = some o
inductive ValsAre : List Value → List V → Prop
  | nil : ValsAre [] []
  | cons {x : Value} {v : V} {xs : List Value} {vs : List V} : absV x = some v → ValsAre xs vs → ValsAre (x :: xs) (v :: vs)
theorem ValsAre.length {xs : List Value} {vs : List V} (h : ValsAre xs vs) : xs.length = vs.length := by
  induction h with
  | nil => rfl
  | cons _ _ ih => simp [ih]
theorem ValsAre.append {xs ys : List Value} {vs us : List V} (h : ValsAre xs vs) (k : ValsAre ys us) : ValsAre (xs ++ ys) (vs ++ us) := by
  induction h with
  | nil => exact k
  | cons a _ ih => exact .cons a ih
theorem ValsAre.one {x : Value} {v : V} (h : absV x = some v) : ValsAre [x] [v] := .cons h .nil
theorem ValsAre.get {xs : List Value} {vs : List V} (h : ValsAre xs vs) {i : Nat} {v : V} (e : vs[i]? = some v) : ∃ x, xs[i]? = some x ∧ absV x = some v := by
  induction h generalizing i with
  | nil => simp at e
  | @cons x u xs vs a _ ih =>
    cases i with
    | zero => simp at e; subst e; exact ⟨x, rfl, a⟩
    | succ i => simpa using ih (by simpa using e)
theorem ValsAre.drop {xs : List Value} {vs : List V} (h : ValsAre xs vs) (n : Nat) : ValsAre (xs.drop n) (vs.drop n) := by
  induction h generalizing n with
  | nil => simp; exact .nil
  | cons a r ih =>
    cases n with
    | zero => simp only [List.drop_zero]; exact .cons a r
    | succ n => simp only [List.drop_succ_cons]; exact ih n
theorem ValsAre.set {xs : List Value} {vs : List V} (h : ValsAre xs vs) (n : Nat) {x : Value} {v : V} (e : absV x = some v) : ValsAre (xs.set n x) (vs.set n v) := by
  induction h generalizing n with
  | nil => simp; exact .nil
  | cons a r ih =>
    cases n with
    | zero => simp only [List.set_cons_zero]; exact .cons e r
    | succ n => simp only [List.set_cons_succ]; exact .cons a (ih n)
theorem ValsAre.replicate {x : Value} {v : V} (e : absV x = some v) : ∀ n : Nat, ValsAre (List.replicate n x) (List.replicate n v)
  | 0 => .nil
  | n + 1 => .cons e (ValsAre.replicate e n)
section
variable (prog : Program) (w : World)
/-- the object at a is o -/
noncomputable def ObjIs (h : Heap) (a : Addr) : AO → Prop
  | .list vs => ∃ its : List Value, h.PlainList a its.toArray ∧ ValsAre its vs ∧ vs.length ≤ 1048576
  | .tuple vs => ∃ its : List Value, h.IsTuple a its.toArray ∧ ValsAre its vs ∧ vs.length ≤ 1048576
  | .dict kvs => ∃ cs : List (Str × Value), h.DictOf (strKind prog w) a cs ∧ cs.map (·.1) = kvs.map (·.1) ∧ ValsAre (cs.map (·.2)) (kvs.map (·.2)) ∧ kvs.length ≤ 1048576
end
/-- the room that k nested calls want -/
structure Rm (A : Around) (k : Nat) : Prop where
  hd : A.handled = Option.none
  dp : A.depth + k ≤ 900
  un : A.units + 8 * k ≤ 9000
structure EnvOk (env : Env) (nms : List (Str × NameKind)) : Prop where
  kind : env.scope.kind = .function
  glob : env.globals = mainGlobals
  bui : env.builtins = builtinsNs
  names : env.scope.names = nms
/-- where the walk stands: the program, the world, the heap ahead of the law's call, the activation's names, the first address of its own things, how many calls deep it may go -/
structure Cx where
  prog : Program
  w : World
  B : Heap
  env : Env
  lo : Nat
  nms : List (Str × NameKind)
  k : Nat
/-- a table of a code object: the one kind of thing that may grow beside the ledger -/
noncomputable def tabl (o : Obj) : Bool := match o.cls, o.data with
  | .none, .fields _ => true
  | _, _ => false
theorem tabl_dict {o : Obj} {xs : Array DictEntry} {n : Nat} (h : o.data = .dict xs n) : tabl o = false := by
  obtain ⟨c, d, dt, sl⟩ := o; cases h; unfold tabl; cases c <;> rfl
theorem tabl_cell {o : Obj} {v : Option Value} (h : o.data = .cell v) : tabl o = false := by
  obtain ⟨c, d, dt, sl⟩ := o; cases h; unfold tabl; cases c <;> rfl
theorem tabl_func {o : Obj} {f : FuncData} (h : o.data = .func f) : tabl o = false := by
  obtain ⟨c, d, dt, sl⟩ := o; cases h; unfold tabl; cases c <;> rfl
theorem tabl_type {o : Obj} {n : String} (h : o.cls = .type n) : tabl o = false := by
  obtain ⟨c, d, dt, sl⟩ := o; cases h; rfl
/-- a code object and its table -/
noncomputable def CT (h : Heap) (c P : Addr) (ps : Array Value) : Prop := h.IsCode c P ps ∧ h.TableAt c P ps
/-- code objects keep their tables, which may grow -/
noncomputable def TabK (h h' : Heap) : Prop := ∀ c P ps, CT h c P ps → ∃ ps', CT h' c P ps'
theorem isCode_at {h h' : Heap} {c P : Addr} {ps : Array Value} (x : CT h c P ps) (k : ∀ o, h.get? c = some o → h'.get? c = some o) (k' : ∀ o, h.get? P = some o → h'.get? P = some o) : CT h' c P ps := by
  obtain ⟨⟨o, vs, file, tf, flags, tg, inF, text, tt, op, a, r1, r2, r3, r4, r5, r6, b, r⟩, ⟨o', vs', a', r'⟩, b'⟩ := x
  exact ⟨⟨o, vs, file, tf, flags, tg, inF, text, tt, op, k _ a, r1, r2, r3, r4, r5, r6, k' _ b, r⟩, ⟨o', vs', k _ a', r'⟩, k' _ b'⟩
theorem isCode_there {h : Heap} {c P : Addr} {ps : Array Value} (x : CT h c P ps) : (∃ o vs, h.get? c = some o ∧ o.data = .fields vs) ∧ ∃ o vs, h.get? P = some o ∧ o.data = .fields vs := by
  obtain ⟨⟨o, vs, file, tf, flags, tg, inF, text, tt, op, a, r1, r2, r3, r4, r5, r6, b, r, _⟩, _⟩ := x
  exact ⟨⟨o, vs, a, r1⟩, op, ps, b, r⟩
theorem TabK.refl (h : Heap) : TabK h h := fun c P ps x => ⟨ps, x⟩
theorem TabK.trans {h h₁ h₂ : Heap} (a : TabK h h₁) (b : TabK h₁ h₂) : TabK h h₂ := fun c P ps x => let ⟨ps', y⟩ := a c P ps x; b c P ps' y
theorem TabK.of_keep {h h' : Heap} (k : ∀ b o, h.get? b = some o → h'.get? b = some o) : TabK h h' := fun c P ps x => ⟨ps, isCode_at x (k _) (k _)⟩
theorem TabK.but {h h' : Heap} {a : Addr} (hx : ∀ b o, b ≠ a → h.get? b = some o → h'.get? b = some o) (ha : ∀ o vs, h.get? a = some o → o.data ≠ .fields vs) : TabK h h' := fun c P ps x => by
  obtain ⟨⟨o, vs, e, d⟩, o', vs', e', d'⟩ := isCode_there x
  have h1 : c ≠ a := by rintro rfl; exact ha _ _ e d
  have h2 : P ≠ a := by rintro rfl; exact ha _ _ e' d'
  exact ⟨ps, isCode_at x (fun o e => hx _ o h1 e) fun o e => hx _ o h2 e⟩
theorem TabK.since {h h₁ h' : Heap} (a : TabK h h₁) (hx : ∀ b o o₀, h.get? b = some o₀ → h₁.get? b = some o → h'.get? b = some o) : TabK h h' := fun c P ps x => by
  obtain ⟨ps', y⟩ := a c P ps x
  obtain ⟨⟨o, vs, e, d⟩, o', vs', e', d'⟩ := isCode_there x
  exact ⟨ps', isCode_at y (fun o₁ e₁ => hx _ _ _ e e₁) fun o₁ e₁ => hx _ _ _ e' e₁⟩
/-- how the abstract state lies in the heap -/
structure Rel (C : Cx) (ρ : EV) (H : HV) (h : Heap) : Prop where
  eok : EnvOk C.env C.nms
  base : ∀ b o, C.B.get? b = some o → tabl o = false → h.get? b = some o
  old : OldK C.B h
  blo : C.B.objs.size ≤ C.lo
  view : ∀ a o, H a = some o → ObjIs C.prog C.w h a o
  dom : ∀ x v, ρ x = some v → C.nms.lookup x = some .local ∨ C.nms.lookup x = some .cell ∨ C.nms.lookup x = some .free
  loc : ∃ m, h.Ns C.env.locals m ∧ ∀ x v, C.nms.lookup x = some .local → ρ x = some v → ∃ u, m x = some u ∧ absV u = some v
  cel : ∀ x, C.nms.lookup x = some .cell ∨ C.nms.lookup x = some .free → ∃ c u, C.env.cells.lookup x = some c ∧ h.IsCell c u ∧ ∀ v, ρ x = some v → ∃ y, u = some y ∧ absV y = some v
  apart : ∀ x y c, (x, c) ∈ C.env.cells → (y, c) ∈ C.env.cells → x = y
  cloc : ∀ x c, (x, c) ∈ C.env.cells → c ≠ C.env.locals ∧ C.lo ≤ c ∧ H c = Option.none ∧ ∃ o, h.get? c = some o
  hloc : H C.env.locals = Option.none
  lloc : C.lo ≤ C.env.locals
  sysm : H sysModules = Option.none ∧ ∃ o, h.get? sysModules = some o
  code : TabK C.B h
/-- H' grows at addresses that are new -/
noncomputable def Gr (H H' : HV) (h : Heap) : Prop := ∀ b o, h.get? b = some o → H b = Option.none → H' b = Option.none
theorem Gr.refl (H : HV) (h : Heap) : Gr H H h := fun _ _ _ e => e
theorem Gr.trans {H H' H'' : HV} {h h' : Heap} (g : Gr H H' h) (k : ∀ b o, h.get? b = some o → ∃ o', h'.get? b = some o') (g' : Gr H' H'' h') : Gr H H'' h :=
  fun b o e n => let ⟨_, e'⟩ := k b o e; g' b _ e' (g b o e n)
/-- generators may come, none goes -/
noncomputable def GB (a b : Array GenState) : Prop := (AllBare a → AllBare b) ∧ a.size ≤ b.size
theorem GB.refl (a : Array GenState) : GB a a := ⟨fun x => x, Nat.le_refl _⟩
theorem GB.trans {a b c : Array GenState} (x : GB a b) (y : GB b c) : GB a c := ⟨fun z => y.1 (x.1 z), Nat.le_trans x.2 y.2⟩
/-- what an expression leaves: all that stood stands, tables apart -/
structure Kp (s s' : Shared) : Prop where
  get : ∀ b o, s.heap.get? b = some o → tabl o = false → s'.heap.get? b = some o
  there : ∀ b o, s.heap.get? b = some o → ∃ o', s'.heap.get? b = some o'
  os : s'.os = s.os
  gens : GB s.gens s'.gens
  tab : TabK s.heap s'.heap
theorem kp_refl (s : Shared) : Kp s s := ⟨fun _ _ e _ => e, fun _ o e => ⟨o, e⟩, rfl, GB.refl _, .refl _⟩
theorem Kp.trans {s s₁ s₂ : Shared} (a : Kp s s₁) (b : Kp s₁ s₂) : Kp s s₂ :=
  ⟨fun x o e t => b.get x o (a.get x o e t) t, fun x o e => let ⟨o', e'⟩ := a.there x o e; b.there x o' e', b.os.trans a.os, a.gens.trans b.gens, a.tab.trans b.tab⟩
theorem kp_tok (s : Shared) (t : Nat) : Kp s { s with toks := t } := ⟨fun _ _ e _ => e, fun _ o e => ⟨o, e⟩, rfl, GB.refl _, .refl _⟩
theorem kp_of {s : Shared} {h : Heap} (t : Nat) (k : ∀ b o, s.heap.get? b = some o → h.get? b = some o) : Kp s { s with heap := h, toks := t } :=
  ⟨fun b o e _ => k b o e, fun b o e => ⟨o, k b o e⟩, rfl, GB.refl _, .of_keep k⟩
section
variable {prog : Program} {w : World} {h h' : Heap}
theorem ObjIs.at {a : Addr} {o : AO} (x : ObjIs prog w h a o) (k : ∀ ob, h.get? a = some ob → tabl ob = false → h'.get? a = some ob) : ObjIs prog w h' a o := by
  cases o with
  | list vs => obtain ⟨its, ⟨n, e⟩, q⟩ := x; exact ⟨its, ⟨n, k _ e rfl⟩, q⟩
  | tuple vs => obtain ⟨its, ⟨ob, e, c, r⟩, q⟩ := x; exact ⟨its, ⟨ob, k _ e (tabl_type c), c, r⟩, q⟩
  | dict kvs => obtain ⟨cs, ⟨ob, es, ep, e, c, d, r⟩, q⟩ := x; exact ⟨cs, ⟨ob, es, ep, k _ e (tabl_dict d), c, d, r⟩, q⟩
theorem ObjIs.there {a : Addr} {o : AO} (x : ObjIs prog w h a o) : ∃ ob, h.get? a = some ob := by
  cases o with
  | list vs => obtain ⟨its, ⟨n, e⟩, q⟩ := x; exact ⟨_, e⟩
  | tuple vs => obtain ⟨its, ⟨ob, e, r⟩, q⟩ := x; exact ⟨ob, e⟩
  | dict kvs => obtain ⟨cs, ⟨ob, es, ep, e, r⟩, q⟩ := x; exact ⟨ob, e⟩
theorem ns_at {a : Addr} {m : Str → Option Value} (x : h.Ns a m) (k : ∀ ob, h.get? a = some ob → tabl ob = false → h'.get? a = some ob) : h'.Ns a m :=
  let ⟨o, es, ep, e, d, r⟩ := x; ⟨o, es, ep, k _ e (tabl_dict d), d, r⟩
theorem cell_at {a : Addr} {v : Option Value} (x : h.IsCell a v) (k : ∀ ob, h.get? a = some ob → tabl ob = false → h'.get? a = some ob) : h'.IsCell a v :=
  let ⟨o, e, d⟩ := x; ⟨o, k _ e (tabl_cell d), d⟩
end
section
variable {C : Cx} {ρ : EV} {H H' : HV} {h h' : Heap}
theorem Rel.kindOf (R : Rel C ρ H h) (x : Str) : C.env.kindOf x = C.nms.lookup x := by unfold Env.kindOf; rw [R.eok.names]
theorem Rel.new (R : Rel C ρ H h) : H h.objs.size = Option.none := by
  cases e : H h.objs.size with
  | none => rfl
  | some o => obtain ⟨ob, eo⟩ := (R.view _ _ e).there; exact absurd (Heap.lt_size eo) (Nat.lt_irrefl _)
theorem Rel.lo_size (R : Rel C ρ H h) : C.lo ≤ h.objs.size := by
  obtain ⟨m, hn, _⟩ := R.loc
  exact Nat.le_trans R.lloc (Nat.le_of_lt hn.lt)
theorem Rel.stepT (R : Rel C ρ H h) (k : ∀ b o, h.get? b = some o → tabl o = false → h'.get? b = some o) (th : ∀ b o, h.get? b = some o → ∃ o', h'.get? b = some o') (old : OldK C.B h') (tb : TabK h h')
    (v : ∀ a o, H' a = some o → ObjIs C.prog C.w h' a o) (g : Gr H H' h) : Rel C ρ H' h' := by
  obtain ⟨m, hn, hm⟩ := R.loc
  refine ⟨R.eok, fun b o e t => k _ _ (R.base b o e t) t, old, R.blo, v, R.dom, ⟨m, ns_at hn (k _), hm⟩, fun x hx => ?_, R.apart, fun x c hm => ?_, ?_, R.lloc, ?_, R.code.trans tb⟩
  · obtain ⟨c, u, a1, a2, a3⟩ := R.cel x hx
    exact ⟨c, u, a1, cell_at a2 (k _), a3⟩
  · obtain ⟨h1, h2, h3, o, h4⟩ := R.cloc x c hm
    exact ⟨h1, h2, g c o h4 h3, th _ _ h4⟩
  · obtain ⟨o, _, _, ho, _⟩ := hn
    exact g _ o ho R.hloc
  · obtain ⟨h1, o, h2⟩ := R.sysm
    exact ⟨g _ o h2 h1, th _ _ h2⟩
theorem Rel.step (R : Rel C ρ H h) (k : ∀ b o, h.get? b = some o → h'.get? b = some o) (v : ∀ a o, H' a = some o → ObjIs C.prog C.w h' a o) (g : Gr H H' h) : Rel C ρ H' h' :=
  R.stepT (fun b o e _ => k b o e) (fun b o e => ⟨o, k b o e⟩) (R.old.step_keeps k) (.of_keep k) v g
theorem Rel.keep (R : Rel C ρ H h) (k : ∀ b o, h.get? b = some o → h'.get? b = some o) : Rel C ρ H h' :=
  R.step k (fun a o e => (R.view a o e).at fun ob e' _ => k a ob e') (Gr.refl _ _)
/-- a new object, behind others that are forgotten -/
theorem Rel.mint (R : Rel C ρ H h) {a : Addr} {o : AO} (k : ∀ b o, h.get? b = some o → h'.get? b = some o) (ha : h.objs.size ≤ a) (x : ObjIs C.prog C.w h' a o) : Rel C ρ (upd H a o) h' ∧ Gr H (upd H a o) h := by
  have ne : ∀ b o, h.get? b = some o → b ≠ a := fun b o e => Nat.ne_of_lt (Nat.lt_of_lt_of_le (Heap.lt_size e) ha)
  have g : Gr H (upd H a o) h := fun b o' e n => by
    unfold upd; rw [if_neg (ne b o' e)]; exact n
  refine ⟨R.step k (fun b o' e => ?_) g, g⟩
  unfold upd at e
  split at e
  · rename_i ea; cases e; subst ea; exact x
  · exact (R.view b o' e).at fun ob e _ => k _ _ e
theorem Rel.fresh (R : Rel C ρ H h) {a : Addr} (ha : h.objs.size ≤ a) : C.lo ≤ a ∧ H a = Option.none := by
  refine ⟨Nat.le_trans R.lo_size ha, ?_⟩
  cases e : H a with
  | none => rfl
  | some o => obtain ⟨ob, eo⟩ := (R.view _ _ e).there; exact absurd (Heap.lt_size eo) (Nat.not_lt.mpr ha)
end
noncomputable def isV (u : Value) (v : V) : Prop := absV u = some v
section
variable {α β : Type} (C : Cx) (r : α → β → Prop)
/-- where an expression's tree ends -/
noncomputable def Done (ρ : EV) (H : HV) (s : Shared) (Q : β → HV → Prop) (u : α) (s' : Shared) : Prop :=
  ∃ v H', r u v ∧ Kp s s' ∧ Rel C ρ H' s'.heap ∧ Gr H H' s.heap ∧ Q v H'
/-- the tree t, from ρ and H, ends in Q and keeps the heap -/
noncomputable def TG (t : Sem α) (ρ : EV) (H : HV) (Q : β → HV → Prop) : Prop :=
  ∀ (A : Around) (s : Shared), Rm A C.k → Rel C ρ H s.heap → wpAny (model C.prog C.w) A t (Done C r ρ H s Q) (fun _ _ => False) s
end
abbrev nay : Value → Shared → Prop := fun _ _ => False
section
variable {C : Cx} {ρ : EV} {H H' : HV} {A : Around} {s : Shared} {α β : Type} {r : α → β → Prop}
theorem TG.use {t : Sem α} {Q : β → HV → Prop} (x : TG C r t ρ H Q) (hA : Rm A C.k) (R : Rel C ρ H s.heap) {P : α → Shared → Prop} {E : Value → Shared → Prop}
    (g : ∀ u v s₁ H₁, r u v → Kp s s₁ → Rel C ρ H₁ s₁.heap → Gr H H₁ s.heap → Q v H₁ → P u s₁) : wpAny (model C.prog C.w) A t P E s :=
  wpAny_mono (x A s hA R) (fun u s₁ ⟨v, H₁, a, b, c, d, e⟩ => g u v s₁ H₁ a b c d e) fun _ _ e => e.elim
theorem Done.trans {s s₁ s₂ : Shared} {H H₁ : HV} {Q : β → HV → Prop} {u : α} (K : Kp s s₁) (G : Gr H H₁ s.heap) (d : Done C r ρ H₁ s₁ Q u s₂) : Done C r ρ H s Q u s₂ := by
  obtain ⟨v, H', a, b, c, d, e⟩ := d
  exact ⟨v, H', a, K.trans b, c, G.trans (K.there) d, e⟩
theorem Done.v {Q : V → HV → Prop} {u : Value} {v : V} (R : Rel C ρ H s.heap) (e : absV u = some v) (q : Q v H) (t : Nat) : Done C isV ρ H s Q u { s with toks := t } :=
  ⟨v, H, e, kp_tok _ _, R, Gr.refl _ _, q⟩
theorem Done.b {Q : Bool → HV → Prop} {b : Bool} (R : Rel C ρ H s.heap) (q : Q b H) : Done C (fun a b => a = b) ρ H s Q b s :=
  ⟨b, H, rfl, kp_refl _, R, Gr.refl _ _, q⟩
theorem Done.new {Q : V → HV → Prop} {a : Addr} {h' : Heap} {o : AO} (R : Rel C ρ H s.heap) (k : ∀ b o, s.heap.get? b = some o → h'.get? b = some o) (ha : s.heap.objs.size ≤ a) (x : ObjIs C.prog C.w h' a o)
    (q : ∀ a, C.lo ≤ a → H a = Option.none → Q (.loc a) (upd H a o)) (t : Nat) : Done C isV ρ H s Q (.ref a) { s with heap := h', toks := t } :=
  ⟨_, _, rfl, kp_of _ k, (R.mint k ha x).1, (R.mint k ha x).2, q _ (R.fresh ha).1 (R.fresh ha).2⟩
theorem TG.mono {t : Sem α} {Q Q' : β → HV → Prop} (x : TG C r t ρ H Q) (g : ∀ v H', Q v H' → Q' v H') : TG C r t ρ H Q' :=
  fun A s hA R => x.use hA R fun u v s₁ H₁ a b c d e => ⟨v, H₁, a, b, c, d, g v H₁ e⟩
end
end Mine
end
section
set_option maxRecDepth 100000
set_option Elab.async false
set_option linter.unusedVariables false
namespace Mine
open PySem PySem.Spec PyProof.Rows
abbrev Ev (C : Cx) (e : Expr) (ρ : EV) (H : HV) (Q : V → HV → Prop) : Prop := TG C isV (eval e C.env) ρ H Q
/-- a test: a tree that gives a Bool -/
abbrev Tst (C : Cx) (e : Expr) (ρ : EV) (H : HV) (Q : Bool → HV → Prop) : Prop := TG C (fun a b => a = b) (isTrue e C.env (eval e C.env)) ρ H Q
noncomputable def BOK (C : Cx) (op : Operator) (a b : V) (ρ : EV) (H : HV) (Q : V → HV → Prop) : Prop := ∀ u u', isV u a → isV u' b → TG C isV (binaryOp op u u') ρ H Q
noncomputable def COK (C : Cx) (op : CmpOp) (a b : V) (ρ : EV) (H : HV) (Q : V → HV → Prop) : Prop := ∀ u u', isV u a → isV u' b → TG C isV (compareOp op u u') ρ H Q
noncomputable def TrOK (C : Cx) (a : V) (ρ : EV) (H : HV) (Q : Bool → HV → Prop) : Prop := ∀ u, isV u a → TG C (fun a b => a = b) (truthy u) ρ H Q
noncomputable def GlobIs (C : Cx) (x : Str) (u : Value) : Prop :=
  ∃ mg, C.B.Ns mainGlobals mg ∧ (mg x = some u ∨ (mg x = Option.none ∧ ∃ mb, C.B.Ns builtinsNs mb ∧ mb x = some u))
theorem abs_str {x : Str} {t : Tok} (h : PyData.strOk x = true) : absV (.str x t) = some (.str x) := by simp [absV, h]
theorem isV_int {u : Value} {i : Int} (h : isV u (.int i)) : ∃ t, u = .int i t := by
  unfold isV at h
  cases u <;> simp only [absV] at h <;> (try split at h) <;> cases h; exact ⟨_, rfl⟩
theorem isV_str {u : Value} {x : Str} (h : isV u (.str x)) : ∃ t, u = .str x t ∧ PyData.strOk x = true := by
  unfold isV at h
  cases u <;> simp only [absV] at h <;> (try split at h) <;> cases h; exact ⟨_, rfl, by assumption⟩
theorem isV_bool {u : Value} {b : Bool} (h : isV u (.bool b)) : u = .bool b := by
  unfold isV at h
  cases u <;> simp only [absV] at h <;> (try split at h) <;> cases h; rfl
theorem isV_none {u : Value} (h : isV u .none) : u = .none := by
  unfold isV at h
  cases u <;> simp only [absV] at h <;> (try split at h) <;> cases h; rfl
theorem isV_loc {u : Value} {a : Addr} (h : isV u (.loc a)) : u = .ref a := by
  unfold isV at h
  cases u <;> simp only [absV] at h <;> (try split at h) <;> cases h; rfl
section
variable {C : Cx} {ρ : EV} {H : HV} {Q : V → HV → Prop} {A : Around} {s : Shared}
theorem ev_int {i : Int} {kd : Nat} {pos : Pos} (q : Q (.int i) H) : Ev C (.Constant (.int i) kd pos) ρ H Q :=
  fun A s hA R => wpAny_Constant_int (Done.v R rfl q _)
theorem ev_str {x : Str} {kd : Nat} {pos : Pos} (q : Q (.str x) H) (hx : PyData.strOk x = true := by decide) : Ev C (.Constant (.str x) kd pos) ρ H Q :=
  fun A s hA R => Calls.Constant_str (Done.v R (abs_str hx) q _)
theorem ev_bool {b : Bool} {kd : Nat} {pos : Pos} (q : Q (.bool b) H) : Ev C (.Constant (.bool b) kd pos) ρ H Q :=
  fun A s hA R => wpAny_pure (Done.v R rfl q s.toks)
theorem ev_Name {x : Str} {pos : Pos} {v : V} (e : ρ x = some v) (q : Q v H) (hd : (x == ("__debug__" : Str)) = false := by decide) (hn : (x == ("__classdict__" : Str)) = false := by decide) : Ev C (.Name x pos) ρ H Q := by
  intro A s hA R
  refine wpAny_Name ?_ hd
  rcases R.dom x v e with h | h | h
  all_goals have h' := (R.kindOf x).trans h
  · obtain ⟨m, hns, hm⟩ := R.loc
    obtain ⟨u, hu, ha⟩ := hm x v h e
    exact wpAny_loadName_local R.eok.kind h' hns hu (Done.v R ha q s.toks)
  · obtain ⟨c, u, hc, hcell, hu⟩ := R.cel x (.inl h)
    obtain ⟨y, rfl, ha⟩ := hu v e
    exact wpAny_loadName_cell R.eok.kind h' hc hcell (Done.v R ha q s.toks)
  · obtain ⟨c, u, hc, hcell, hu⟩ := R.cel x (.inr h)
    obtain ⟨y, rfl, ha⟩ := hu v e
    exact wpAny_loadName_free R.eok.kind h' hc hcell (Done.v R ha q s.toks) hn
theorem glob_load {x : Str} {pos : Pos} {u : Value} {P : Value → Shared → Prop} {E : Value → Shared → Prop} (R : Rel C ρ H s.heap) (g : GlobIs C x u) (hk : C.nms.lookup x = some .globalImplicit) (q : P u s) (hd : (x == ("__debug__" : Str)) = false) :
    wpAny (model C.prog C.w) A (eval (.Name x pos) C.env) P E s := by
  obtain ⟨mg, hg, g⟩ := g
  refine Calls.Name_function_global R.eok.kind ((R.kindOf x).trans hk) ?_ hd
  rcases g with g | ⟨g, mb, hb, e⟩
  · exact Calls.loadGlobal_global (by rw [R.eok.glob]; exact ns_at hg (R.base _)) g q
  · exact Calls.loadGlobal_builtin (by rw [R.eok.glob]; exact ns_at hg (R.base _)) g (by rw [R.eok.bui]; exact ns_at hb (R.base _)) e q
theorem ev_Glob {x : Str} {pos : Pos} {u : Value} {v : V} (g : GlobIs C x u) (hk : C.nms.lookup x = some .globalImplicit) (e : isV u v) (q : Q v H) (hd : (x == ("__debug__" : Str)) = false := by decide) : Ev C (.Name x pos) ρ H Q :=
  fun A s hA R => glob_load R g hk (Done.v R e q s.toks) hd
theorem ev_BinOp {l r : Expr} {op : Operator} {pos : Pos} (h : Ev C l ρ H fun a H₁ => Ev C r ρ H₁ fun b H₂ => BOK C op a b ρ H₂ Q) : Ev C (.BinOp l op r pos) ρ H Q :=
  fun A s hA R => wpAny_BinOp (h.use hA R fun u v s₁ H₁ a K R₁ G q => q.use hA R₁ fun u' v' s₂ H₂ a' K' R₂ G' q' =>
    wpAny_mono (q' u u' a a' A s₂ hA R₂) (fun _ _ d => (d.trans K' G').trans K G) fun _ _ e => e)
theorem ev_Compare {l r : Expr} {op : CmpOp} {pos : Pos} (h : Ev C l ρ H fun a H₁ => Ev C r ρ H₁ fun b H₂ => COK C op a b ρ H₂ Q) (hm : behindInMarks op r = false := by rfl) : Ev C (.Compare l [op] [r] pos) ρ H Q :=
  fun A s hA R => wpAny_Compare1 (h.use hA R fun u v s₁ H₁ a K R₁ G q => q.use hA R₁ fun u' v' s₂ H₂ a' K' R₂ G' q' =>
    wpAny_mono (q' u u' a a' A s₂ hA R₂) (fun _ _ d => (d.trans K' G').trans K G) fun _ _ e => e) hm
theorem bok_add_int {i j : Int} (q : Q (.int (i + j)) H) : BOK C .Add (.int i) (.int j) ρ H Q := by
  intro u u' a b A s hA R
  obtain ⟨t, rfl⟩ := isV_int a; obtain ⟨t', rfl⟩ := isV_int b
  exact wpAny_add_int (Done.v R rfl q _)
theorem bok_sub_int {i j : Int} (q : Q (.int (i - j)) H) : BOK C .Sub (.int i) (.int j) ρ H Q := by
  intro u u' a b A s hA R
  obtain ⟨t, rfl⟩ := isV_int a; obtain ⟨t', rfl⟩ := isV_int b
  exact P.sub_int (Done.v R rfl q _)
theorem cok_eq_int {i j : Int} (q : Q (.bool (i == j)) H) : COK C .Eq (.int i) (.int j) ρ H Q := by
  intro u u' a b A s hA R
  obtain ⟨t, rfl⟩ := isV_int a; obtain ⟨t', rfl⟩ := isV_int b
  exact P.eq_int (Done.v R rfl q s.toks)
theorem cok_ne_int {i j : Int} (q : Q (.bool (i != j)) H) : COK C .NotEq (.int i) (.int j) ρ H Q := by
  intro u u' a b A s hA R
  obtain ⟨t, rfl⟩ := isV_int a; obtain ⟨t', rfl⟩ := isV_int b
  exact P.ne_int (Done.v R rfl q s.toks)
theorem cok_lt_int {i j : Int} (q : Q (.bool (decide (i < j))) H) : COK C .Lt (.int i) (.int j) ρ H Q := by
  intro u u' a b A s hA R
  obtain ⟨t, rfl⟩ := isV_int a; obtain ⟨t', rfl⟩ := isV_int b
  exact P.lt_int (Done.v R rfl q s.toks)
theorem cok_gt_int {i j : Int} (q : Q (.bool (decide (i > j))) H) : COK C .Gt (.int i) (.int j) ρ H Q := by
  intro u u' a b A s hA R
  obtain ⟨t, rfl⟩ := isV_int a; obtain ⟨t', rfl⟩ := isV_int b
  exact P.gt_int (Done.v R rfl q s.toks)
theorem tr_bool {b : Bool} {Q : Bool → HV → Prop} (q : Q b H) : TrOK C (.bool b) ρ H Q := by
  intro u a A s hA R
  cases isV_bool a
  exact wpAny_truthy_bool (Done.b R q)
/-- tests -/
theorem t_Compare {l r : Expr} {op : CmpOp} {pos : Pos} {Q : Bool → HV → Prop} (h : Ev C l ρ H fun a H₁ => Ev C r ρ H₁ fun b H₂ => COK C op a b ρ H₂ fun c H₃ => TrOK C c ρ H₃ Q) (hm : behindInMarks op r = false := by rfl) :
    Tst C (.Compare l [op] [r] pos) ρ H Q :=
  fun A s hA R => wpAny_isTrue_Compare1 (h.use hA R fun u v s₁ H₁ a K R₁ G q => q.use hA R₁ fun u' v' s₂ H₂ a' K' R₂ G' q' =>
    (q' u u' a a').use hA R₂ fun u'' v'' s₃ H₃ a'' K'' R₃ G'' q'' => wpAny_mono (q'' u'' a'' A s₃ hA R₃) (fun _ _ d => ((d.trans K'' G'').trans K' G').trans K G) fun _ _ e => e) hm
theorem t_Not {x : Expr} {pos : Pos} {Q : Bool → HV → Prop} (h : Tst C x ρ H fun b H₁ => Q (!b) H₁) : Tst C (.UnaryOp .Not x pos) ρ H Q := by
  intro A s hA R
  show wpAny _ A (do return !(← isTrue x C.env (eval x C.env))) _ _ s
  exact wpAny_bind (h.use hA R fun u v s₁ H₁ a K R₁ G q => wpAny_pure ⟨!v, H₁, by rw [show u = v from a], K, R₁, G, q⟩)
theorem t_And {vs : List Expr} {pos : Pos} {Q : Bool → HV → Prop} (h : TG C (fun a b => a = b) (allTrue .And vs C.env) ρ H Q) : Tst C (.BoolOp .And vs pos) ρ H Q := h
theorem t_Or {vs : List Expr} {pos : Pos} {Q : Bool → HV → Prop} (h : TG C (fun a b => a = b) (allTrue .Or vs C.env) ρ H Q) : Tst C (.BoolOp .Or vs pos) ρ H Q := h
theorem t_and_nil {Q : Bool → HV → Prop} (h : Q true H) : TG C (fun a b => a = b) (allTrue .And [] C.env) ρ H Q := fun A s hA R => wpAny_pure (Done.b R h)
theorem t_or_nil {Q : Bool → HV → Prop} (h : Q false H) : TG C (fun a b => a = b) (allTrue .Or [] C.env) ρ H Q := fun A s hA R => wpAny_pure (Done.b R h)
theorem t_and_cons {x : Expr} {rest : List Expr} {Q : Bool → HV → Prop} (h : Tst C x ρ H fun b H₁ => if b = true then TG C (fun a b => a = b) (allTrue .And rest C.env) ρ H₁ Q else Q false H₁) : TG C (fun a b => a = b) (allTrue .And (x :: rest) C.env) ρ H Q := by
  intro A s hA R
  refine wpAny_allTrue_And_cons (h.use hA R fun u v s₁ H₁ a K R₁ G q => ?_)
  cases (show u = v from a)
  cases u with
  | false => exact ⟨false, H₁, rfl, K, R₁, G, q⟩
  | true => exact wpAny_mono (q A s₁ hA R₁) (fun _ _ d => d.trans K G) fun _ _ e => e
theorem t_or_cons {x : Expr} {rest : List Expr} {Q : Bool → HV → Prop} (h : Tst C x ρ H fun b H₁ => if b = true then Q true H₁ else TG C (fun a b => a = b) (allTrue .Or rest C.env) ρ H₁ Q) : TG C (fun a b => a = b) (allTrue .Or (x :: rest) C.env) ρ H Q := by
  intro A s hA R
  refine wpAny_allTrue_Or_cons (h.use hA R fun u v s₁ H₁ a K R₁ G q => ?_)
  cases (show u = v from a)
  cases u with
  | true => exact ⟨true, H₁, rfl, K, R₁, G, q⟩
  | false => exact wpAny_mono (q A s₁ hA R₁) (fun _ _ d => d.trans K G) fun _ _ e => e
/-- a test that is a plain value -/
theorem t_val {e : Expr} {Q : Bool → HV → Prop} (hp : isTrue e C.env (eval e C.env) = (do let v ← eval e C.env; standAt e.pos; holding [v] (truthy v))) (h : Ev C e ρ H fun a H₁ => TrOK C a ρ H₁ Q) : Tst C e ρ H Q := by
  intro A s hA R
  show wpAny _ A (isTrue e C.env (eval e C.env)) _ _ s
  rw [hp]
  exact wpAny_bind (h.use hA R fun u v s₁ H₁ a K R₁ G q => wpAny_bind (wpAny_standAt (wpAny_holding (wpAny_mono (q u a A s₁ hA R₁) (fun _ _ d => d.trans K G) fun _ _ e => e))))
theorem t_Name {x : Str} {pos : Pos} {Q : Bool → HV → Prop} (h : Ev C (.Name x pos) ρ H fun a H₁ => TrOK C a ρ H₁ Q) : Tst C (.Name x pos) ρ H Q := t_val rfl h
theorem t_Call {f : Expr} {as : List Expr} {ks : List Keyword} {pos : Pos} {Q : Bool → HV → Prop} (h : Ev C (.Call f as ks pos) ρ H fun a H₁ => TrOK C a ρ H₁ Q) : Tst C (.Call f as ks pos) ρ H Q := t_val rfl h
theorem t_Sub {f i : Expr} {pos : Pos} {Q : Bool → HV → Prop} (h : Ev C (.Subscript f i pos) ρ H fun a H₁ => TrOK C a ρ H₁ Q) : Tst C (.Subscript f i pos) ρ H Q := t_val rfl h
end
end Mine
end
section
set_option maxRecDepth 100000
set_option Elab.async false
set_option linter.unusedVariables false
namespace Mine
open PySem PySem.Spec PyProof.Rows
section
variable {C : Cx} {ρ : EV} {H : HV} {Q : V → HV → Prop} {A : Around} {s : Shared}
/-- arguments, items of a display -/
abbrev Args (C : Cx) (pos : Pos) (es : List Expr) (ρ : EV) (H : HV) (Q : List V → HV → Prop) : Prop := TG C ValsAre (spliced (backTo pos (starEach es C.env))) ρ H Q
theorem args_nil {pos : Pos} {Q : List V → HV → Prop} (q : Q [] H) : Args C pos [] ρ H Q :=
  fun A s hA R => Calls.spliced_nil ⟨[], H, .nil, kp_refl _, R, Gr.refl _ _, q⟩
theorem args_cons {e : Expr} {es : List Expr} {pos : Pos} {Q : List V → HV → Prop} (h : Ev C e ρ H fun v H₁ => Args C pos es ρ H₁ fun vs H₂ => Q (v :: vs) H₂)
    (hs : starEach (e :: es) C.env = (false, eval e C.env) :: starEach es C.env := by rfl) : Args C pos (e :: es) ρ H Q := by
  intro A s hA R
  rw [hs]
  show wpAny _ A (spliced ((false, eval e C.env) :: backTo pos (starEach es C.env))) _ _ s
  exact Calls.spliced_cons (h.use hA R fun u v s₁ H₁ a K R₁ G q => q.use hA R₁ fun us vs s₂ H₂ as K' R₂ G' q' =>
    Done.trans K G (Done.trans K' G' ⟨v :: vs, H₂, .cons a as, kp_refl _, R₂, Gr.refl _ _, q'⟩))
theorem obj_list {h : Heap} {a : Addr} {n : Nat} {us : List Value} {vs : List V} (e : h.get? a = some { cls := .type "list", data := .seq us.toArray n }) (x : ValsAre us vs) (z : vs.length ≤ 1048576) : ObjIs C.prog C.w h a (.list vs) :=
  ⟨us, ⟨n, e⟩, x, z⟩
theorem obj_tuple {h : Heap} {a : Addr} {n : Nat} {us : List Value} {vs : List V} (e : h.get? a = some { cls := .type "tuple", data := .seq us.toArray n }) (x : ValsAre us vs) (z : vs.length ≤ 1048576) : ObjIs C.prog C.w h a (.tuple vs) :=
  ⟨us, ⟨_, e, rfl, n, rfl⟩, x, z⟩
theorem few {us : List Value} {vs : List V} (x : ValsAre us vs) (z : vs.length ≤ 1048576) : us.toArray.size ≤ sizeLine := by
  rw [List.size_toArray, x.length]; exact Nat.le_trans z (by decide)
theorem newList_ok {us : List Value} {vs : List V} (x : ValsAre us vs) (z : vs.length ≤ 1048576) (q : ∀ a, C.lo ≤ a → H a = Option.none → Q (.loc a) (upd H a (.list vs))) : TG C isV (newList us) ρ H Q :=
  fun A s hA R => wpAny_newObj_type (Done.new R (fun _ _ e => Heap.get?_push_of_some _ e) (Nat.le_refl _) (obj_list (Heap.get?_push_size _ rfl) x z) q s.toks) (few x z)
theorem newTuple_ok {us : List Value} {vs : List V} (x : ValsAre us vs) (z : vs.length ≤ 1048576) (q : ∀ a, C.lo ≤ a → H a = Option.none → Q (.loc a) (upd H a (.tuple vs))) : TG C isV (newTuple us) ρ H Q :=
  fun A s hA R => wpAny_newObj_type (Done.new R (fun _ _ e => Heap.get?_push_of_some _ e) (Nat.le_refl _) (obj_tuple (Heap.get?_push_size _ rfl) x z) q s.toks) (few x z)
theorem ev_List {es : List Expr} {pos : Pos} (h : Args C pos es ρ H fun vs H₁ => vs.length ≤ 1048576 ∧ ∀ a, C.lo ≤ a → H₁ a = Option.none → Q (.loc a) (upd H₁ a (.list vs))) : Ev C (.List es pos) ρ H Q :=
  fun A s hA R => List_ (h.use hA R fun us vs s₁ H₁ as K R₁ G q => wpAny_mono (newList_ok as q.1 q.2 A s₁ hA R₁) (fun _ _ d => d.trans K G) fun _ _ e => e)
theorem ev_Tuple {es : List Expr} {kd : Nat} {pos : Pos} (h : Args C pos es ρ H fun vs H₁ => vs.length ≤ 1048576 ∧ ∀ a, C.lo ≤ a → H₁ a = Option.none → Q (.loc a) (upd H₁ a (.tuple vs))) : Ev C (.Tuple es kd pos) ρ H Q :=
  fun A s hA R => Tuple_ (h.use hA R fun us vs s₁ H₁ as K R₁ G q => wpAny_mono (newTuple_ok as q.1 q.2 A s₁ hA R₁) (fun _ _ d => d.trans K G) fun _ _ e => e)
theorem ev_Dict0 {pos : Pos} (q : ∀ a, C.lo ≤ a → H a = Option.none → Q (.loc a) (upd H a (.dict []))) : Ev C (.Dict [] [] pos) ρ H Q :=
  fun A s hA R => wpAny_Dict_empty (Done.new (o := .dict []) R (fun _ _ e => Heap.get?_push_of_some _ e) (Nat.le_refl _)
    ⟨[], ⟨_, #[], 0, Heap.get?_push_size _ rfl, ⟨rfl, rfl, rfl⟩, rfl, fun _ he => by simp at he, .nil, List.nodup_nil⟩, rfl, .nil, by decide⟩ q s.toks)
/-- an item by a plain index -/
noncomputable def SOK (C : Cx) (a b : V) (ρ : EV) (H : HV) (Q : V → HV → Prop) : Prop := ∀ u u', isV u a → isV u' b → ∀ (A : Around) (s : Shared), Rm A C.k → Rel C ρ H s.heap →
  ∃ T id, typeLookup (.type T) "__getitem__" = pure (some (.builtin id)) ∧ s.TypeIs u T ∧ wpAny (model C.prog C.w) A (getItem u u') (Done C isV ρ H s Q) nay s
theorem ev_Sub {value slice : Expr} {pos : Pos} (h : Ev C value ρ H fun a H₁ => Ev C slice ρ H₁ fun b H₂ => SOK C a b ρ H₂ Q)
    (hs : ∀ o i, subscripted slice false o i = operate [o, i] (getItem o i) := by intros; rfl) : Ev C (.Subscript value slice pos) ρ H Q := by
  intro A s hA R
  refine Subscript_ (h.use hA R fun u v s₁ H₁ a K R₁ G q => q.use hA R₁ fun u' v' s₂ H₂ a' K' R₂ G' q' => ?_)
  obtain ⟨T, id, h1, h2, h3⟩ := q' u u' a a' A s₂ hA R₂
  exact tail_any h2 h1 (wpAny_mono h3 (fun _ _ d => (d.trans K' G').trans K G) fun _ _ e => e) (hs _ _)
theorem sok_list {a : Addr} {i : Int} {vs : List V} {v : V} (e : H a = some (.list vs)) (h0 : 0 ≤ i) (hv : vs[i.toNat]? = some v) (q : Q v H) : SOK C (.loc a) (.int i) ρ H Q := by
  intro u u' x y A s hA R
  cases isV_loc x
  obtain ⟨t, rfl⟩ := isV_int y
  obtain ⟨its, hl, hx, hz⟩ := R.view a _ e
  obtain ⟨w, hw, ha⟩ := hx.get hv
  have hlt : i.toNat < vs.length := (List.getElem?_eq_some_iff.mp hv).1
  refine ⟨"list", _, slot_list_getitem.lookup, hl.isList.typeIs, wpAny_getItem_list hl.isList h0 (by omega) (x := w) (by simpa using hw) (Done.v R ha q s.toks)⟩
theorem sok_tuple {a : Addr} {i : Int} {vs : List V} {v : V} (e : H a = some (.tuple vs)) (h0 : 0 ≤ i) (hv : vs[i.toNat]? = some v) (q : Q v H) : SOK C (.loc a) (.int i) ρ H Q := by
  intro u u' x y A s hA R
  cases isV_loc x
  obtain ⟨t, rfl⟩ := isV_int y
  obtain ⟨its, hl, hx, hz⟩ := R.view a _ e
  obtain ⟨w, hw, ha⟩ := hx.get hv
  have hlt : i.toNat < vs.length := (List.getElem?_eq_some_iff.mp hv).1
  have hlen := hx.length
  refine ⟨"tuple", _, slot_tuple_getitem.lookup, hl.typeIs, getItem_tuple (j := i.toNat) hl (by omega) (by omega) ?_ (x := w) (by simpa using hw) (Done.v R ha q s.toks)⟩
  rw [List.size_toArray]
  unfold seqIndex?
  simp only []
  split <;> simp_all <;> omega
/-- dicts keyed by texts -/
noncomputable def look (kvs : List (Str × V)) (k : Str) : Option V := (kvs.find? fun kv => decide (kv.1 = k)).map (·.2)
noncomputable def store (kvs : List (Str × V)) (k : Str) (v : V) : List (Str × V) :=
  if kvs.any (fun kv => decide (kv.1 = k)) then kvs.map (fun kv => if kv.1 = k then (kv.1, v) else kv) else kvs ++ [(k, v)]
theorem look_conc : ∀ {cs : List (Str × Value)} {kvs : List (Str × V)} {k : Str} {v : V}, cs.map (·.1) = kvs.map (·.1) → ValsAre (cs.map (·.2)) (kvs.map (·.2)) → look kvs k = some v → ∃ u, valueAt cs k = some u ∧ absV u = some v
  | [], [], _, _, _, _, h => by simp [look] at h
  | [], _ :: _, _, _, h, _, _ => by simp at h
  | _ :: _, [], _, _, h, _, _ => by simp at h
  | (a, x) :: cs, (b, y) :: kvs, k, v, h1, h2, h3 => by
    simp only [List.map_cons, List.cons.injEq] at h1
    obtain ⟨rfl, h1⟩ := h1
    cases h2 with
    | cons e r =>
      unfold look at h3; unfold valueAt
      simp only [List.find?_cons] at h3 ⊢
      by_cases hk : a = k
      · simp [hk] at h3 ⊢; subst h3; exact e
      · simp only [decide_eq_false hk] at h3 ⊢; exact look_conc h1 r h3
theorem look_none : ∀ {cs : List (Str × Value)} {kvs : List (Str × V)} {k : Str}, cs.map (·.1) = kvs.map (·.1) → (valueAt cs k).isSome = (look kvs k).isSome
  | [], [], _, _ => rfl
  | [], _ :: _, _, h => by simp at h
  | _ :: _, [], _, h => by simp at h
  | (a, x) :: cs, (b, y) :: kvs, k, h1 => by
    simp only [List.map_cons, List.cons.injEq] at h1
    obtain ⟨rfl, h1⟩ := h1
    unfold look valueAt
    simp only [List.find?_cons]
    by_cases hk : a = k
    · simp [hk]
    · simp only [decide_eq_false hk]; exact look_none h1
theorem any_conc : ∀ {cs : List (Str × Value)} {kvs : List (Str × V)} {k : Str}, cs.map (·.1) = kvs.map (·.1) → cs.any (fun kv => decide (kv.1 = k)) = kvs.any (fun kv => decide (kv.1 = k))
  | [], [], _, _ => rfl
  | [], _ :: _, _, h => by simp at h
  | _ :: _, [], _, h => by simp at h
  | (a, x) :: cs, (b, y) :: kvs, k, h1 => by
    simp only [List.map_cons, List.cons.injEq] at h1
    obtain ⟨rfl, h1⟩ := h1
    simp only [List.any_cons, any_conc h1]
theorem map_store_conc : ∀ {cs : List (Str × Value)} {kvs : List (Str × V)} {k : Str} {u : Value} {v : V}, cs.map (·.1) = kvs.map (·.1) → ValsAre (cs.map (·.2)) (kvs.map (·.2)) → absV u = some v →
    (cs.map (fun kv => if kv.1 = k then (kv.1, u) else kv)).map (·.1) = (kvs.map (fun kv => if kv.1 = k then (kv.1, v) else kv)).map (·.1) ∧ ValsAre ((cs.map (fun kv => if kv.1 = k then (kv.1, u) else kv)).map (·.2)) ((kvs.map (fun kv => if kv.1 = k then (kv.1, v) else kv)).map (·.2))
  | [], [], _, _, _, _, _, _ => ⟨rfl, .nil⟩
  | [], _ :: _, _, _, _, h, _, _ => by simp at h
  | _ :: _, [], _, _, _, h, _, _ => by simp at h
  | (a, x) :: cs, (b, y) :: kvs, k, u, v, h1, h2, h3 => by
    simp only [List.map_cons, List.cons.injEq] at h1
    obtain ⟨rfl, h1⟩ := h1
    cases h2 with
    | cons e r =>
      obtain ⟨i1, i2⟩ := map_store_conc (k := k) h1 r h3
      by_cases hk : a = k
      · simp only [List.map_cons, if_pos hk]; exact ⟨by rw [i1], .cons h3 i2⟩
      · simp only [List.map_cons, if_neg hk]; exact ⟨by rw [i1], .cons e i2⟩
theorem store_conc {cs : List (Str × Value)} {kvs : List (Str × V)} {k : Str} {u : Value} {v : V} (h1 : cs.map (·.1) = kvs.map (·.1)) (h2 : ValsAre (cs.map (·.2)) (kvs.map (·.2))) (h3 : absV u = some v) :
    (stored cs k u).map (·.1) = (store kvs k v).map (·.1) ∧ ValsAre ((stored cs k u).map (·.2)) ((store kvs k v).map (·.2)) := by
  unfold stored store
  rw [any_conc h1]
  split
  · exact map_store_conc h1 h2 h3
  · refine ⟨by simp only [List.map_append, List.map_cons, List.map_nil, h1], ?_⟩
    simp only [List.map_append, List.map_cons, List.map_nil]
    exact h2.append (.one h3)
theorem store_length (kvs : List (Str × V)) (k : Str) (v : V) : (store kvs k v).length ≤ kvs.length + 1 := by
  unfold store; split <;> simp
theorem look_store (kvs : List (Str × V)) (k k' : Str) (v : V) : look (store kvs k v) k' = if k' = k then some v else look kvs k' := by
  unfold store
  split
  · rename_i h
    induction kvs with
    | nil => simp at h
    | cons x r ih =>
      obtain ⟨a, y⟩ := x
      simp only [List.any_cons, Bool.or_eq_true, decide_eq_true_eq] at h
      unfold look at ih ⊢
      simp only [List.map_cons, List.find?_cons]
      by_cases hk : a = k
      · subst hk
        by_cases hk' : k' = a
        · subst hk'; simp
        · have e : ¬ a = k' := fun e => hk' e.symm
          simp only [if_true, decide_eq_false e, if_neg hk']
          by_cases hr : (r.any fun kv => decide (kv.1 = a)) = true
          · rw [ih hr, if_neg hk']
          · have hm : r.map (fun kv => if kv.1 = a then (kv.1, v) else kv) = r := by
              rw [List.map_congr_left (g := id)]
              · simp
              · intro z hz
                show _ = z
                rw [if_neg]
                intro e
                exact hr (List.any_eq_true.mpr ⟨z, hz, by simpa using e⟩)
            rw [hm]
      · have hr := h.resolve_left hk
        have ih' := ih hr
        simp only [if_neg hk]
        by_cases hak : a = k'
        · subst hak
          simp [hk]
        · simp only [decide_eq_false hak]; exact ih'
  · rename_i h
    have hno : ∀ z ∈ kvs, ¬ z.1 = k := fun z hz e => h (List.any_eq_true.mpr ⟨z, hz, by simpa using e⟩)
    unfold look
    rw [List.find?_append]
    by_cases hk : k' = k
    · subst hk
      have : kvs.find? (fun kv => decide (kv.1 = k')) = none := List.find?_eq_none.mpr fun z hz => by simpa using hno z hz
      simp [this]
    · have e : ¬ k = k' := fun e => hk e.symm
      cases hf : kvs.find? (fun kv => decide (kv.1 = k')) <;> simp [hk, e]
theorem strKind_is {x : Str} {t : Tok} : (PySem.strKind C.prog C.w).is x (.str x t) = true := by
  show Value.isStrOf x (.str x t) = true
  simp [Value.isStrOf]
theorem sok_dict {a : Addr} {k : Str} {kvs : List (Str × V)} {v : V} (e : H a = some (.dict kvs)) (hv : look kvs k = some v) (q : Q v H) : SOK C (.loc a) (.str k) ρ H Q := by
  intro u u' x y A s hA R
  cases isV_loc x
  obtain ⟨t, rfl, _⟩ := isV_str y
  obtain ⟨cs, hd, h1, h2, hz⟩ := R.view a _ e
  obtain ⟨w, hw, ha⟩ := look_conc h1 h2 hv
  exact ⟨"dict", _, slot_dict_getitem.lookup, hd.typeIs, wpAny_getItem_of strKind_is hd.mapOf hw (Done.v R ha q _)⟩
theorem dict_ne {a : Addr} {o : AO} {h : Heap} (R : Rel C ρ H h) (e : H a = some o) : (a == sysModules) = false := by
  rw [beq_eq_false_iff_ne]
  intro x
  subst x
  rw [R.sysm.1] at e; cases e
theorem cok_in_dict {a : Addr} {k : Str} {kvs : List (Str × V)} (e : H a = some (.dict kvs)) (q : Q (.bool (look kvs k).isSome) H) : COK C .In (.str k) (.loc a) ρ H Q := by
  intro u u' x y A s hA R
  cases isV_loc y
  obtain ⟨t, rfl, _⟩ := isV_str x
  obtain ⟨cs, hd, h1, h2, hz⟩ := R.view a _ e
  exact wpAny_in_of strKind_is (dict_ne R e) hd.mapOf (Done.v R (by rw [look_none h1]; rfl) q _)
theorem cok_notin_dict {a : Addr} {k : Str} {kvs : List (Str × V)} (e : H a = some (.dict kvs)) (q : Q (.bool (!(look kvs k).isSome)) H) : COK C .NotIn (.str k) (.loc a) ρ H Q := by
  intro u u' x y A s hA R
  cases isV_loc y
  obtain ⟨t, rfl, _⟩ := isV_str x
  obtain ⟨cs, hd, h1, h2, hz⟩ := R.view a _ e
  exact wpAny_notIn_of strKind_is (dict_ne R e) hd.mapOf (Done.v R (by rw [look_none h1]; rfl) q _)
end
end Mine
end
section
set_option maxRecDepth 100000
set_option Elab.async false
set_option linter.unusedVariables false
namespace Mine
open PySem PySem.Spec PyProof.Rows
inductive Fl where
  | next | brk | cont | ret (v : V)
noncomputable def isFl : Flow → Fl → Prop
  | .next, .next => True
  | .brk, .brk => True
  | .cont, .cont => True
  | .ret u, .ret v => absV u = some v
  | _, _ => False
/-- what a statement must leave as it was -/
structure SKp (C : Cx) (H H' : HV) (s s' : Shared) : Prop where
  get : ∀ b o, s.heap.get? b = some o → tabl o = false → (b < C.lo ∨ (H b = Option.none ∧ b ≠ C.env.locals ∧ ∀ x, (x, b) ∉ C.env.cells)) → s'.heap.get? b = some o
  there : ∀ b o, s.heap.get? b = some o → ∃ o', s'.heap.get? b = some o'
  gr : Gr H H' s.heap
  os : s'.os = s.os
  gens : GB s.gens s'.gens
  tab : TabK s.heap s'.heap
theorem SKp.refl (C : Cx) (H : HV) (s : Shared) : SKp C H H s s := ⟨fun _ _ e _ _ => e, fun _ o e => ⟨o, e⟩, Gr.refl _ _, rfl, GB.refl _, .refl _⟩
theorem SKp.trans {C : Cx} {H H₁ H₂ : HV} {s s₁ s₂ : Shared} (a : SKp C H H₁ s s₁) (b : SKp C H₁ H₂ s₁ s₂) : SKp C H H₂ s s₂ :=
  ⟨fun x o e t c => b.get x o (a.get x o e t c) t (c.imp (fun h => h) fun ⟨h1, h2⟩ => ⟨a.gr x o e h1, h2⟩), fun x o e => let ⟨o', e'⟩ := a.there x o e; b.there x o' e',
    a.gr.trans a.there b.gr, b.os.trans a.os, a.gens.trans b.gens, a.tab.trans b.tab⟩
theorem SKp.of_kp {C : Cx} {H H' : HV} {s s' : Shared} (K : Kp s s') (G : Gr H H' s.heap) : SKp C H H' s s' := ⟨fun b o e t _ => K.get b o e t, K.there, G, K.os, K.gens, K.tab⟩
theorem tabK_ns {h h' : Heap} {a : Addr} {m : Str → Option Value} (hn : h.Ns a m) (hs : Heap.SameBut a h h') : TabK h h' :=
  .but (fun b o hb e => (hs.2 b hb).trans e) fun o vs e d => by
    obtain ⟨o', _, _, e', d', _⟩ := hn
    rw [e] at e'; cases e'; rw [d] at d'; cases d'
theorem tabK_cell {h h' : Heap} {a : Addr} {u : Option Value} (hn : h.IsCell a u) (hs : Heap.SameBut a h h') : TabK h h' :=
  .but (fun b o hb e => (hs.2 b hb).trans e) fun o vs e d => by
    obtain ⟨o', e', d'⟩ := hn
    rw [e] at e'; cases e'; rw [d] at d'; cases d'
theorem ObjIs.nf {prog : Program} {w : World} {h : Heap} {a : Addr} {o : AO} (x : ObjIs prog w h a o) : ∀ ob vs, h.get? a = some ob → ob.data ≠ .fields vs := by
  intro ob vs e d
  cases o with
  | list l => obtain ⟨its, ⟨n, e'⟩, _⟩ := x; rw [e] at e'; cases e'; cases d
  | tuple l => obtain ⟨its, ⟨o', e', _, n, d'⟩, _⟩ := x; rw [e] at e'; cases e'; rw [d] at d'; cases d'
  | dict l => obtain ⟨its, ⟨o', es, ep, e', c, d', _⟩, _⟩ := x; rw [e] at e'; cases e'; rw [d] at d'; cases d'
/-- one object of the activation's own turned -/
theorem SKp.one {C : Cx} {H H' : HV} {s : Shared} {h' : Heap} {a : Addr} (t : Nat) (hs : Heap.SameBut a s.heap h') (ha : C.lo ≤ a) (hc : H a = Option.none → a = C.env.locals ∨ ∃ x, (x, a) ∈ C.env.cells) (hx : ∀ o, s.heap.get? a = some o → ∃ o', h'.get? a = some o')
    (g : Gr H H' s.heap) (tb : TabK s.heap h') : SKp C H H' s { s with heap := h', toks := t } := by
  refine ⟨fun b o e _ c => ?_, fun b o e => ?_, g, rfl, GB.refl _, tb⟩
  · have hb : b ≠ a := by
      rintro rfl
      rcases c with c | ⟨c1, c2, c3⟩
      · exact absurd ha (Nat.not_le.mpr c)
      · rcases hc c1 with h | ⟨x, h⟩
        · exact c2 h
        · exact c3 x h
    exact (hs.2 b hb).trans e
  · by_cases hb : b = a
    · subst hb; exact hx o e
    · exact ⟨o, (hs.2 b hb).trans e⟩
noncomputable def SDone (C : Cx) (H : HV) (s : Shared) (Q : Fl → EV → HV → Prop) (f : Flow) (s' : Shared) : Prop :=
  ∃ fl ρ' H', isFl f fl ∧ SKp C H H' s s' ∧ Rel C ρ' H' s'.heap ∧ Q fl ρ' H'
noncomputable def Exs (C : Cx) (body : List Stmt) (ρ : EV) (H : HV) (Q : Fl → EV → HV → Prop) : Prop :=
  ∀ (A : Around) (s : Shared), Rm A C.k → Rel C ρ H s.heap → wpAny (model C.prog C.w) A (execs body C.env) (SDone C H s Q) nay s
noncomputable def Ex (C : Cx) (st : Stmt) (ρ : EV) (H : HV) (Q : Fl → EV → HV → Prop) : Prop :=
  ∀ (A : Around) (s : Shared), Rm A C.k → Rel C ρ H s.heap → wpAny (model C.prog C.w) A (exec st C.env) (SDone C H s Q) nay s
section
variable {C : Cx} {ρ : EV} {H H' : HV} {A : Around} {s : Shared} {Q : Fl → EV → HV → Prop}
theorem SDone.trans {s s₁ s₂ : Shared} {H H₁ : HV} {f : Flow} (K : SKp C H H₁ s s₁) (d : SDone C H₁ s₁ Q f s₂) : SDone C H s Q f s₂ := by
  obtain ⟨fl, ρ', H', a, b, c⟩ := d
  exact ⟨fl, ρ', H', a, K.trans b, c⟩
theorem Exs.use {body : List Stmt} (x : Exs C body ρ H Q) (hA : Rm A C.k) (R : Rel C ρ H s.heap) {P : Flow → Shared → Prop} {E : Value → Shared → Prop}
    (g : ∀ f fl ρ' H' s', isFl f fl → SKp C H H' s s' → Rel C ρ' H' s'.heap → Q fl ρ' H' → P f s') : wpAny (model C.prog C.w) A (execs body C.env) P E s :=
  wpAny_mono (x A s hA R) (fun f s' ⟨fl, ρ', H', a, b, c, d⟩ => g f fl ρ' H' s' a b c d) fun _ _ e => e.elim
theorem Exs.mono {body : List Stmt} {Q' : Fl → EV → HV → Prop} (x : Exs C body ρ H Q) (g : ∀ fl ρ' H', Q fl ρ' H' → Q' fl ρ' H') : Exs C body ρ H Q' :=
  fun A s hA R => x.use hA R fun f fl ρ' H' s' a b c d => ⟨fl, ρ', H', a, b, c, g _ _ _ d⟩
theorem exs_nil (q : Q .next ρ H) : Exs C [] ρ H Q := fun A s hA R => wpAny_execs_nil ⟨.next, ρ, H, trivial, SKp.refl _ _ _, R, q⟩
theorem exs_cons {st : Stmt} {rest : List Stmt} (h : Ex C st ρ H fun fl ρ₁ H₁ => match fl with | .next => Exs C rest ρ₁ H₁ Q | fl => Q fl ρ₁ H₁) : Exs C (st :: rest) ρ H Q := by
  intro A s hA R
  refine wpAny_execs_cons (wpAny_mono (h A s hA R) (fun f s' hd => ?_) fun _ _ e => e)
  obtain ⟨fl, ρ', H', a, b, c, d⟩ := hd
  cases f <;> cases fl <;> first | exact absurd a (fun x => x) | skip
  · exact wpAny_mono (d A s' hA c) (fun _ _ d => d.trans b) fun _ _ e => e
  · exact ⟨.brk, ρ', H', a, b, c, d⟩
  · exact ⟨.cont, ρ', H', a, b, c, d⟩
  · exact ⟨.ret _, ρ', H', a, b, c, d⟩
theorem ex_Break {pos : Pos} (q : Q .brk ρ H) : Ex C (.Break pos) ρ H Q := fun A s hA R => wpAny_Break ⟨.brk, ρ, H, trivial, SKp.refl _ _ _, R, q⟩
theorem ex_Return {e : Expr} {pos : Pos} (h : Ev C e ρ H fun v H₁ => Q (.ret v) ρ H₁) : Ex C (.Return (some e) pos) ρ H Q :=
  fun A s hA R => wpAny_Return_some (h.use hA R fun u v s₁ H₁ a K R₁ G q => ⟨.ret v, ρ, H₁, a, .of_kp K G, R₁, q⟩)
theorem ex_If {test : Expr} {body orelse : List Stmt} {pos : Pos} (h : Tst C test ρ H fun b H₁ => if b = true then Exs C body ρ H₁ Q else Exs C orelse ρ H₁ Q) : Ex C (.If test body orelse pos) ρ H Q := by
  intro A s hA R
  refine wpAny_If (h.use hA R fun u v s₁ H₁ a K R₁ G q => ?_)
  cases (show u = v from a)
  cases u with
  | true => exact wpAny_mono (q A s₁ hA R₁) (fun _ _ d => d.trans (.of_kp K G)) fun _ _ e => e
  | false => exact wpAny_mono (q A s₁ hA R₁) (fun _ _ d => d.trans (.of_kp K G)) fun _ _ e => e
/-- a name is stored -/
theorem store_name {x : Str} {u : Value} {v : V} {P : Unit → Shared → Prop} (hk : C.nms.lookup x = some .local ∨ C.nms.lookup x = some .cell) {E : Value → Shared → Prop} (R : Rel C ρ H s.heap) (a : absV u = some v)
    (g : ∀ s', SKp C H H s s' → Rel C (put ρ x v) H s'.heap → P () s') : wpAny (model C.prog C.w) A (storeName C.env x u) P E s := by
  obtain ⟨m, hn, hm⟩ := R.loc
  rcases hk with hk | hk
  · refine wpAny_storeName_local ((R.kindOf x).trans hk) hn (fun h' hn' hs' => g _ ?_ ?_) (by rw [R.eok.kind]; rfl)
    · exact SKp.one _ hs' R.lloc (fun _ => .inl rfl) (fun o e => let ⟨o', _, _, e', _⟩ := hn'; ⟨o', e'⟩) (Gr.refl _ _) (tabK_ns hn hs')
    · have kb : ∀ b, b ≠ C.env.locals → h'.get? b = s.heap.get? b := fun b hb => hs'.2 b hb
      refine ⟨R.eok, fun b o e t => ?_, R.old.step_same (Nat.le_trans R.blo R.lloc) hs', R.blo, fun b o e => ?_, fun y v' e => ?_, ⟨_, hn', fun y v' hy e => ?_⟩, fun y hy => ?_, R.apart, fun y c hc => ?_, R.hloc, R.lloc, ⟨R.sysm.1, ?_⟩, R.code.trans (tabK_ns hn hs')⟩
      · have : b ≠ C.env.locals := Nat.ne_of_lt (Nat.lt_of_lt_of_le (Heap.lt_size e) (Nat.le_trans R.blo R.lloc))
        rw [kb b this]; exact R.base b o e t
      · have : b ≠ C.env.locals := by rintro rfl; rw [R.hloc] at e; cases e
        exact (R.view b o e).at fun ob eb _ => (kb b this).trans eb
      · unfold put at e
        split at e
        · rename_i hy; subst hy; exact .inl hk
        · exact R.dom y v' e
      · unfold put at e
        split at e
        · rename_i hyx; subst hyx; cases e; exact ⟨u, by simp, a⟩
        · rename_i hyx; rw [if_neg hyx]; exact hm y v' hy e
      · obtain ⟨c, u', a1, a2, a3⟩ := R.cel y hy
        refine ⟨c, u', a1, a2.sameBut hs' (R.cloc y c (mem_of_lookup a1)).1, fun v' e => a3 v' ?_⟩
        unfold put at e
        split at e
        · rename_i hyx; subst hyx; rw [hk] at hy; rcases hy with hy | hy <;> cases hy
        · exact e
      · obtain ⟨h1, h2, h3, o, h4⟩ := R.cloc y c hc
        exact ⟨h1, h2, h3, o, (kb c h1).trans h4⟩
      · obtain ⟨_, o, ho⟩ := R.sysm
        by_cases hb : sysModules = C.env.locals
        · obtain ⟨o', _, _, e', _⟩ := hn'; exact ⟨o', hb ▸ e'⟩
        · exact ⟨o, (kb _ hb).trans ho⟩
  · obtain ⟨c, u₀, hc, hcell, _⟩ := R.cel x (.inl hk)
    obtain ⟨c1, c2, c3, oc, c4⟩ := R.cloc x c (mem_of_lookup hc)
    refine wpAny_storeName_cell R.eok.kind ((R.kindOf x).trans hk) hc hcell fun h' hv' hs' => g _ ?_ ?_
    · exact SKp.one s.toks hs' c2 (fun _ => .inr ⟨x, mem_of_lookup hc⟩) (fun o e => let ⟨o', e', _⟩ := hv'; ⟨o', e'⟩) (Gr.refl _ _) (tabK_cell hcell hs')
    · have kb : ∀ b, b ≠ c → h'.get? b = s.heap.get? b := fun b hb => hs'.2 b hb
      refine ⟨R.eok, fun b o e t => ?_, R.old.step_same (Nat.le_trans R.blo c2) hs', R.blo, fun b o e => ?_, fun y v' e => ?_, ⟨m, hn.sameBut hs' (Ne.symm c1), fun y v' hy e => ?_⟩, fun y hy => ?_, R.apart, fun y c' hc' => ?_, R.hloc, R.lloc, ⟨R.sysm.1, ?_⟩, R.code.trans (tabK_cell hcell hs')⟩
      · have : b ≠ c := Nat.ne_of_lt (Nat.lt_of_lt_of_le (Heap.lt_size e) (Nat.le_trans R.blo c2))
        rw [kb b this]; exact R.base b o e t
      · have : b ≠ c := by rintro rfl; rw [c3] at e; cases e
        exact (R.view b o e).at fun ob eb _ => (kb b this).trans eb
      · unfold put at e
        split at e
        · rename_i hy; subst hy; exact .inr (.inl hk)
        · exact R.dom y v' e
      · unfold put at e
        split at e
        · rename_i hyx; subst hyx; rw [hk] at hy; cases hy
        · exact hm y v' hy e
      · by_cases hyx : y = x
        · subst hyx
          exact ⟨c, some u, hc, hv', fun v' e => ⟨u, rfl, by simp [put] at e; rw [← e]; exact a⟩⟩
        · obtain ⟨c', u', a1, a2, a3⟩ := R.cel y hy
          have hne : c' ≠ c := fun e => hyx (R.apart _ _ _ (mem_of_lookup a1) (e ▸ mem_of_lookup hc))
          refine ⟨c', u', a1, a2.sameBut hs' hne, fun v' e => a3 v' ?_⟩
          unfold put at e; rw [if_neg hyx] at e; exact e
      · obtain ⟨h1, h2, h3, o, h4⟩ := R.cloc y c' hc'
        by_cases hcc : c' = c
        · subst hcc; obtain ⟨o', e', _⟩ := hv'; exact ⟨h1, h2, h3, o', e'⟩
        · exact ⟨h1, h2, h3, o, (kb c' hcc).trans h4⟩
      · obtain ⟨_, o, ho⟩ := R.sysm
        by_cases hb : sysModules = c
        · obtain ⟨o', e', _⟩ := hv'; exact ⟨o', hb ▸ e'⟩
        · exact ⟨o, (kb _ hb).trans ho⟩
theorem ex_Assign {x : Str} {p pos : Pos} {value : Expr} (hk : C.nms.lookup x = some .local ∨ C.nms.lookup x = some .cell) (h : Ev C value ρ H fun v H₁ => Q .next (put ρ x v) H₁)
    (hs : ∀ env, swapsWith value (some (.Name x p)) pos.line env = pure false := by intro _; rfl) : Ex C (.Assign [.Name x p] value pos) ρ H Q :=
  fun A s hA R => wpAny_Assign_Name (h.use hA R fun u v s₁ H₁ a K R₁ G q => store_name hk R₁ a fun s' K' R' => ⟨.next, _, H₁, trivial, (SKp.of_kp K G).trans K', R', q⟩) (hs _)
/-- an object of the activation's own is turned -/
theorem turn_obj {a : Addr} {o : AO} {h' : Heap} (R : Rel C ρ H s.heap) (ha : C.lo ≤ a) (e : (H a).isSome = true) (hs : Heap.SameBut a s.heap h') (x : ObjIs C.prog C.w h' a o) :
    SKp C H (upd H a o) s { s with heap := h' } ∧ Rel C ρ (upd H a o) h' := by
  have kb : ∀ b, b ≠ a → h'.get? b = s.heap.get? b := fun b hb => hs.2 b hb
  have hne : a ≠ C.env.locals := by rintro rfl; rw [R.hloc] at e; cases e
  have tb : TabK s.heap h' := by
    obtain ⟨ob, eo⟩ := Option.isSome_iff_exists.mp e
    exact .but (fun b o hb e => (hs.2 b hb).trans e) (R.view a ob eo).nf
  have g : Gr H (upd H a o) s.heap := fun b o' eb n => by
    unfold upd; split
    · rename_i h; subst h; rw [n] at e; cases e
    · exact n
  refine ⟨SKp.one (h' := h') s.toks hs ha (fun n => by rw [n] at e; cases e) (fun _ _ => x.there) g tb, ?_⟩
  obtain ⟨m, hn, hm⟩ := R.loc
  refine ⟨R.eok, fun b o' eb t => ?_, R.old.step_same (Nat.le_trans R.blo ha) hs, R.blo, fun b o' eb => ?_, R.dom, ⟨m, hn.sameBut hs (Ne.symm hne), hm⟩, fun y hy => ?_, R.apart, fun y c hc => ?_, ?_, R.lloc, ⟨?_, ?_⟩, R.code.trans tb⟩
  · have : b ≠ a := Nat.ne_of_lt (Nat.lt_of_lt_of_le (Heap.lt_size eb) (Nat.le_trans R.blo ha))
    rw [kb b this]; exact R.base b o' eb t
  · unfold upd at eb
    split at eb
    · rename_i hb; subst hb; cases eb; exact x
    · rename_i hb; exact (R.view b o' eb).at fun ob e' _ => (kb b hb).trans e'
  · obtain ⟨c, u, a1, a2, a3⟩ := R.cel y hy
    have hca : c ≠ a := by rintro rfl; rw [(R.cloc y c (mem_of_lookup a1)).2.2.1] at e; cases e
    exact ⟨c, u, a1, a2.sameBut hs hca, a3⟩
  · obtain ⟨h1, h2, h3, o', h4⟩ := R.cloc y c hc
    have hca : c ≠ a := by rintro rfl; rw [h3] at e; cases e
    exact ⟨h1, h2, by unfold upd; rw [if_neg hca]; exact h3, o', (kb c hca).trans h4⟩
  · unfold upd; rw [if_neg (Ne.symm hne)]; exact R.hloc
  · unfold upd; split
    · rename_i h; rw [← h, R.sysm.1] at e; cases e
    · exact R.sysm.1
  · obtain ⟨h1, o', h2⟩ := R.sysm
    by_cases hb : sysModules = a
    · rw [← hb, h1] at e; cases e
    · exact ⟨o', (kb _ hb).trans h2⟩
end
end Mine
end
section
set_option maxRecDepth 100000
set_option Elab.async false
set_option linter.unusedVariables false
namespace Mine
open PySem PySem.Spec PyProof.Rows
section
variable {C : Cx} {ρ : EV} {H H' : HV} {A : Around} {s : Shared} {Q : Fl → EV → HV → Prop}
theorem plainL_of {h : Heap} {a : Addr} {its : Array Value} (x : h.PlainList a its) : PlainL h a its := let ⟨n, e⟩ := x; ⟨_, n, e, rfl, rfl, rfl⟩
/-- o.append(elt) -/
theorem ex_append {o elt : Expr} {apos pos spos : Pos}
    (h : Ev C o ρ H fun a H₁ => ∃ b, a = .loc b ∧ (∃ vs, H₁ b = some (.list vs)) ∧ Ev C elt ρ H₁ fun v H₂ => ∃ vs, H₂ b = some (.list vs) ∧ C.lo ≤ b ∧ vs.length < 1048576 ∧ Q .next ρ (upd H₂ b (.list (vs ++ [v]))))
    (hbase : ∀ env, attributeBase o "append" env (eval o env) = eval o env := by intro _; rfl)
    (hfew : ∀ env, ((backTo pos (starEach [elt] env)).all (fun x => !x.1) && (backToKw pos (keywordEach [] env)).all (fun x => x.1.isSome)
      && decide (([elt] : List Expr).length + ([] : List Keyword).length + (if ([] : List Keyword).isEmpty then 0 else 1) < 30)) = true := by intro _; rfl)
    (hline : (apos.endLine == pos.line) = true := by rfl)
    (htrees : ∀ env, backTo pos (starEach [elt] env) = [(false, eval elt env)] := by intro _; rfl) :
    Ex C (.Expr (.Call (.Attribute o "append" apos) [elt] [] pos) spos) ρ H Q := by
  intro A s hA R
  refine wpAny_Expr_any (wpAny_Call_append (hbase _) (hfew _) hline (htrees _) (h.use hA R fun u v s₁ H₁ a K R₁ G q => ?_)) ?_ ?_
  · obtain ⟨b, rfl, ⟨vs, hb⟩, q⟩ := q
    cases isV_loc a
    obtain ⟨its, hl, _⟩ := R₁.view b _ hb
    refine ⟨b, _, rfl, plainL_of hl, q.use hA R₁ fun u' v' s₂ H₂ a' K' R₂ G' q' => ?_⟩
    obtain ⟨vs', hb', hlo, hz, q'⟩ := q'
    obtain ⟨its', hl', hx, _⟩ := R₂.view b _ hb'
    refine wpAny_list_append_plain hl' (fun h' hl'' hs'' => ?_) (by rw [List.size_toArray, hx.length]; exact Nat.le_trans (Nat.le_of_lt hz) (by decide))
    have ob : ObjIs C.prog C.w h' b (.list (vs' ++ [v'])) := ⟨its' ++ [u'], by simpa using hl'', hx.append (.one a'), by rw [List.length_append]; exact hz⟩
    obtain ⟨k1, k2⟩ := turn_obj R₂ hlo (by rw [hb']; rfl) hs'' ob
    exact ⟨.next, ρ, _, trivial, (SKp.of_kp K G).trans ((SKp.of_kp K' G').trans k1), k2, q'⟩
  · show (C.env.scope.kind == .module && _) = false
    rw [R.eok.kind]; rfl
  · rfl
theorem setItem_plain {l : Addr} {items : Array Value} {k : Int} {t : Tok} {v : Value} {P : Unit → Shared → Prop} {prog : Program} {w : World} {E : Value → Shared → Prop} (hl : s.heap.PlainList l items)
    (h0 : 0 ≤ k) (hfit : k < 2 ^ 63) (hn : k < items.size)
    (hQ : ∀ h', h'.PlainList l (items.setIfInBounds k.toNat v) → Heap.SameBut l s.heap h' → P () { s with heap := h' }) :
    wpAny (model prog w) A (setItem (.ref l) (.int k t) v) P E s := by
  obtain ⟨ne, ho⟩ := id hl
  have hd : ({ cls := .type "list", data := .seq items ne } : Obj).data = .seq items ne := rfl
  unfold setItem
  try with_reducible refine wpAny_holding ?_
  first | refine wpAny_bind (wpAny_pure ?_) | skip
  refine wpAny_bind (wpAny_sequenceKey hl.isList.typeIs (by decide) ?_)
  refine wpAny_bind (wpAny_callSpecial?_slot (name := Str.ofString "__setitem__") hl.isList.typeIs slot_list_setitem
    (wpAny_call_entry slot_list_setitem hl.isList.typeIs entry_list_setitem ?_ (args_list_setitem _ _ _)))
  show wpAny _ _ (Builtin.List.listSubscript? (.int k t) >>= _) _ _ s
  refine wpAny_bind (wpAny_listSubscript_int (fitsIndex_of h0 hfit) ?_)
  clear hfit
  obtain ⟨j, rfl⟩ := Int.eq_ofNat_of_zero_le h0
  have hj : j < items.size := by omega
  have hx' : items[j]? = some items[j] := Array.getElem?_eq_getElem hj
  show wpAny _ _ ((seqItemAt l j >>= fun r => pure (r.map (j, ·))) >>= _) _ _ s
  refine wpAny_bind (wpAny_bind (wpAny_seqItemAt ho hd (wpAny_pure ?_)))
  rw [hx']
  show wpAny _ _ (setSeqItemAt l j v >>= _) _ _ s
  have hfin : (s.heap.update l (Obj.mapSeq (·.setIfInBounds j v))).PlainList l (items.setIfInBounds j v) :=
    ⟨_, Heap.get?_update_self _ ho rfl⟩
  refine wpAny_bind (wpAny_setSeqItemAt ho hd ?_)
  first
    | exact wpAny_bind (wpAny_pure (wpAny_pure ⟨.none, rfl, wpAny_pure (hQ _ hfin (Heap.SameBut.update ..))⟩))
    | exact wpAny_pure ⟨.none, rfl, wpAny_pure (hQ _ hfin (Heap.SameBut.update ..))⟩
/-- what o[i] = v turns -/
noncomputable def SetOK (C : Cx) (a b v : V) (ρ : EV) (H : HV) (P : HV → Prop) : Prop :=
  (∃ l i vs, a = .loc l ∧ b = .int i ∧ H l = some (.list vs) ∧ C.lo ≤ l ∧ 0 ≤ i ∧ i < vs.length ∧ P (upd H l (.list (vs.set i.toNat v)))) ∨
  (∃ d k kvs, a = .loc d ∧ b = .str k ∧ H d = some (.dict kvs) ∧ C.lo ≤ d ∧ (store kvs k v).length ≤ 1048576 ∧ P (upd H d (.dict (store kvs k v))))
theorem ex_SetItem {o i value : Expr} {p pos : Pos} (h : Ev C value ρ H fun v H₁ => Ev C o ρ H₁ fun a H₂ => Ev C i ρ H₂ fun b H₃ => SetOK C a b v ρ H₃ fun H₄ => Q .next ρ H₄)
    (hs : ∀ env, swapsWith value (some (.Subscript o i p)) pos.line env = pure false := by intro _; rfl) : Ex C (.Assign [.Subscript o i p] value pos) ρ H Q := by
  intro A s hA R
  refine wpAny_Assign_Subscript (h.use hA R fun u v s₁ H₁ a₁ K₁ R₁ G₁ q => q.use hA R₁ fun u₂ v₂ s₂ H₂ a₂ K₂ R₂ G₂ q => q.use hA R₂ fun u₃ v₃ s₃ H₃ a₃ K₃ R₃ G₃ q => ?_) (hs _)
  have K : SKp C H H₃ s s₃ := (SKp.of_kp K₁ G₁).trans ((SKp.of_kp K₂ G₂).trans (.of_kp K₃ G₃))
  rcases q with ⟨l, i, vs, rfl, rfl, hl, hlo, h0, hi, q⟩ | ⟨d, k, kvs, rfl, rfl, hd, hlo, hz, q⟩
  · cases isV_loc a₂
    obtain ⟨t, rfl⟩ := isV_int a₃
    obtain ⟨its, hp, hx, hz⟩ := R₃.view l _ hl
    have hlen := hx.length
    refine setItem_plain hp h0 (by omega) (by rw [List.size_toArray]; omega) fun h' hp' hs' => ?_
    have ob : ObjIs C.prog C.w h' l (.list (vs.set i.toNat v)) := ⟨its.set i.toNat u, by simpa using hp', hx.set _ a₁, by rw [List.length_set]; exact hz⟩
    obtain ⟨k1, k2⟩ := turn_obj R₃ hlo (by rw [hl]; rfl) hs' ob
    exact ⟨.next, ρ, _, trivial, K.trans k1, k2, q⟩
  · cases isV_loc a₂
    obtain ⟨t, rfl, _⟩ := isV_str a₃
    obtain ⟨cs, hc, h1, h2, hz'⟩ := R₃.view d _ hd
    have hlen : cs.length = kvs.length := by have := congrArg List.length h1; simpa using this
    refine wpAny_setItem_pairs strKind_is hc (fun h' hc' hs' => ?_) (by rw [hlen]; exact Nat.le_trans hz' (by decide))
    obtain ⟨e1, e2⟩ := store_conc (k := k) h1 h2 a₁
    have ob : ObjIs C.prog C.w h' d (.dict (store kvs k v)) := ⟨stored cs k u, hc', e1, e2, hz⟩
    obtain ⟨k1, k2⟩ := turn_obj R₃ hlo (by rw [hd]; rfl) hs' ob
    exact ⟨.next, ρ, _, trivial, K.trans ⟨k1.get, k1.there, k1.gr, k1.os, k1.gens, k1.tab⟩, k2, q⟩
/-- a while loop: I n holds where n more turns may come -/
theorem ex_While {test : Expr} {body : List Stmt} {pos : Pos} (I : Nat → EV → HV → Prop)
    (turn : ∀ n ρ' H', I n ρ' H' → Tst C test ρ' H' fun b H₁ => if b = true then Exs C body ρ' H₁ (fun fl ρ₂ H₂ => match fl with | .next | .cont => ∃ m, m < n ∧ I m ρ₂ H₂ | .brk => Q .next ρ₂ H₂ | .ret v => Q (.ret v) ρ₂ H₂) else Q .next ρ' H₁)
    (n : Nat) (h : I n ρ H) : Ex C (.While test body [] pos) ρ H Q := by
  intro A s hA R
  refine wpAny_While (codeAny_mono (R := fun r s' => match r with | .ok f => SDone C H s Q f s' | .error _ => False) ?_ ?_)
  · refine codeAny_whileLoop (fun n s' => ∃ ρ' H', I n ρ' H' ∧ SKp C H H' s s' ∧ Rel C ρ' H' s'.heap) ?_ n ⟨ρ, H, h, SKp.refl _ _ _, R⟩
    rintro n s₁ ⟨ρ', H', hI, K, R₁⟩
    refine (turn n ρ' H' hI).use hA R₁ fun u v s₂ H₂ a K₂ R₂ G₂ q => ?_
    cases (show u = v from a)
    have K' := K.trans (SKp.of_kp K₂ G₂)
    cases u with
    | true =>
      refine (show Exs _ _ _ _ _ from q).use hA R₂ fun f fl ρ₃ H₃ s₃ a K₃ R₃ q => ?_
      cases f <;> cases fl <;> first | exact absurd a (fun x => x) | skip
      · obtain ⟨m, hm, hI⟩ := q; exact ⟨m, hm, ρ₃, H₃, hI, K'.trans K₃, R₃⟩
      · exact ⟨.next, ρ₃, H₃, trivial, K'.trans K₃, R₃, q⟩
      · obtain ⟨m, hm, hI⟩ := q; exact ⟨m, hm, ρ₃, H₃, hI, K'.trans K₃, R₃⟩
      · exact ⟨.ret _, ρ₃, H₃, a, K'.trans K₃, R₃, q⟩
    | false => exact wpAny_execs_nil ⟨.next, ρ', H₂, trivial, K', R₂, q⟩
  · intro r s' d
    cases r with
    | ok f => exact d
    | error e => exact d.elim
end
end Mine
end
section
set_option maxRecDepth 100000
set_option Elab.async false
set_option linter.unusedVariables false
namespace Mine
open PySem PySem.Spec PyProof.Rows
/-- what is gone through -/
inductive Src where
  | list (a : Addr) (vs : List V) | tup (a : Addr) (vs : List V) | rng (a₀ : Int) (n : Nat)
noncomputable def Src.vals : Src → List V
  | .list _ vs => vs
  | .tup _ vs => vs
  | .rng a₀ n => (List.range n).map fun (j : Nat) => V.int (a₀ + (j : Int))
noncomputable def Src.Ok (H : HV) : Src → Prop
  | .list a vs => H a = some (.list vs)
  | .tup a vs => H a = some (.tuple vs)
  | .rng _ n => n ≤ 1048576
noncomputable def ItIs (h : Heap) (I : Addr) (i : Nat) : Src → Prop
  | .list a _ => h.IsListIter I a i
  | .tup a _ => h.IsTupleIter I a i
  | .rng a₀ n => IsRangeIter h I (a₀ + (i : Int) * 1) ((n : Int) - (i : Int)) 1
theorem oldK_but {h₀ h h' : Heap} (K : OldK h₀ h) {a : Addr} (ha : h₀.objs.size ≤ a) (hx : ∀ b o, b ≠ a → h.get? b = some o → h'.get? b = some o) : OldK h₀ h' := by
  have ne : ∀ b o, h₀.get? b = some o → b ≠ a := fun b o e => Nat.ne_of_lt (Nat.lt_of_lt_of_le (Heap.lt_size e) ha)
  refine ⟨fun b o e => ?_, fun b o e => let ⟨o', ho'⟩ := K.there b o e; ⟨o', hx b _ (ne b o e) ho'⟩⟩
  rcases K.old b o e with x | ⟨t, hc, vs, more, hv, x⟩ | ⟨rfl, hc, ⟨o', es, n, ho', r⟩, z⟩
  · exact .inl (hx _ _ (ne b o e) x)
  · exact .inr (.inl ⟨t, hc, vs, more, hv, hx _ _ (ne b o e) x⟩)
  · exact .inr (.inr ⟨rfl, hc, ⟨o', es, n, hx _ _ (ne _ o e) ho', r⟩, fun key => by rw [OldK.staticOf_congr ((hx _ _ (ne _ o e) ho').trans ho'.symm) key]; exact z key⟩)
/-- a thing that the abstract state does not see -/
structure Off (C : Cx) (H : HV) (I : Addr) : Prop where
  hi : H I = Option.none
  lo : C.lo ≤ I
  loc : I ≠ C.env.locals
  cel : ∀ x, (x, I) ∉ C.env.cells
  sys : I ≠ sysModules
section
variable {C : Cx} {ρ : EV} {H H' : HV} {A : Around} {s : Shared} {h h' : Heap} {I : Addr}
theorem Rel.other (R : Rel C ρ H h) (o : Off C H I) (hx : ∀ b o, b ≠ I → h.get? b = some o → h'.get? b = some o) : Rel C ρ H h' := by
  obtain ⟨m, hn, hm⟩ := R.loc
  refine ⟨R.eok, fun b ob e t => hx _ _ (Nat.ne_of_lt (Nat.lt_of_lt_of_le (Heap.lt_size e) (Nat.le_trans R.blo o.lo))) (R.base b ob e t), oldK_but R.old (Nat.le_trans R.blo o.lo) hx, R.blo, fun b ob e => ?_, R.dom, ⟨m, hn.at' fun ob e => hx _ _ (Ne.symm o.loc) e, hm⟩, fun x hk => ?_, R.apart, fun x c hm => ?_, R.hloc, R.lloc, ⟨R.sysm.1, ?_⟩, R.code.since fun b ob o₀ e₀ e => hx _ _ (Nat.ne_of_lt (Nat.lt_of_lt_of_le (Heap.lt_size e₀) (Nat.le_trans R.blo o.lo))) e⟩
  · have : b ≠ I := by rintro rfl; rw [o.hi] at e; cases e
    exact (R.view b ob e).at fun _ e' _ => hx _ _ this e'
  · obtain ⟨c, u, a1, a2, a3⟩ := R.cel x hk
    have hc : c ≠ I := by rintro rfl; exact o.cel x (mem_of_lookup a1)
    exact ⟨c, u, a1, cell_at a2 fun _ e' _ => hx _ _ hc e', a3⟩
  · obtain ⟨h1, h2, h3, ob, h4⟩ := R.cloc x c hm
    have hc : c ≠ I := by rintro rfl; exact o.cel x hm
    exact ⟨h1, h2, h3, ob, hx _ _ hc h4⟩
  · obtain ⟨_, ob, e⟩ := R.sysm
    exact ⟨ob, hx _ _ (Ne.symm o.sys) e⟩
theorem Off.new (R : Rel C ρ H h) (ha : h.objs.size ≤ I) : Off C H I := by
  obtain ⟨m, hn, _⟩ := R.loc
  refine ⟨(R.fresh ha).2, (R.fresh ha).1, Nat.ne_of_gt (Nat.lt_of_lt_of_le hn.lt ha), fun x hm => ?_, ?_⟩
  · obtain ⟨_, _, _, o, e⟩ := R.cloc x I hm
    exact absurd (Heap.lt_size e) (Nat.not_lt.mpr ha)
  · obtain ⟨_, o, e⟩ := R.sysm
    exact Nat.ne_of_gt (Nat.lt_of_lt_of_le (Heap.lt_size e) ha)
theorem Off.gr (o : Off C H I) {ob : Obj} (e : h.get? I = some ob) (g : Gr H H' h) : Off C H' I := ⟨g I ob e o.hi, o.lo, o.loc, o.cel, o.sys⟩
theorem SKp.skip {H₁ : HV} {s₁ : Shared} {t : Nat} (K : SKp C H H₁ s s₁) (hn : s.heap.get? I = Option.none) (hx : ∀ b o, b ≠ I → s₁.heap.get? b = some o → h'.get? b = some o) : SKp C H H₁ s { s₁ with heap := h', toks := t } := by
  have ne : ∀ b o, s.heap.get? b = some o → b ≠ I := fun b o e q => by subst q; rw [hn] at e; cases e
  exact ⟨fun b o e t c => hx _ _ (ne b o e) (K.get b o e t c), fun b o e => let ⟨o', e'⟩ := K.there b o e; ⟨o', hx _ _ (ne b o e) e'⟩, K.gr, K.os, K.gens, K.tab.since fun b o o₀ e₀ e => hx _ _ (ne b o₀ e₀) e⟩
theorem ItIs.there {i : Nat} {src : Src} (x : ItIs h I i src) : ∃ o, h.get? I = some o ∧ tabl o = false := by
  cases src with
  | list a vs => obtain ⟨o, e, c, d⟩ := x; exact ⟨o, e, tabl_type c⟩
  | tup a vs => obtain ⟨o, e, c, d⟩ := x; exact ⟨o, e, tabl_type c⟩
  | rng a n => exact ⟨_, x, rfl⟩
theorem ItIs.at {i : Nat} {src : Src} (x : ItIs h I i src) (k : ∀ o, h.get? I = some o → tabl o = false → h'.get? I = some o) : ItIs h' I i src := by
  cases src with
  | list a vs => obtain ⟨o, e, c, d⟩ := x; exact ⟨o, k _ e (tabl_type c), c, d⟩
  | tup a vs => obtain ⟨o, e, c, d⟩ := x; exact ⟨o, k _ e (tabl_type c), c, d⟩
  | rng a n => exact k _ x rfl
theorem next_item {i : Nat} {src : Src} {v : V} {P : Option Value → Shared → Prop} {E : Value → Shared → Prop} (R : Rel C ρ H s.heap) (ok : src.Ok H) (it : ItIs s.heap I i src) (hv : src.vals[i]? = some v)
    (g : ∀ u h' t, absV u = some v → ItIs h' I (i + 1) src → (∀ b o, b ≠ I → s.heap.get? b = some o → h'.get? b = some o) → P (some u) { s with heap := h', toks := t }) : wpAny (model C.prog C.w) A (pyNext (.ref I)) P E s := by
  cases src with
  | list a vs =>
    obtain ⟨its, hl, hx, _⟩ := R.view a _ ok
    obtain ⟨u, hu, ha⟩ := hx.get hv
    exact wpAny_pyNext_list_item it hl.isList (x := u) (by simpa using hu) fun h' it' hs => g u h' s.toks ha it' fun b o hb e => (hs.2 b hb).trans e
  | tup a vs =>
    obtain ⟨its, hl, hx, _⟩ := R.view a _ ok
    obtain ⟨u, hu, ha⟩ := hx.get hv
    exact wpAny_pyNext_tuple_item it hl (x := u) (by simpa using hu) fun h' it' hs => g u h' s.toks ha it' fun b o hb e => (hs.2 b hb).trans e
  | rng a₀ n =>
    have hi : i < n := by have := (List.getElem?_eq_some_iff.mp hv).1; simpa [Src.vals] using this
    have e : v = .int (a₀ + (i : Int)) := by simp [Src.vals, hi] at hv; exact hv.symm
    subst e
    refine wpAny_pyNext_range_item it (by omega) fun h' it' hs => g _ h' _ ?_ ?_ fun b o hb e => (hs.2 b hb).trans e
    · show some (V.int (a₀ + (i : Int) * 1)) = _
      rw [Int.mul_one]
    · have e1 : a₀ + (i : Int) * 1 + 1 = a₀ + ((i + 1 : Nat) : Int) * 1 := by omega
      have e2 : (n : Int) - (i : Int) - 1 = (n : Int) - ((i + 1 : Nat) : Int) := by omega
      rw [e1, e2] at it'
      exact it'
theorem next_end {src : Src} {P : Option Value → Shared → Prop} {E : Value → Shared → Prop} (hA : A.handled = Option.none) (R : Rel C ρ H s.heap) (ok : src.Ok H) (it : ItIs s.heap I src.vals.length src)
    (g : ∀ h', (∀ b o, b ≠ I → s.heap.get? b = some o → h'.get? b = some o) → P Option.none { s with heap := h' }) : wpAny (model C.prog C.w) A (pyNext (.ref I)) P E s := by
  cases src with
  | list a vs =>
    obtain ⟨its, hl, hx, _⟩ := R.view a _ ok
    exact wpAny_pyNext_list_end hA it hl.isList (by simp [Src.vals, hx.length]) fun h' hs => g h' fun b o hb e => hs b o hb e
  | tup a vs =>
    obtain ⟨its, hl, hx, _⟩ := R.view a _ ok
    exact wpAny_pyNext_tuple_end hA it hl (by simp [Src.vals, hx.length]) fun h' hs => g h' fun b o hb e => hs b o hb e
  | rng a₀ n =>
    have it' : IsRangeIter s.heap I (a₀ + ((Src.rng a₀ n).vals.length : Int) * 1) ((n : Int) - ((Src.rng a₀ n).vals.length : Int)) 1 := it
    exact wpAny_pyNext_range_end hA it' (by simp [Src.vals]) fun h' hs => g h' fun b o hb e => hs b o hb e
theorem iter_self {i : Nat} {src : Src} {P : Value → Shared → Prop} {E : Value → Shared → Prop} (it : ItIs s.heap I i src) (g : P (.ref I) s) : wpAny (model C.prog C.w) A (pyIter (.ref I)) P E s := by
  cases src with
  | list a vs => exact wpAny_pyIter_listiter it g
  | tup a vs => exact wpAny_pyIter_tupleiter it g
  | rng a₀ n => exact wpAny_pyIter_rangeiter it g
/-- the source of a loop: its iterator stands at the start -/
noncomputable def Its (C : Cx) (iter : Expr) (ρ : EV) (H : HV) (K : Src → HV → Prop) : Prop :=
  ∀ (A : Around) (s : Shared), Rm A C.k → Rel C ρ H s.heap → wpAny (model C.prog C.w) A (eval iter C.env) (fun u s₁ => wpAny (model C.prog C.w) A (pyIter u) (fun it s₂ =>
    ∃ I src H', it = .ref I ∧ s.heap.get? I = Option.none ∧ ItIs s₂.heap I 0 src ∧ Kp s s₂ ∧ Rel C ρ H' s₂.heap ∧ Gr H H' s.heap ∧ Off C H' I ∧ src.Ok H' ∧ K src H') nay s₁) nay s
theorem its_list {iter : Expr} {K : Src → HV → Prop} (h : Ev C iter ρ H fun v H₁ => ∃ a vs, v = .loc a ∧ H₁ a = some (.list vs) ∧ K (.list a vs) H₁) : Its C iter ρ H K := by
  intro A s hA R
  refine h.use hA R fun u v s₁ H₁ a K₁ R₁ G₁ q => ?_
  obtain ⟨l, vs, rfl, hl, q⟩ := q
  cases isV_loc a
  obtain ⟨its, hp, hx, _⟩ := R₁.view l _ hl
  refine wpAny_pyIter_list hp.isList ?_
  have kp : ∀ b o, s₁.heap.get? b = some o → (s₁.heap.push { cls := .type "list_iterator", data := .fields #[.ref l, .int 0 0] }).get? b = some o := fun b o e => Heap.get?_push_of_some _ e
  refine ⟨_, .list l vs, H₁, rfl, ?_, ⟨_, Heap.get?_push_size _ rfl, rfl, rfl⟩, K₁.trans (kp_of s₁.toks kp), R₁.keep kp, G₁, Off.new R₁ (Nat.le_refl _), hl, q⟩
  cases e : s.heap.get? s₁.heap.objs.size with
  | none => rfl
  | some o => obtain ⟨o', e'⟩ := K₁.there _ o e; exact absurd (Heap.lt_size e') (Nat.lt_irrefl _)
/-- a for loop over src by what holds behind i turns -/
theorem ex_For {x : Str} {p pos : Pos} {iter : Expr} {body : List Stmt} {Q : Fl → EV → HV → Prop} (hk : C.nms.lookup x = some .local ∨ C.nms.lookup x = some .cell)
    (h : Its C iter ρ H fun src H₁ => ∃ Inv : Nat → EV → HV → Prop, Inv 0 ρ H₁ ∧
      (∀ i v ρ' H', src.vals[i]? = some v → Inv i ρ' H' → src.Ok H' → Exs C body (put ρ' x v) H' fun fl ρ₂ H₂ => match fl with
        | .next | .cont => Inv (i + 1) ρ₂ H₂ ∧ src.Ok H₂ | .brk => Q .next ρ₂ H₂ | .ret v => Q (.ret v) ρ₂ H₂) ∧
      (∀ ρ' H', Inv src.vals.length ρ' H' → src.Ok H' → Q .next ρ' H'))
    (hs : ∀ env x, foldedSetIterable iter env x = pure x := by intros; rfl) : Ex C (.For (.Name x p) iter body [] pos) ρ H Q := by
  intro A s hA R
  refine wpAny_For (wpAny_mono (h A s hA R) (fun u s₁ h₁ => wpAny_mono h₁ (fun it s₂ h₂ => ?_) fun _ _ e => e) fun _ _ e => e) (hs _)
  obtain ⟨I, src, H₁, rfl, hnew, hit, K, R₁, G, off, ok, Inv, inv0, turn, done⟩ := h₂
  refine codeAny_mono (R := fun r s' => match r with | .ok f => SDone C H s Q f s' | .error _ => False) ?_ ?_
  · refine codeAny_forLoop (fun n s' => ∃ i ρ' H', i ≤ src.vals.length ∧ n = src.vals.length - i ∧ Inv i ρ' H' ∧ src.Ok H' ∧ ItIs s'.heap I i src ∧ SKp C H H' s s' ∧ Rel C ρ' H' s'.heap ∧ Off C H' I) ?_ (src.vals.length - 0)
      ⟨0, ρ, H₁, Nat.zero_le _, rfl, inv0, ok, hit, .of_kp K G, R₁, off⟩
    rintro n s₃ ⟨i, ρ', H', hi, rfl, inv, ok', hit', K', R', off'⟩
    by_cases hlt : i < src.vals.length
    · refine next_item R' ok' hit' (v := src.vals[i]) (by simp [hlt]) fun u h₄ t ha hit₄ hx₄ => ?_
      have K₄ := K'.skip (t := t) hnew hx₄
      have R₄ := R'.other off' hx₄
      refine wpAny_assign_Name (store_name hk (s := { s₃ with heap := h₄, toks := t }) R₄ ha fun s₅ K₅ R₅ => ?_)
      obtain ⟨oI, eI, tI⟩ := hit₄.there
      have hit₅ : ItIs s₅.heap I (i + 1) src := hit₄.at fun o e tb => K₅.get I o e tb (.inr ⟨off'.hi, off'.loc, off'.cel⟩)
      obtain ⟨oI₅, eI₅, tI₅⟩ := hit₅.there
      refine (turn i src.vals[i] ρ' H' (by simp [hlt]) inv ok').use hA R₅ fun f fl ρ₆ H₆ s₆ a K₆ R₆ q => ?_
      have K₇ := K₄.trans (K₅.trans K₆)
      have hit₆ : ItIs s₆.heap I (i + 1) src := hit₅.at fun o e tb => K₆.get I o e tb (.inr ⟨off'.hi, off'.loc, off'.cel⟩)
      cases f <;> cases fl <;> first | exact absurd a (fun x => x) | skip
      · exact ⟨_, by omega, i + 1, ρ₆, H₆, hlt, rfl, q.1, q.2, hit₆, K₇, R₆, off'.gr eI₅ K₆.gr⟩
      · exact ⟨.next, ρ₆, H₆, trivial, K₇, R₆, q⟩
      · exact ⟨_, by omega, i + 1, ρ₆, H₆, hlt, rfl, q.1, q.2, hit₆, K₇, R₆, off'.gr eI₅ K₆.gr⟩
      · exact ⟨.ret _, ρ₆, H₆, a, K₇, R₆, q⟩
    · have e : i = src.vals.length := by omega
      subst e
      refine next_end hA.hd R' ok' hit' fun h₄ hx₄ => wpAny_execs_nil ⟨.next, ρ', H', trivial, K'.skip (t := s₃.toks) hnew hx₄, R'.other off' hx₄, done ρ' H' inv ok'⟩
  · intro r s' d
    cases r with
    | ok f => exact d
    | error e => exact d.elim
end
end Mine
end
section
set_option maxRecDepth 100000
set_option Elab.async false
set_option linter.unusedVariables false
namespace Mine
open PySem PySem.Spec PyProof.Rows
/-- a call of a built-in function or a type on given values -/
noncomputable def VCall (C : Cx) (f : Value) (vs : List V) (ρ : EV) (H : HV) (Q : V → HV → Prop) : Prop := ∀ us, ValsAre us vs → TG C isV (call f us) ρ H Q
section
variable {C : Cx} {ρ : EV} {H H' : HV} {A : Around} {s : Shared} {Q : V → HV → Prop}
theorem ev_CallB {f : Str} {id : String} {p pos : Pos} {e : Expr} {es : List Expr} (g : GlobIs C f (.builtin id)) (hk : C.nms.lookup f = some .globalImplicit)
    (h : Args C pos (e :: es) ρ H fun vs H₁ => VCall C (.builtin id) vs ρ H₁ Q)
    (hs : ∀ env, starEach (e :: es) env = (false, eval e env) :: starEach es env := by intro _; rfl) (hp : ∀ env, (backTo pos (starEach (e :: es) env)).any (·.1) = false := by intro _; rfl)
    (hd : (f == ("__debug__" : Str)) = false := by decide) : Ev C (.Call (.Name f p) (e :: es) [] pos) ρ H Q := by
  intro A s hA R
  refine wpAny_Call_NameR (glob_load R g hk ?_ hd)
  have h' : TG C ValsAre (spliced (backTo pos (starEach (e :: es) C.env))) ρ H _ := h
  rw [hs] at h'
  have hp' := hp C.env
  rw [hs] at hp' ⊢
  exact Calls.callWith_builtin hp' (Calls.evalArgs_plain (h'.use hA R fun us vs s₁ H₁ a K R₁ G q => wpAny_mono (q us a A s₁ hA R₁) (fun _ _ d => d.trans K G) fun _ _ e => e))
theorem ev_CallT {f : Str} {T : String} {p pos : Pos} {e : Expr} {es : List Expr} (g : GlobIs C f (.type T)) (hk : C.nms.lookup f = some .globalImplicit)
    (h : Args C pos (e :: es) ρ H fun vs H₁ => VCall C (.type T) vs ρ H₁ Q)
    (hs : ∀ env, starEach (e :: es) env = (false, eval e env) :: starEach es env := by intro _; rfl) (hp : ∀ env, (backTo pos (starEach (e :: es) env)).any (·.1) = false := by intro _; rfl)
    (hd : (f == ("__debug__" : Str)) = false := by decide) : Ev C (.Call (.Name f p) (e :: es) [] pos) ρ H Q := by
  intro A s hA R
  refine wpAny_Call_NameR (glob_load R g hk ?_ hd)
  have h' : TG C ValsAre (spliced (backTo pos (starEach (e :: es) C.env))) ρ H _ := h
  rw [hs] at h'
  have hp' := hp C.env
  rw [hs] at hp' ⊢
  exact PySem.callWith_type hp' (Calls.evalArgs_plain (h'.use hA R fun us vs s₁ H₁ a K R₁ G q => wpAny_mono (q us a A s₁ hA R₁) (fun _ _ d => d.trans K G) fun _ _ e => e))
theorem its_range1 {p pos : Pos} {e : Expr} {K : Src → HV → Prop} (g : GlobIs C "range" (.type "range")) (hk : C.nms.lookup ("range" : Str) = some .globalImplicit)
    (h : Ev C e ρ H fun v H₁ => ∃ n : Int, v = .int n ∧ -1048576 ≤ n ∧ n ≤ 1048576 ∧ K (.rng 0 n.toNat) H₁)
    (hs : ∀ env, backTo pos (starEach [e] env) = [(false, eval e env)] := by intro _; rfl) : Its C (.Call (.Name "range" p) [e] [] pos) ρ H K := by
  intro A s hA R
  refine wpAny_Call_NameR (glob_load R g hk ?_ (by decide))
  rw [hs]
  refine PySem.callWith_type rfl (Calls.evalArgs_plain (Calls.spliced_cons (h.use hA R fun u v s₁ H₁ a K₁ R₁ G₁ q => Calls.spliced_nil ?_)))
  obtain ⟨n, rfl, hlo, hhi, q⟩ := q
  obtain ⟨t, rfl⟩ := isV_int a
  refine call_range_1 ?_
  refine wpAny_pyIter_range (IsRange.new ..) (small_one (by decide) (by decide) (by omega) (by omega)) ?_
  have hsz : Builtin.Range.rangeSize 0 n 1 = (n.toNat : Int) := by rw [rangeSize_one]; split <;> omega
  have kp : ∀ b o, s₁.heap.get? b = some o → ((s₁.heap.push { cls := .type "range", data := .fields #[.int 0 s₁.toks, .int n t, .int 1 (s₁.toks + 1)] }).push { cls := .type "range_iterator", data := .fields #[rawInt 0, rawInt (Builtin.Range.rangeSize 0 n 1), rawInt 1] }).get? b = some o :=
    fun b o e => Heap.get?_push_of_some _ (Heap.get?_push_of_some _ e)
  have hge : s₁.heap.objs.size ≤ (s₁.heap.push { cls := .type "range", data := .fields #[.int 0 s₁.toks, .int n t, .int 1 (s₁.toks + 1)] }).objs.size := by rw [Heap.size_push]; exact Nat.le_succ _
  refine ⟨_, .rng 0 n.toNat, H₁, rfl, ?_, ?_, K₁.trans (kp_of (s₁.toks + 1 + 1) kp), R₁.keep kp, G₁, Off.new R₁ hge, by show n.toNat ≤ _; omega, q⟩
  · cases e : s.heap.get? (s₁.heap.push { cls := .type "range", data := .fields #[.int 0 s₁.toks, .int n t, .int 1 (s₁.toks + 1)] }).objs.size with
    | none => rfl
    | some o => obtain ⟨o', e'⟩ := K₁.there _ o e; exact absurd (Heap.lt_size e') (Nat.not_lt.mpr hge)
  · show IsRangeIter _ _ _ _ _
    have e1 : (0 : Int) + ((0 : Nat) : Int) * 1 = 0 := by simp
    have e2 : ((n.toNat : Nat) : Int) - ((0 : Nat) : Int) = Builtin.Range.rangeSize 0 n 1 := by rw [hsz]; simp
    rw [e1, e2]
    exact Heap.get?_push_size _ rfl
/-! calls of the text's own functions -/
/-- the function at fa: its parameters, its body, its names -/
structure Fn (C : Cx) (fa : Addr) (params : List Str) (body : List Stmt) (nms : List (Str × NameKind)) (fd : FuncData) : Prop where
  obj : ∃ o, C.B.get? fa = some o ∧ o.data = .func fd
  crec : ∃ c o vs t n, fd.code = .ref c ∧ C.B.get? c = some o ∧ o.cls = .type n ∧ o.data = .fields vs ∧ vs[1]? = some (.str fd.qualname t)
  body : fd.body = .stmts body
  names : fd.scope.names = nms
  clo : fd.closure = []
  kind : fd.scope.kind = .function
  co : fd.scope.isCoroutine = false
  gen : fd.scope.isGenerator = false
  glob : fd.globals = mainGlobals
  bui : fd.builtins = builtinsNs
  binds : ∀ vals : List Value, vals.length = params.length → bindArgs fd ⟨vals, []⟩ = pure (params.zip vals)
  pk : ∀ x ∈ params, nms.lookup x = some .local ∨ nms.lookup x = some .cell
  nofree : ∀ x, nms.lookup x ≠ some .free
  nd : ((cellsFrom 0 nms []).map (·.1)).Nodup
/-- the callee's place -/
abbrev Cx.into (C : Cx) (env : Env) (lo : Nat) (nms : List (Str × NameKind)) : Cx := { C with env := env, lo := lo, nms := nms, k := C.k - 1 }
theorem zip_vals : ∀ (params : List Str) (us : List Value) (vs : List V), ValsAre us vs → us.length = params.length → ∀ (kindOf : Str → Option NameKind) (m cm : Str → Option Value) (ρ₀ : EV),
    (∀ x ∈ params, kindOf x = some .local ∨ kindOf x = some .cell) →
    (∀ x v, kindOf x = some .local → ρ₀ x = some v → ∃ u, m x = some u ∧ absV u = some v) → (∀ x v, kindOf x = some .cell → ρ₀ x = some v → ∃ u, cm x = some u ∧ absV u = some v) →
    ∃ ρ : EV, (∀ x, ρ x = ((params.zip vs).reverse.lookup x).or (ρ₀ x)) ∧ (∀ x v, kindOf x = some .local → ρ x = some v → ∃ u, bindL kindOf (params.zip us) m x = some u ∧ absV u = some v) ∧ (∀ x v, kindOf x = some .cell → ρ x = some v → ∃ u, bindC kindOf (params.zip us) cm x = some u ∧ absV u = some v)
  | [], us, vs, hv, hl, kindOf, m, cm, ρ₀, hk, h1, h2 => by
    cases us with
    | cons _ _ => simp at hl
    | nil => cases hv; exact ⟨ρ₀, fun x => by simp, h1, h2⟩
  | p :: params, us, vs, hv, hl, kindOf, m, cm, ρ₀, hk, h1, h2 => by
    cases hv with
    | nil => simp at hl
    | @cons u v us vs a r =>
      have hl' : us.length = params.length := by simpa using hl
      have hk' : ∀ x ∈ params, kindOf x = some .local ∨ kindOf x = some .cell := fun x hx => hk x (List.mem_cons_of_mem _ hx)
      have key := zip_vals params us vs r hl' kindOf (if kindOf p = some .local then fun y => if y = p then some u else m y else m) (if kindOf p = some .local then cm else fun y => if y = p then some u else cm y) (put ρ₀ p v) hk' ?_ ?_
      · obtain ⟨ρ, e, g1, g2⟩ := key
        refine ⟨ρ, fun x => ?_, g1, g2⟩
        rw [e x]
        simp only [List.zip_cons_cons, List.reverse_cons, List.lookup_append, Option.or_assoc]
        congr 1
        unfold put
        by_cases hx : x = p
        · subst hx; simp
        · have : (x == p) = false := by simpa using hx
          simp [List.lookup, this, hx]
      · intro x v' hx e
        unfold put at e
        by_cases hxp : x = p
        · subst hxp
          rw [if_pos rfl] at e; cases e
          rw [if_pos hx]; exact ⟨u, by simp, a⟩
        · rw [if_neg hxp] at e
          obtain ⟨u', e1, e2⟩ := h1 x v' hx e
          refine ⟨u', ?_, e2⟩
          split
          · simp [hxp, e1]
          · exact e1
      · intro x v' hx e
        unfold put at e
        by_cases hxp : x = p
        · subst hxp
          rw [if_pos rfl] at e; cases e
          have : ¬ kindOf x = some .local := by rw [hx]; simp
          rw [if_neg this]; exact ⟨u, by simp, a⟩
        · rw [if_neg hxp] at e
          obtain ⟨u', e1, e2⟩ := h2 x v' hx e
          refine ⟨u', ?_, e2⟩
          split
          · exact e1
          · simp [hxp, e1]
theorem hasCell {x : Str} : ∀ (names : List (Str × NameKind)) (n : Nat) (acc : List (Str × Addr)), names.lookup x = some .cell ∨ (acc.lookup x).isSome = true → ((cellsFrom n names acc).lookup x).isSome = true
  | [], _, _, h => h.elim (fun e => by cases e) id
  | (y, k) :: r, n, acc, h => by
    unfold cellsFrom
    by_cases hk : (k == .cell) = true
    · rw [if_pos hk]
      refine hasCell r (n + 1) ((y, n) :: acc) ?_
      by_cases hy : (x == y) = true
      · exact .inr (by rw [List.lookup_cons, hy]; rfl)
      · refine h.imp (fun e => ?_) fun e => ?_
        · rw [List.lookup_cons] at e; simpa only [hy] using e
        · rw [List.lookup_cons]; simpa only [hy] using e
    · rw [if_neg hk]
      refine hasCell r n acc ?_
      by_cases hy : (x == y) = true
      · refine .inr (h.elim (fun e => ?_) id)
        rw [List.lookup_cons, hy] at e
        exact absurd (by rw [Option.some.inj e]; rfl) hk
      · refine h.imp (fun e => ?_) id
        rw [List.lookup_cons] at e; simpa only [hy] using e
/-- the names that a call finds bound -/
noncomputable def argsV (params : List Str) (vs : List V) : EV := fun x => (params.zip vs).reverse.lookup x
noncomputable def retOf : Fl → V
  | .ret v => v
  | _ => .none
/-- a call of the function with these values -/
noncomputable def FCall (C : Cx) (params : List Str) (body : List Stmt) (nms : List (Str × NameKind)) (vs : List V) (H : HV) (Q : V → HV → Prop) : Prop :=
  0 < C.k ∧ vs.length = params.length ∧ ∀ env lo, C.lo ≤ lo → (∀ a, (H a).isSome = true → a < lo) → Exs (C.into env lo nms) body (argsV params vs) H fun fl _ H' => Q (retOf fl) H'
/-- the same, where the callee's own code object is told -/
noncomputable def FCallG (C : Cx) (cd : Value) (params : List Str) (body : List Stmt) (nms : List (Str × NameKind)) (vs : List V) (H : HV) (Q : V → HV → Prop) : Prop :=
  0 < C.k ∧ vs.length = params.length ∧ ∀ env lo, C.lo ≤ lo → (∀ a, (H a).isSome = true → a < lo) → env.code = cd → Exs (C.into env lo nms) body (argsV params vs) H fun fl _ H' => Q (retOf fl) H'
theorem FCall.toG {cd : Value} {params : List Str} {body : List Stmt} {nms : List (Str × NameKind)} {vs : List V} (h : FCall C params body nms vs H Q) : FCallG C cd params body nms vs H Q := ⟨h.1, h.2.1, fun env lo a b _ => h.2.2 env lo a b⟩
theorem Rm.deeper {k : Nat} (hA : Rm A k) (hk : 0 < k) (env : Env) : Rm (A.deeper env) (k - 1) :=
  ⟨hA.hd, by show A.depth + 1 + (k - 1) ≤ 900; have := hA.dp; omega, by show A.units + 3 + 8 * (k - 1) ≤ 9000; have := hA.un; omega⟩
theorem call_fnG {fa : Addr} {params : List Str} {body : List Stmt} {nms : List (Str × NameKind)} {fd : FuncData} {vs : List V} {us : List Value} (F : Fn C fa params body nms fd) (lim : C.B.NoLimit) (hv : ValsAre us vs)
    (h : FCallG C fd.code params body nms vs H Q) : TG C isV (call (.ref fa) us) ρ H Q := by
  intro A s hA R
  obtain ⟨hk, hlen, h⟩ := h
  obtain ⟨o, ho, hdat⟩ := F.obj
  have hul : us.length = params.length := hv.length.trans hlen
  have hrec : s.heap.CodeRec fd.code fd.qualname := by
    obtain ⟨c, oc, vs', t, n, e1, e2, e3, e4, e5⟩ := F.crec
    exact ⟨c, oc, vs', t, e1, R.base _ _ e2 (tabl_type e3), e4, e5⟩
  have hlim : s.heap.NoLimit := by
    obtain ⟨mc, hn, e⟩ := lim
    exact ⟨mc, ns_at hn (R.base _), e⟩
  have hkinds : ∀ x ∈ params.zip us, fd.scope.names.lookup x.1 = some .local ∨ (fd.scope.names.lookup x.1 = some .cell ∧ ((cellsFrom (s.heap.objs.size + 1) fd.scope.names []).lookup x.1).isSome = true) := by
    intro x hx
    have hm := F.pk x.1 (List.of_mem_zip hx).1
    rw [F.names]
    rcases hm with q | q
    · exact .inl q
    · exact .inr ⟨q, hasCell _ _ _ (.inl q)⟩
  refine wpAny_call (codeAny_call_cells (by have := hA.dp; show A.depth < 1000; omega) (R.base _ _ ho (tabl_func hdat)) hdat hlim hrec F.body (F.binds us hul) F.clo hkinds (fun s₁ X => ?_) F.co F.gen F.kind)
  have hlo : C.lo ≤ s.heap.objs.size := R.lo_size
  have hdom : ∀ a, (H a).isSome = true → a < s.heap.objs.size := fun a e => by
    obtain ⟨o, eo⟩ := Option.isSome_iff_exists.mp e
    obtain ⟨ob, e'⟩ := (R.view a o eo).there
    exact Heap.lt_size e'
  have hko : ∀ x, (callEnvC fd s.heap.objs.size fa).kindOf x = nms.lookup x := fun x => by show fd.scope.names.lookup x = _; rw [F.names]
  obtain ⟨ρ₁, e₁, g1, g2⟩ := zip_vals params us vs hv hul (callEnvC fd s.heap.objs.size fa).kindOf (fun _ => Option.none) (fun _ => Option.none) (fun _ => Option.none) (fun x hx => by rw [hko]; exact F.pk x hx) (fun _ _ _ e => by cases e) (fun _ _ _ e => by cases e)
  have eρ : argsV params vs = ρ₁ := funext fun x => by rw [e₁ x]; simp [argsV]
  have keep := X.toInCall.keep
  have dom₁ : ∀ x v, ρ₁ x = some v → nms.lookup x = some .local ∨ nms.lookup x = some .cell ∨ nms.lookup x = some .free := fun x v e => by
    rw [e₁ x] at e
    simp only [Option.or_none] at e
    have hm : (x, v) ∈ params.zip vs := by
      have := mem_of_lookup e
      exact List.mem_reverse.mp this
    rcases F.pk x (List.of_mem_zip hm).1 with q | q
    · exact .inl q
    · exact .inr (.inl q)
  have R₁ : Rel (C.into (callEnvC fd s.heap.objs.size fa) s.heap.objs.size nms) (argsV params vs) H s₁.heap := by
    rw [eρ]
    refine ⟨⟨F.kind, F.glob, F.bui, F.names⟩, fun b o e t => keep _ _ (R.base b o e t), R.old.step_keeps keep, Nat.le_trans R.blo hlo, fun a o e => (R.view a o e).at fun _ e' _ => keep _ _ e', dom₁, ⟨_, X.toInCall.ns, fun x v hx e => g1 x v (by rw [hko]; exact hx) e⟩, fun x hx => ?_, fun x y c h h' => name_of_addr X.apart h h', fun x c hm => ?_, ?_, Nat.le_refl _, ⟨R.sysm.1, ?_⟩, R.code.trans (.of_keep keep)⟩
    · have hx' : nms.lookup x = some .cell ∨ nms.lookup x = some .free := hx
      rcases hx' with hx' | hx'
      · have hsome : ((cellsFrom (s.heap.objs.size + 1) fd.scope.names []).lookup x).isSome = true := hasCell _ _ _ (.inl (by rw [F.names]; exact hx'))
        obtain ⟨c, hc⟩ := Option.isSome_iff_exists.mp hsome
        refine ⟨c, _, hc, X.cell x c hc, fun v e => ?_⟩
        exact g2 x v (by rw [hko]; exact hx') e
      · exact absurd hx' (F.nofree x)
    · have hgt := X.above x c hm
      have hgt' : s.heap.objs.size < c := hgt
      refine ⟨Nat.ne_of_gt hgt, Nat.le_of_lt hgt', ?_, ?_⟩
      · cases e : H c with
        | none => rfl
        | some o => exact absurd (hdom c (by rw [e]; rfl)) (Nat.not_lt.mpr (Nat.le_of_lt hgt'))
      · have hnd : ((cellsFrom (s.heap.objs.size + 1) fd.scope.names []).map (·.1)).Nodup := by
          rw [F.names, cellsFrom_names nms (s.heap.objs.size + 1) 0 [] [] rfl]; exact F.nd
        obtain ⟨o, e, _⟩ := X.cell x c (lookup_of_mem_nodup hnd hm)
        exact ⟨o, e⟩
    · exact R.new
    · obtain ⟨_, o, e⟩ := R.sysm
      exact ⟨o, keep _ _ e⟩
  refine (h _ _ hlo hdom rfl).use (hA.deeper hk _) R₁ fun f fl ρ' H' s' a K R' q => ?_
  obtain ⟨h₁, t₁, e₁, _⟩ := X.toInCall.done
  have kp : Kp s s' := by
    refine ⟨fun b o e t => K.get b o (keep _ _ e) t (.inl (Heap.lt_size e)), fun b o e => K.there b o (keep _ _ e), K.os.trans (by rw [e₁]), (by have := K.gens; rw [e₁] at this; exact this), (TabK.of_keep keep).trans K.tab⟩
  have gr : Gr H H' s.heap := fun b o e n => K.gr b o (keep _ _ e) n
  have fin : ∀ u, absV u = some (retOf fl) → Done C isV ρ H s Q u s' := fun u e => ⟨retOf fl, H', e, kp, R.stepT kp.get kp.there R'.old kp.tab R'.view gr, gr, q⟩
  cases f <;> cases fl <;> first | exact absurd a (fun x => x) | exact fin _ a | exact fin _ rfl
theorem call_fn {fa : Addr} {params : List Str} {body : List Stmt} {nms : List (Str × NameKind)} {fd : FuncData} {vs : List V} {us : List Value} (F : Fn C fa params body nms fd) (lim : C.B.NoLimit) (hv : ValsAre us vs)
    (h : FCall C params body nms vs H Q) : TG C isV (call (.ref fa) us) ρ H Q := call_fnG F lim hv h.toG
theorem ev_CallF {f : Str} {p pos : Pos} {e : Expr} {es : List Expr} {fa : Addr} {params : List Str} {body : List Stmt} {nms : List (Str × NameKind)} {fd : FuncData} (F : Fn C fa params body nms fd) (lim : C.B.NoLimit) (g : GlobIs C f (.ref fa)) (hk : C.nms.lookup f = some .globalImplicit)
    (h : Args C pos (e :: es) ρ H fun vs H₁ => FCall C params body nms vs H₁ Q)
    (hs : ∀ env, starEach (e :: es) env = (false, eval e env) :: starEach es env := by intro _; rfl) (hp : ∀ env, (backTo pos (starEach (e :: es) env)).any (·.1) = false := by intro _; rfl)
    (hd : (f == ("__debug__" : Str)) = false := by decide) : Ev C (.Call (.Name f p) (e :: es) [] pos) ρ H Q := by
  intro A s hA R
  refine wpAny_Call_NameR (glob_load R g hk ?_ hd)
  have h' : TG C ValsAre (spliced (backTo pos (starEach (e :: es) C.env))) ρ H _ := h
  rw [hs] at h' ⊢
  obtain ⟨o, ho, hdat⟩ := F.obj
  exact Calls.callWith_function (o := o) (fd := fd) (Calls.evalArgs_plain (h'.use hA R fun us vs s₁ H₁ a K R₁ G q =>
    ⟨⟨R₁.base _ _ ho (tabl_func hdat), hdat⟩, wpAny_mono (call_fn F lim a q A s₁ hA R₁) (fun _ _ d => d.trans K G) fun _ _ e => e⟩))
theorem ev_CallF0 {f : Str} {p pos : Pos} {fa : Addr} {body : List Stmt} {nms : List (Str × NameKind)} {fd : FuncData} (F : Fn C fa [] body nms fd) (lim : C.B.NoLimit) (g : GlobIs C f (.ref fa)) (hk : C.nms.lookup f = some .globalImplicit)
    (h : FCall C [] body nms [] H Q) (hd : (f == ("__debug__" : Str)) = false := by decide) : Ev C (.Call (.Name f p) [] [] pos) ρ H Q := by
  intro A s hA R
  refine wpAny_Call_NameR (glob_load R g hk ?_ hd)
  obtain ⟨o, ho, hdat⟩ := F.obj
  exact Calls.callWith_function (o := o) (fd := fd) (PySem.evalArgs_none ⟨⟨R.base _ _ ho (tabl_func hdat), hdat⟩, call_fn F lim .nil h A s hA R⟩)
end
end Mine
end
section
set_option maxRecDepth 100000
set_option Elab.async false
set_option linter.unusedVariables false
namespace Mine
open PySem PySem.Spec PyProof.Rows
/-- the names within a comprehension -/
noncomputable def relab (outer names : List (Str × NameKind)) : List (Str × NameKind) :=
  names.map fun p => if p.2 == .free && outer.lookup p.1 == some .cell then (p.1, .cell) else p
/-- what a comprehension sees of the names around -/
noncomputable def inner (ρ : EV) (nms : List (Str × NameKind)) : EV := fun y => match nms.lookup y with
  | some .cell => ρ y
  | some .free => ρ y
  | _ => Option.none
theorem lookup_relab_local (outer : List (Str × NameKind)) : ∀ {names : List (Str × NameKind)} {x : Str}, names.lookup x = some .local → (relab outer names).lookup x = some .local
  | [], _, h => by simp at h
  | (n, k) :: r, x, h => by
    unfold relab
    rw [List.map_cons]
    cases hx : x == n with
    | true =>
      simp only [List.lookup_cons, hx] at h
      cases h
      simp [List.lookup_cons, hx]
    | false =>
      simp only [List.lookup_cons, hx] at h
      have ih := lookup_relab_local outer h
      split
      · simp only [List.lookup_cons, hx]; exact ih
      · simp only [List.lookup_cons, hx]; exact ih
/-- a name that is a cell or free within is free in the comprehension's own table -/
theorem lookup_relab_free {outer : List (Str × NameKind)} : ∀ {names : List (Str × NameKind)} {x : Str}, (∀ p ∈ names, p.2 ≠ .cell) → (relab outer names).lookup x = some .cell ∨ (relab outer names).lookup x = some .free → (x, .free) ∈ names
  | [], _, _, h => by simp [relab] at h
  | (n, k) :: r, x, hc, h => by
    unfold relab at h
    rw [List.map_cons] at h
    have ih := @lookup_relab_free outer r x (fun p hp => hc p (List.mem_cons_of_mem _ hp))
    cases hx : x == n with
    | true =>
      have e := eq_of_beq hx; subst e
      by_cases hk : (k == NameKind.free && outer.lookup x == some NameKind.cell) = true
      · have : k = .free := by
          have := (Bool.and_eq_true_iff.mp hk).1; exact eq_of_beq this
        subst this; exact .head _
      · simp only [if_neg hk, List.lookup_cons, hx] at h
        rcases h with h | h
        · exact absurd (Option.some.inj h) (hc (x, k) (.head _))
        · have := Option.some.inj h; subst this; exact .head _
    | false =>
      refine .tail _ (ih ?_)
      by_cases hk : (k == NameKind.free && outer.lookup n == some NameKind.cell) = true
      · simp only [hk, if_true, List.lookup_cons, hx] at h; exact h
      · simp only [if_neg hk, List.lookup_cons, hx] at h; exact h
theorem closure_go (env : Env) (f : Str × NameKind → List (Str × Addr) → Sem (ForInStep (List (Str × Addr))))
    (hf : ∀ name kind cs, f (name, kind) cs = if kind == .free then (do let a ← cellOf env name; pure (.yield ((name, a) :: cs))) else pure (.yield cs)) :
    ∀ (names : List (Str × NameKind)) (acc : List (Str × Addr)), (∀ n, (n, NameKind.free) ∈ names → ∃ c, env.cells.lookup n = some c) → (∀ p ∈ acc, env.cells.lookup p.1 = some p.2) →
      ∃ cl, forIn names acc f = pure cl ∧ (∀ p ∈ cl, env.cells.lookup p.1 = some p.2) ∧ (∀ n, (n, NameKind.free) ∈ names → (cl.lookup n).isSome = true) ∧ (∀ n, (acc.lookup n).isSome = true → (cl.lookup n).isSome = true)
  | [], acc, _, ha => ⟨acc, by rw [List.forIn_nil], ha, fun _ h => (nomatch h), fun _ h => h⟩
  | (name, kind) :: r, acc, hc, ha => by
    rw [List.forIn_cons, hf]
    by_cases hk : (kind == NameKind.free) = true
    · have e := eq_of_beq hk; subst e
      obtain ⟨c, hcc⟩ := hc name (.head _)
      have hcell : cellOf env name = pure c := by unfold cellOf; rw [hcc]
      obtain ⟨cl, e, h1, h2, h3⟩ := closure_go env f hf r ((name, c) :: acc) (fun n hn => hc n (.tail _ hn)) (fun p hp => by
        rcases List.mem_cons.mp hp with rfl | hp
        · exact hcc
        · exact ha p hp)
      refine ⟨cl, ?_, h1, fun n hn => ?_, fun n hn => h3 n ?_⟩
      · rw [if_pos hk, hcell]; simpa using e
      · rcases List.mem_cons.mp hn with q | q
        · cases q; exact h3 name (by simp)
        · exact h2 n q
      · rw [List.lookup_cons]; split
        · rfl
        · exact hn
    · obtain ⟨cl, e, h1, h2, h3⟩ := closure_go env f hf r acc (fun n hn => hc n (.tail _ hn)) ha
      refine ⟨cl, ?_, h1, fun n hn => ?_, h3⟩
      · rw [if_neg hk]; simpa using e
      · rcases List.mem_cons.mp hn with q | q
        · cases q; exact absurd rfl hk
        · exact h2 n q
theorem closure_ok {env : Env} {scope : Scope} (h : ∀ n, (n, NameKind.free) ∈ scope.names → ∃ c, env.cells.lookup n = some c) :
    ∃ cl, closureFor scope env = pure cl ∧ (∀ p ∈ cl, env.cells.lookup p.1 = some p.2) ∧ ∀ n, (n, NameKind.free) ∈ scope.names → (cl.lookup n).isSome = true := by
  obtain ⟨cl, e, h1, h2, _⟩ := closure_go env (fun x cs => match x with | (name, kind) => if (kind == NameKind.free) = true then do let a ← cellOf env name; pure (.yield ((name, a) :: cs)) else pure (.yield cs)) (fun _ _ _ => rfl) scope.names [] h (fun _ hp => (nomatch hp))
  refine ⟨cl, ?_, h1, h2⟩
  show (forIn scope.names [] (fun x cs => match x with | (name, kind) => if (kind == NameKind.free) = true then do let a ← cellOf env name; pure (ForInStep.yield ((name, a) :: cs)) else pure (ForInStep.yield cs)) >>= fun cs => pure cs) = pure cl
  rw [e]; rfl
/-- the test clauses of a comprehension -/
noncomputable def ifsTree (ifs : List Expr) (env : Env) : Sem Bool := forIn ifs true fun c r => if r = true then do let ok ← isTrue c env (eval c env); pure (ForInStep.yield ok) else pure (ForInStep.yield r)
abbrev Ifs (C : Cx) (ifs : List Expr) (ρ : EV) (H : HV) (Q : Bool → HV → Prop) : Prop := TG C (fun a b => a = b) (ifsTree ifs C.env) ρ H Q
section
variable {C : Cx} {ρ : EV} {H H' : HV} {A : Around} {s : Shared}
theorem ifs_nil {Q : Bool → HV → Prop} (q : Q true H) : Ifs C [] ρ H Q := fun A s hA R => by
  show wpAny _ _ (ifsTree [] C.env) _ _ _
  unfold ifsTree
  rw [List.forIn_nil]; exact wpAny_pure (Done.b R q)
/-- a comprehension by what holds behind i items -/
noncomputable def CompOK (C : Cx) (elt : Expr) (x : Str) (ifs : List Expr) (names : List (Str × NameKind)) (src : Src) (ρ : EV) (H : HV) (Inv : Nat → List V → HV → Prop) : Prop :=
  Inv 0 [] H ∧ ∀ i v ys H', src.vals[i]? = some v → Inv i ys H' → src.Ok H' → ∀ env,
    Ifs { C with env := env, nms := relab C.nms names } ifs (put (inner ρ (relab C.nms names)) x v) H' fun ok H₂ =>
      if ok = true then Ev { C with env := env, nms := relab C.nms names } elt (put (inner ρ (relab C.nms names)) x v) H₂ fun y H₃ => Inv (i + 1) (ys ++ [y]) H₃ ∧ src.Ok H₃ else Inv (i + 1) ys H₂ ∧ src.Ok H₂
/-- a foreign object comes into sight -/
theorem Rel.see {D : Addr} {o : AO} {h : Heap} (R : Rel C ρ H h) (off : Off C H D) (x : ObjIs C.prog C.w h D o) : Rel C ρ (upd H D o) h := by
  refine ⟨R.eok, R.base, R.old, R.blo, fun b ob e => ?_, R.dom, R.loc, R.cel, R.apart, fun y c hm => ?_, ?_, R.lloc, ⟨?_, R.sysm.2⟩, R.code⟩
  · unfold upd at e; split at e
    · rename_i h; cases e; subst h; exact x
    · exact R.view b ob e
  · obtain ⟨h1, h2, h3, h4⟩ := R.cloc y c hm
    refine ⟨h1, h2, ?_, h4⟩
    unfold upd; rw [if_neg]; exact h3
    rintro rfl; exact off.cel y hm
  · unfold upd; rw [if_neg (Ne.symm off.loc)]; exact R.hloc
  · unfold upd; rw [if_neg (Ne.symm off.sys)]; exact R.sysm.1
theorem valsOk {src : Src} {h : Heap} (R : Rel C ρ H h) (ok : src.Ok H) : src.vals.length ≤ 1048576 := by
  cases src with
  | list a vs => obtain ⟨_, _, _, z⟩ := R.view a _ ok; exact z
  | tup a vs => obtain ⟨_, _, _, z⟩ := R.view a _ ok; exact z
  | rng a n => have : n ≤ 1048576 := ok; simpa [Src.vals] using this
/-- the comprehension's run, whatever becomes of its list -/
theorem comp_core {elt iter : Expr} {x : Str} {px pos pos' : Pos} {ifs : List Expr} {scope : Scope} {use : Option (Value → Sem Unit)} {P : Value → Shared → Prop}
    (hx : scope.names.lookup x = some .local) (hkind : scope.kind = .function) (hnc : ∀ p ∈ scope.names, p.2 ≠ .cell) (hnames : ∀ p ∈ scope.names, p.2 = .local → scope.names.lookup p.1 = some .local)
    (hfree : ∀ n, (n, NameKind.free) ∈ scope.names → C.nms.lookup n = some .cell ∨ C.nms.lookup n = some .free)
    (hA : Rm A C.k) (R : Rel C ρ H s.heap) (hs : ∀ env v, foldedSetIterable iter env v = pure v)
    (h : Its C iter ρ H fun src H₁ => ∃ Inv, CompOK C elt x ifs scope.names src ρ H₁ Inv ∧
      ∀ ys H', Inv src.vals.length ys H' → ∀ (s' : Shared) (D L : Addr) (us : List Value), Kp s s' → Rel C ρ H' s'.heap → Gr H H' s.heap → s.heap.get? D = Option.none → s.heap.get? L = Option.none → D ≠ L → Off C H' D → Off C H' L →
        s'.heap.PlainList D us.toArray → ValsAre us ys → ys.length ≤ 1048576 → (∃ m, s'.heap.Ns L m) → compPost (model C.prog C.w) A nay use P (.ref D) L (.ok .next) s') :
    wpAny (model C.prog C.w) A (comprehension (.ListComp elt [⟨.Name x px, iter, ifs, 0⟩] scope pos) scope C.env pos' (newList []) false (eval iter C.env) use) P nay s := by
  obtain ⟨cl, ecl, hcl1, hcl2⟩ := closure_ok (env := C.env) (scope := scope) fun n hn => by
    obtain ⟨c, u, e, _⟩ := R.cel n (hfree n hn)
    exact ⟨c, e⟩
  refine wpAny_comprehension_free rfl (hs _) ecl hkind hnames (wpAny_mono (h A s hA R) (fun u s₁ h₁ => wpAny_mono h₁ (fun it s₂ h₂ => ?_) fun _ _ e => e) fun _ _ e => e)
  obtain ⟨I, src, H₁, rfl, hnew, hit, K, R₁, G, off, ok, Inv, ⟨inv0, turn⟩, fin⟩ := h₂
  refine wpAny_newObj_type (wpAny_newFunctionEnv hnc (by intro y hy; simp at hy) (fun h₄ hns₄ hsb₄ => ?_) hkind)
  dsimp only at hns₄ hsb₄ ⊢
  generalize hH2 : s₂.heap.push { cls := .type "list", dict := Option.none, data := .seq ([] : List Value).toArray } = H2 at hns₄ hsb₄ ⊢
  have hL : H2.objs.size = s₂.heap.objs.size + 1 := by rw [← hH2, Heap.size_push]
  have hDL : s₂.heap.objs.size ≠ H2.objs.size := by omega
  have old : ∀ b o, s₂.heap.get? b = some o → h₄.get? b = some o := fun b o e => by
    have hb : b ≠ H2.objs.size := Nat.ne_of_lt (by rw [hL]; exact Nat.lt_succ_of_lt (Heap.lt_size e))
    exact hsb₄.extBut b o hb (Heap.get?_push_of_some _ (hH2 ▸ Heap.get?_push_of_some _ e))
  have R₄ : Rel C ρ H₁ h₄ := R₁.keep old
  have offD : Off C H₁ s₂.heap.objs.size := Off.new R₁ (Nat.le_refl _)
  have offL : Off C H₁ H2.objs.size := Off.new R₁ (by omega)
  have hI : I < s₂.heap.objs.size := by obtain ⟨o, e, _⟩ := hit.there; exact Heap.lt_size e
  have hPD : h₄.PlainList s₂.heap.objs.size #[] := ⟨_, hsb₄.extBut _ _ hDL (Heap.get?_push_of_some _ (by rw [← hH2]; exact Heap.get?_push_size _ rfl))⟩
  have sD : s.heap.get? s₂.heap.objs.size = Option.none := by
    cases e : s.heap.get? s₂.heap.objs.size with
    | none => rfl
    | some o => obtain ⟨o', e'⟩ := K.there _ o e; exact absurd (Heap.lt_size e') (Nat.lt_irrefl _)
  have sL : s.heap.get? H2.objs.size = Option.none := by
    cases e : s.heap.get? H2.objs.size with
    | none => rfl
    | some o => obtain ⟨o', e'⟩ := K.there _ o e; exact absurd (Heap.lt_size e') (by rw [hL]; exact Nat.not_lt.mpr (Nat.le_succ _))
  have eok : EnvOk (compEnvC scope cl H2.objs.size C.env) (relab C.nms scope.names) := by
    refine ⟨hkind, R.eok.glob, R.eok.bui, ?_⟩
    show (scope.names.map fun (n, k) => if (k == NameKind.free && C.env.scope.kind == ScopeKind.function && C.env.kindOf n == some NameKind.cell) then (n, NameKind.cell) else (n, k)) = _
    unfold relab
    refine List.map_congr_left fun p _ => ?_
    obtain ⟨n, k⟩ := p
    simp only [R.eok.kind, R.kindOf n, beq_self_eq_true, Bool.and_true]
  -- what holds between the turns
  have main : ∀ s₅ : Shared, s₅ = { s₂ with heap := h₄, toks := s₂.toks + ([] : List (Str × Value)).length } →
      codeAny (model C.prog C.w) A (.compLoop (.ListComp elt [⟨.Name x px, iter, ifs, 0⟩] scope pos) 0 (.ref I) (.ref s₂.heap.objs.size) (compEnvC scope cl H2.objs.size C.env))
        (compPost (model C.prog C.w) A nay use P (.ref s₂.heap.objs.size) H2.objs.size) s₅ := by
    rintro s₅ rfl
    refine codeAny_mono (R := fun r s' => match r with | .ok _ => compPost (model C.prog C.w) A nay use P (.ref s₂.heap.objs.size) H2.objs.size (.ok .next) s' | .error _ => False) ?_ ?_
    · refine codeAny_compLoop_tests (fun n s' => ∃ i ys us H' m, i ≤ src.vals.length ∧ n = src.vals.length - i ∧ Inv i ys H' ∧ src.Ok H' ∧ ItIs s'.heap I i src ∧ ys.length ≤ i ∧ ValsAre us ys ∧ s'.heap.PlainList s₂.heap.objs.size us.toArray ∧
        s'.heap.Ns H2.objs.size m ∧ Kp s s' ∧ Rel C ρ H' s'.heap ∧ Gr H H' s.heap ∧ Off C H' I ∧ Off C H' s₂.heap.objs.size ∧ Off C H' H2.objs.size) ?_ (src.vals.length - 0)
        ⟨0, [], [], H₁, _, Nat.zero_le _, rfl, inv0, ok, hit.at fun o e _ => old _ _ e, Nat.zero_le _, .nil, hPD, hns₄, K.trans (kp_of _ old), R₄, G, off, offD, offL⟩
      rintro n s₆ ⟨i, ys, us, H', m, hi, rfl, inv, ok', hit', hlen, hus, hP', hns', K', R', G', offI', offD', offL'⟩
      by_cases hlt : i < src.vals.length
      · refine next_item R' ok' hit' (v := src.vals[i]) (by simp [hlt]) fun u h₇ t ha hit₇ hx₇ => ?_
        have hIL : H2.objs.size ≠ I := Nat.ne_of_gt (by rw [hL]; exact Nat.lt_succ_of_lt hI)
        have hns₇ : h₇.Ns H2.objs.size m := hns'.at' fun o e => hx₇ _ _ hIL e
        refine wpAny_assign_Name (wpAny_storeName_local (env := compEnvC scope cl H2.objs.size C.env) (by show (relabel scope C.env).names.lookup x = _; exact lookup_relabel_local hx) hns₇ (fun h₈ hns₈ hs₈ => ?_) (by show (scope.kind == _ || (scope.kind == _ && _)) = false; rw [hkind]; rfl))
        -- the state at the element's evaluation
        have hx₈ : ∀ b o, b ≠ H2.objs.size → h₇.get? b = some o → h₈.get? b = some o := fun b o hb e => (hs₈.2 b hb).trans e
        have R₈ : Rel C ρ H' h₈ := (R'.other offI' hx₇).other offL' hx₈
        have K₈ : Kp s { s₆ with heap := h₈, toks := t + 1 } := by
          have ne : ∀ b o, s.heap.get? b = some o → b ≠ I ∧ b ≠ H2.objs.size := fun b o e => ⟨(fun q => by rw [q, hnew] at e; cases e), (fun q => by rw [q, sL] at e; cases e)⟩
          exact ⟨fun b o e tb => hx₈ _ _ (ne b o e).2 (hx₇ _ _ (ne b o e).1 (K'.get b o e tb)), fun b o e => let ⟨o', e'⟩ := K'.there b o e; ⟨o', hx₈ _ _ (ne b o e).2 (hx₇ _ _ (ne b o e).1 e')⟩, K'.os, K'.gens, K'.tab.since fun b o o₀ e₀ e => hx₈ _ _ (ne b o₀ e₀).2 (hx₇ _ _ (ne b o₀ e₀).1 e)⟩
        have hit₈ : ItIs h₈ I (i + 1) src := hit₇.at fun o e _ => hx₈ _ _ (Ne.symm hIL) e
        have hDI : s₂.heap.objs.size ≠ I := Nat.ne_of_gt hI
        have hP₈ : h₈.PlainList s₂.heap.objs.size us.toArray := hP'.at fun o e => hx₈ _ _ hDL (hx₇ _ _ hDI e)
        have Rc : Rel { C with env := compEnvC scope cl H2.objs.size C.env, nms := relab C.nms scope.names } (put (inner ρ (relab C.nms scope.names)) x src.vals[i]) H' h₈ := by
          have free_of : ∀ y, (relab C.nms scope.names).lookup y = some .cell ∨ (relab C.nms scope.names).lookup y = some .free → C.nms.lookup y = some .cell ∨ C.nms.lookup y = some .free := fun y hy => hfree y (lookup_relab_free hnc hy)
          have in_put : ∀ y v', (put (inner ρ (relab C.nms scope.names)) x src.vals[i]) y = some v' → y ≠ x → ((relab C.nms scope.names).lookup y = some .cell ∨ (relab C.nms scope.names).lookup y = some .free) ∧ ρ y = some v' := fun y v' e hy => by
            unfold put at e; rw [if_neg hy] at e; unfold inner at e
            split at e
            · rename_i q; exact ⟨.inl q, e⟩
            · rename_i q; exact ⟨.inr q, e⟩
            · cases e
          refine ⟨eok, R₈.base, R₈.old, R₈.blo, R₈.view, fun y v' e => ?_, ⟨_, hns₈, fun y v' hy e => ?_⟩, fun y hy => ?_, (fun y z c h1 h2 => R₈.apart y z c (mem_of_lookup (hcl1 (y, c) h1)) (mem_of_lookup (hcl1 (z, c) h2))), fun y c hm => ?_, offL'.hi, offL'.lo, R₈.sysm, R₈.code⟩
          · by_cases hy : y = x
            · subst hy; exact .inl (lookup_relab_local _ hx)
            · exact .inr (in_put y v' e hy).1
          · by_cases hyx : y = x
            · subst hyx; unfold put at e; rw [if_pos rfl] at e; cases e; exact ⟨u, by simp, ha⟩
            · have hy' : (relab C.nms scope.names).lookup y = some .local := hy
              rcases (in_put y v' e hyx).1 with q | q <;> rw [q] at hy' <;> cases hy'
          · have hf := lookup_relab_free hnc hy
            obtain ⟨c, hc⟩ := Option.isSome_iff_exists.mp (hcl2 y hf)
            obtain ⟨c', u', a1, a2, a3⟩ := R₈.cel y (hfree y hf)
            have hcc : C.env.cells.lookup y = some c := hcl1 (y, c) (mem_of_lookup hc)
            rw [hcc] at a1; cases a1
            refine ⟨c, u', hc, a2, fun v' e => ?_⟩
            have hyx : y ≠ x := by
              rintro rfl
              have hy' : (relab C.nms scope.names).lookup y = some .cell ∨ (relab C.nms scope.names).lookup y = some .free := hy
              rw [lookup_relab_local _ hx] at hy'; rcases hy' with q | q <;> cases q
            exact a3 v' (in_put y v' e hyx).2
          · have hcc : C.env.cells.lookup y = some c := hcl1 (y, c) hm
            obtain ⟨h1, h2, h3, h4⟩ := R₈.cloc y c (mem_of_lookup hcc)
            refine ⟨?_, h2, h3, h4⟩
            rintro rfl
            exact offL'.cel y (mem_of_lookup hcc)
        have fi := turn i src.vals[i] ys H' (by simp [hlt]) inv ok' (compEnvC scope cl H2.objs.size C.env)
        have back : ∀ {H₉ : HV} {s₉ : Shared}, Kp { s₆ with heap := h₈, toks := t + 1 } s₉ → Gr H' H₉ h₈ → Rel { C with env := compEnvC scope cl H2.objs.size C.env, nms := relab C.nms scope.names } (put (inner ρ (relab C.nms scope.names)) x src.vals[i]) H₉ s₉.heap →
            Rel C ρ H₉ s₉.heap ∧ Kp s s₉ ∧ Gr H H₉ s.heap ∧ ItIs s₉.heap I (i + 1) src ∧ s₉.heap.PlainList s₂.heap.objs.size us.toArray ∧ (∃ m, s₉.heap.Ns H2.objs.size m) ∧ Off C H₉ I ∧ Off C H₉ s₂.heap.objs.size ∧ Off C H₉ H2.objs.size := by
          intro H₉ s₉ K₉ G₉ R₉
          refine ⟨R₈.stepT K₉.get K₉.there R₉.old K₉.tab R₉.view G₉, K₈.trans K₉, G'.trans K₈.there G₉, hit₈.at fun o e tb => K₉.get _ _ e tb, hP₈.at fun o e => ?_, ⟨_, ns_at hns₈ fun o e tb => K₉.get _ _ e tb⟩, ?_, ?_, ?_⟩
          · obtain ⟨n, e'⟩ := hP₈
            have : o = _ := Option.some.inj (e.symm.trans e')
            subst this; exact K₉.get _ _ e rfl
          · obtain ⟨o, e, _⟩ := hit₈.there; exact offI'.gr e G₉
          · obtain ⟨n, e'⟩ := hP₈; exact offD'.gr e' G₉
          · obtain ⟨o, _, _, e, _⟩ := hns₈; exact offL'.gr e G₉
        refine (show Ifs _ _ _ _ _ from fi).use (s := { s₆ with heap := h₈, toks := t + 1 }) hA Rc fun u₁ v₁ s₉ H₉ a₉ K₉ R₉ G₉ q => ?_
        cases (show u₁ = v₁ from a₉)
        obtain ⟨B1, B2, B3, B4, B5, ⟨m₅, B6⟩, B7, B8, B9⟩ := back K₉ G₉ R₉
        cases u₁ with
        | false =>
          obtain ⟨q1, q2⟩ := (show Inv (i + 1) ys H₉ ∧ src.Ok H₉ from q)
          exact ⟨_, by omega, i + 1, ys, us, H₉, m₅, hlt, rfl, q1, q2, B4, Nat.le_succ_of_le hlen, hus, B5, B6, B2, B1, B3, B7, B8, B9⟩
        | true =>
          refine (show Ev _ _ _ _ _ from q).use hA R₉ fun y v₂ s₁₀ H₁₀ a₁₀ K₁₀ R₁₀ G₁₀ q => ?_
          obtain ⟨D1, D2, D3, D4, D5, ⟨m₆, D6⟩, D7, D8, D9⟩ := back (K₉.trans K₁₀) (G₉.trans K₉.there G₁₀) R₁₀
          have hz := valsOk D1 q.2
          refine wpAny_list_append_plain D5 (fun h₁₁ hP₁₁ hs₁₁ => ?_) (by rw [List.size_toArray, hus.length]; exact Nat.le_trans (by omega : ys.length ≤ 1048576) (by decide))
          have hx₁₁ : ∀ b o, b ≠ s₂.heap.objs.size → s₁₀.heap.get? b = some o → h₁₁.get? b = some o := fun b o hb e => (hs₁₁.2 b hb).trans e
          have ne : ∀ b o, s.heap.get? b = some o → b ≠ s₂.heap.objs.size := fun b o e q => by rw [q, sD] at e; cases e
          refine ⟨_, by omega, i + 1, ys ++ [v₂], us ++ [y], H₁₀, m₆, hlt, rfl, q.1, q.2, D4.at fun o e _ => hx₁₁ _ _ (Ne.symm hDI) e, by simp; omega, hus.append (.one a₁₀), by simpa using hP₁₁, D6.at' fun o e => hx₁₁ _ _ (Ne.symm hDL) e,
            ⟨fun b o e tb => hx₁₁ _ _ (ne b o e) (D2.get b o e tb), fun b o e => let ⟨o', e'⟩ := D2.there b o e; ⟨o', hx₁₁ _ _ (ne b o e) e'⟩, D2.os, D2.gens, D2.tab.since fun b o o₀ e₀ e => hx₁₁ _ _ (ne b o₀ e₀) e⟩, D1.other D8 hx₁₁, D3, D7, D8, D9⟩
      · have e : i = src.vals.length := by omega
        subst e
        refine next_end hA.hd R' ok' hit' fun h₇ hx₇ => ?_
        have hDI : s₂.heap.objs.size ≠ I := Nat.ne_of_gt hI
        have hIL : H2.objs.size ≠ I := Nat.ne_of_gt (by rw [hL]; exact Nat.lt_succ_of_lt hI)
        have ne : ∀ b o, s.heap.get? b = some o → b ≠ I := fun b o e q => by rw [q, hnew] at e; cases e
        have hz := valsOk R' ok'
        exact fin ys H' inv { s₆ with heap := h₇ } _ _ us ⟨fun b o e tb => hx₇ _ _ (ne b o e) (K'.get b o e tb), fun b o e => let ⟨o', e'⟩ := K'.there b o e; ⟨o', hx₇ _ _ (ne b o e) e'⟩, K'.os, K'.gens, K'.tab.since fun b o o₀ e₀ e => hx₇ _ _ (ne b o₀ e₀) e⟩ (R'.other offI' hx₇) G' sD sL hDL offD' offL'
          (hP'.at fun o e => hx₇ _ _ hDI e) hus (Nat.le_trans hlen hz) ⟨m, hns'.at' fun o e => hx₇ _ _ hIL e⟩
    · intro r s' d
      cases r with
      | ok f =>
        have d' : compPost (model C.prog C.w) A nay use P (.ref s₂.heap.objs.size) H2.objs.size (.ok .next) s' := d
        cases use <;> exact d'
      | error e => exact d.elim
  exact codeAny_compStart_list (main _ rfl) (iter_self (src := src) (i := 0) (hit.at fun o e _ => old _ _ e) (main _ rfl))
noncomputable def scopeFits (outer names : List (Str × NameKind)) (x : Str) : Bool :=
  names.lookup x == some .local && (names.all fun p => p.2 != .cell) && (names.all fun p => p.2 != .local || names.lookup p.1 == some .local) && names.all fun p => p.2 != .free || outer.lookup p.1 == some .cell || outer.lookup p.1 == some .free
theorem scopeFits_parts {outer names : List (Str × NameKind)} {x : Str} (h : scopeFits outer names x = true) : names.lookup x = some .local ∧ (∀ p ∈ names, p.2 ≠ .cell) ∧ (∀ p ∈ names, p.2 = .local → names.lookup p.1 = some .local) ∧
    ∀ n, (n, NameKind.free) ∈ names → outer.lookup n = some .cell ∨ outer.lookup n = some .free := by
  unfold scopeFits at h
  simp only [Bool.and_eq_true, beq_iff_eq, List.all_eq_true, bne_iff_ne, ne_eq, Bool.or_eq_true] at h
  obtain ⟨⟨⟨h1, h2⟩, h3⟩, h4⟩ := h
  refine ⟨h1, h2, fun p hp e => (h3 p hp).resolve_left (fun q => q e), fun n hn => ?_⟩
  rcases h4 _ hn with (q | q) | q
  · exact absurd rfl q
  · exact .inl q
  · exact .inr q
theorem ev_ListComp {elt iter : Expr} {x : Str} {px pos : Pos} {ifs : List Expr} {scope : Scope} {Q : V → HV → Prop}
    (h : Its C iter ρ H fun src H₁ => ∃ Inv, CompOK C elt x ifs scope.names src ρ H₁ Inv ∧ ∀ ys H', Inv src.vals.length ys H' → ∀ a, C.lo ≤ a → H' a = Option.none → Q (.loc a) (upd H' a (.list ys)))
    (hf : scopeFits C.nms scope.names x = true := by rfl) (hkind : scope.kind = .function := by rfl) (hs : ∀ env v, foldedSetIterable iter env v = pure v := by intros; rfl) :
    Ev C (.ListComp elt [⟨.Name x px, iter, ifs, 0⟩] scope pos) ρ H Q := by
  intro A s hA R
  obtain ⟨f1, f2, f3, f4⟩ := scopeFits_parts hf
  show wpAny _ _ (comprehension (.ListComp elt [⟨.Name x px, iter, ifs, 0⟩] scope pos) scope C.env _ (newList []) false (eval iter C.env)) _ _ _
  refine comp_core f1 hkind f2 f3 f4 hA R hs (fun A s' hA' R' => wpAny_mono (h A s' hA' R') (fun _ _ x => wpAny_mono x (fun _ _ x => ?_) fun _ _ e => e) fun _ _ e => e)
  obtain ⟨I, src, H₁, a1, a2, a3, a4, a5, a6, a7, a8, Inv, ok, fin⟩ := x
  refine ⟨I, src, H₁, a1, a2, a3, a4, a5, a6, a7, a8, Inv, ok, ?_⟩
  intro ys H' inv s₁ D L us K R₁ G sD sL hDL offD offL hP hus hz ⟨m, hns⟩
  refine ⟨m, hns, fun h' hs' => ?_⟩
  have hx : ∀ b o, b ≠ L → s₁.heap.get? b = some o → h'.get? b = some o := fun b o hb e => (hs'.2 b hb).trans e
  have ob : ObjIs C.prog C.w h' D (.list ys) := ⟨us, hP.at fun o e => hx _ _ hDL e, hus, hz⟩
  have ne : ∀ b o, s.heap.get? b = some o → b ≠ L ∧ b ≠ D := fun b o e => ⟨(fun q => by rw [q, sL] at e; cases e), (fun q => by rw [q, sD] at e; cases e)⟩
  refine ⟨.loc D, upd H' D (.list ys), rfl, ⟨fun b o e tb => hx _ _ (ne b o e).1 (K.get b o e tb), fun b o e => let ⟨o', e'⟩ := K.there b o e; ⟨o', hx _ _ (ne b o e).1 e'⟩, K.os, K.gens, K.tab.since fun b o o₀ e₀ e => hx _ _ (ne b o₀ e₀).1 e⟩, ?_, ?_, fin ys H' inv D offD.lo offD.hi⟩
  · exact (R₁.other offL hx).see offD ob
  · intro b o e n
    unfold upd; rw [if_neg (ne b o e).2]; exact G b o e n
end
end Mine
end
section
set_option maxRecDepth 100000
set_option Elab.async false
set_option linter.unusedVariables false
namespace Mine
open PySem PySem.Spec PyProof.Rows
theorem isV_typ {u : Value} {n : String} (h : isV u (.typ n)) : u = .type n := by
  unfold isV at h
  cases u <;> simp only [absV] at h <;> (try split at h) <;> cases h; rfl
section
variable {C : Cx} {ρ : EV} {H H' : HV} {A : Around} {s : Shared} {Q : V → HV → Prop}
theorem bok_add_list {a b : Addr} {vs ws : List V} (ha : H a = some (.list vs)) (hb : H b = some (.list ws)) (hz : vs.length + ws.length ≤ 1048576)
    (q : ∀ c, C.lo ≤ c → H c = Option.none → Q (.loc c) (upd H c (.list (vs ++ ws)))) : BOK C .Add (.loc a) (.loc b) ρ H Q := by
  intro u u' x y A s hA R
  cases isV_loc x; cases isV_loc y
  obtain ⟨its, ⟨n, e⟩, hx, _⟩ := R.view a _ ha
  obtain ⟨its', ⟨n', e'⟩, hx', _⟩ := R.view b _ hb
  have ea : its.toArray ++ its'.toArray = (its ++ its').toArray := by simp
  refine concat_meets ⟨_, e, rfl⟩ ⟨_, e', rfl⟩ noFill_list_add seq_list_add PySem.F.slot_list_add PySem.F.entry_list_add (PySem.F.args_list_add_2 _ _)
    (list_addW a b its.toArray its'.toArray n n' Option.none Option.none #[] #[] (by rw [List.size_toArray, List.size_toArray, hx.length, hx'.length]; exact Nat.le_trans hz (by decide))) ⟨e, e', ?_⟩
  rw [ea]
  exact Done.new R (fun _ _ e => Heap.get?_push_of_some _ e) (Nat.le_refl _) (obj_list (Heap.get?_push_size _ rfl) (hx.append hx') (by rw [List.length_append]; exact hz)) q s.toks
theorem foldl_replicate_append {α : Type} (xs : Array α) : ∀ (n : Nat) (acc : Array α), (List.foldl (fun x1 x2 => x1 ++ x2) acc (List.replicate n xs)).toList = acc.toList ++ (List.replicate n xs.toList).flatten
  | 0, acc => by simp
  | n + 1, acc => by
    rw [List.replicate_succ, List.foldl_cons, foldl_replicate_append xs n (acc ++ xs), List.replicate_succ, List.flatten_cons]
    simp
theorem bok_mul_list1 {a : Addr} {v : V} {i : Int} (ha : H a = some (.list [v])) (hi : i ≤ 1048576) (hi0 : -1048576 ≤ i)
    (q : ∀ c, C.lo ≤ c → H c = Option.none → Q (.loc c) (upd H c (.list (List.replicate i.toNat v)))) : BOK C .Mult (.loc a) (.int i) ρ H Q := by
  intro u u' x y A s hA R
  cases isV_loc x
  obtain ⟨t, rfl⟩ := isV_int y
  obtain ⟨its, ⟨n, e⟩, hx, _⟩ := R.view a _ ha
  have hl := hx.length
  obtain ⟨w, rfl⟩ : ∃ w, its = [w] := List.length_eq_one_iff.mp (by simpa using hl)
  have hw : absV w = some v := by cases hx with | cons e _ => exact e
  refine wpAny_binaryOp_repeat_ref (T := "list") (U := "int") (by decide) ⟨_, e, rfl⟩ (fun s' => typeIs_int s' i t) noFill_list_mul F.fills_int_mul F.slot_int_rmul repeat_list F.slot_int_index.lookup
    (call_meets F.slot_int_rmul (typeIs_int s i t) F.entry_int_rmul (F.args_int_rmul_2 _ _) (int___rmul___int_list i t a [w].toArray n)
      ⟨e, rfl, ⟨_, e, rfl⟩, call_meets F.slot_list_mul ⟨_, e, rfl⟩ F.entry_list_mul (F.args_list_mul_2 _ _)
        (AutoListH.list___mul___list_int_3 a [w].toArray n i t (by simp [Builtin.List.listFitsIndex]; omega) (by simp; omega) (by simp [Builtin.List.listTooLong, sizeLine]; omega))
        ⟨e, ?_⟩⟩)
  refine Done.new R (fun _ _ e => Heap.get?_push_of_some _ e) (Nat.le_refl _) (o := .list (List.replicate i.toNat v)) ⟨List.replicate i.toNat w, ⟨0, ?_⟩, .replicate hw _, by rw [List.length_replicate]; omega⟩ q s.toks
  have e9 : List.foldl (fun x1 x2 => x1 ++ x2) #[] (List.replicate (if ([w].toArray : Array Value).isEmpty = true then 0 else i.toNat) [w].toArray) = (List.replicate i.toNat w).toArray := by
    apply Array.ext'
    rw [foldl_replicate_append]
    simp only [List.isEmpty_toArray, List.isEmpty_cons, Bool.false_eq_true, if_false]
    simp
  rw [← e9]
  exact Heap.get?_push_size _ rfl
theorem cok_eq_str {x y : Str} (q : Q (.bool (x == y)) H) : COK C .Eq (.str x) (.str y) ρ H Q := by
  intro u u' a b A s hA R
  obtain ⟨t, rfl, _⟩ := isV_str a; obtain ⟨t', rfl, _⟩ := isV_str b
  exact PyProof.Rows.eq_str (Done.v R rfl q s.toks)
theorem cok_ne_str {x y : Str} (q : Q (.bool (x != y)) H) : COK C .NotEq (.str x) (.str y) ρ H Q := by
  intro u u' a b A s hA R
  obtain ⟨t, rfl, _⟩ := isV_str a; obtain ⟨t', rfl, _⟩ := isV_str b
  exact PyProof.Rows.ne_str (Done.v R rfl q s.toks)
theorem cok_in_str {x y : Str} (q : Q (.bool (!(Builtin.Str.occurrences x y 0 x.length 1).isEmpty)) H) : COK C .In (.str y) (.str x) ρ H Q := by
  intro u u' a b A s hA R
  obtain ⟨t, rfl, _⟩ := isV_str a; obtain ⟨t', rfl, _⟩ := isV_str b
  exact PyProof.Rows.in_str (Done.v R rfl q s.toks)
noncomputable def notBool (b : Bool) : V → Bool
  | .bool x => x != b
  | _ => true
theorem cok_isnot_bool {v : V} {b : Bool} (q : Q (.bool (notBool b v)) H) : COK C .IsNot v (.bool b) ρ H Q := by
  intro u u' a bb A s hA R
  cases isV_bool bb
  have hp : plainIs u (.bool b) = true := by
    cases u <;> first | rfl | (unfold isV absV at a; cases a)
  refine wpAny_isNot_plain hp (Done.v R (v := .bool (notBool b v)) ?_ q s.toks)
  cases v with
  | none => cases isV_none a; rfl
  | bool x => cases isV_bool a; cases x <;> cases b <;> rfl
  | int i => obtain ⟨t, rfl⟩ := isV_int a; rfl
  | str x => obtain ⟨t, rfl, _⟩ := isV_str a; rfl
  | loc l => cases isV_loc a; rfl
  | typ n => cases isV_typ a; rfl
theorem cok_isnot_typ {m n : String} (q : Q (.bool (m != n)) H) : COK C .IsNot (.typ m) (.typ n) ρ H Q := by
  intro u u' a b A s hA R
  cases isV_typ a; cases isV_typ b
  refine wpAny_isNot_plain rfl (Done.v R (v := .bool (m != n)) ?_ q s.toks)
  show some (V.bool (!(Value.type m == Value.type n))) = _
  congr 2
  by_cases h : m = n
  · subst h; simp
  · have h1 : (Value.type m == Value.type n) = false := by
      rw [beq_eq_false_iff_ne]; intro e; injection e with e; exact h e
    rw [h1]; simp [h]
theorem tr_list {a : Addr} {vs : List V} {Q : Bool → HV → Prop} (e : H a = some (.list vs)) (q : Q (!vs.isEmpty) H) : TrOK C (.loc a) ρ H Q := by
  intro u x A s hA R
  cases isV_loc x
  obtain ⟨its, hl, hx, hz⟩ := R.view a _ e
  have hlen := hx.length
  refine wpAny_truthy_list hl.isList (by rw [List.size_toArray]; omega) ⟨_, H, ?_, kp_tok _ _, R, Gr.refl _ _, q⟩
  cases its <;> cases vs <;> simp_all
/-- and | or as values -/
abbrev Bl (C : Cx) (pos : Pos) (op : BoolOp) (es : List Expr) (ρ : EV) (H : HV) (Q : V → HV → Prop) : Prop := TG C isV (boolOp pos op (evalEach es C.env)) ρ H Q
theorem ev_BoolOp {op : BoolOp} {es : List Expr} {pos : Pos} (h : Bl C pos op es ρ H Q) : Ev C (.BoolOp op es pos) ρ H Q := h
theorem bl_one {op : BoolOp} {e : Expr} {pos : Pos} (h : Ev C e ρ H Q) : Bl C pos op [e] ρ H Q := h
theorem bl_and {e e' : Expr} {es : List Expr} {pos : Pos} (h : Ev C e ρ H fun v H₁ => TrOK C v ρ H₁ fun b H₂ => if b = true then Bl C pos .And (e' :: es) ρ H₂ Q else Q v H₂) : Bl C pos .And (e :: e' :: es) ρ H Q := by
  intro A s hA R
  show wpAny _ _ (do
    let v ← eval e C.env
    standAt pos
    let t ← holding [v] (truthy v)
    match BoolOp.And, t with
    | .And, false | .Or, true => pure v
    | _, _ => boolOp pos .And (evalEach (e' :: es) C.env)) _ _ s
  refine wpAny_bind (h.use hA R fun u v s₁ H₁ a K R₁ G q => wpAny_bind (wpAny_standAt (wpAny_bind (wpAny_holding ((q u a).use hA R₁ fun b b' s₂ H₂ a' K' R₂ G' q' => ?_)))))
  cases (show b = b' from a')
  cases b with
  | false => exact wpAny_pure (Done.trans K G (Done.trans K' G' ⟨v, H₂, a, kp_refl _, R₂, Gr.refl _ _, q'⟩))
  | true => exact wpAny_mono (q' A s₂ hA R₂) (fun _ _ d => (d.trans K' G').trans K G) fun _ _ e => e
theorem bl_or {e e' : Expr} {es : List Expr} {pos : Pos} (h : Ev C e ρ H fun v H₁ => TrOK C v ρ H₁ fun b H₂ => if b = true then Q v H₂ else Bl C pos .Or (e' :: es) ρ H₂ Q) : Bl C pos .Or (e :: e' :: es) ρ H Q := by
  intro A s hA R
  show wpAny _ _ (do
    let v ← eval e C.env
    standAt pos
    let t ← holding [v] (truthy v)
    match BoolOp.Or, t with
    | .And, false | .Or, true => pure v
    | _, _ => boolOp pos .Or (evalEach (e' :: es) C.env)) _ _ s
  refine wpAny_bind (h.use hA R fun u v s₁ H₁ a K R₁ G q => wpAny_bind (wpAny_standAt (wpAny_bind (wpAny_holding ((q u a).use hA R₁ fun b b' s₂ H₂ a' K' R₂ G' q' => ?_)))))
  cases (show b = b' from a')
  cases b with
  | true => exact wpAny_pure (Done.trans K G (Done.trans K' G' ⟨v, H₂, a, kp_refl _, R₂, Gr.refl _ _, q'⟩))
  | false => exact wpAny_mono (q' A s₂ hA R₂) (fun _ _ d => (d.trans K' G').trans K G) fun _ _ e => e
theorem vc_len_list {a : Addr} {vs : List V} (e : H a = some (.list vs)) (q : Q (.int vs.length) H) : VCall C (.builtin "len") [.loc a] ρ H Q := by
  intro us hus A s hA R
  cases hus with
  | cons x r =>
    cases r
    cases isV_loc x
    obtain ⟨its, hl, hx, hz⟩ := R.view a _ e
    have hlen := hx.length
    refine PyProof.Rows.len_list hl.isList (by rw [List.size_toArray]; omega) (Done.v R ?_ q _)
    show some (V.int ((its.toArray.size : Nat) : Int)) = _
    rw [List.size_toArray, hlen]
end
end Mine
end
section
set_option maxRecDepth 100000
set_option Elab.async false
set_option linter.unusedVariables false
namespace Mine
open PySem PySem.Spec PyProof.Rows
open PySem.W (Frag Frag.In nsIn mg_of mg_none_of GoodWG ClaimW WData ReadsW Well WellAll ofPy)
/-- what the walk knows of the module -/
structure Gd (K : Params → Frag) (C : Cx) : Prop where
  X : (K C.w.params).In C.B
  g : ∃ mg, C.B.Ns mainGlobals mg
  b : ∃ mb, C.B.Ns builtinsNs mb ∧ ∀ x : Str, x ≠ "__name__" → mb x = bootBuiltins x
  lim : C.B.NoLimit
section
variable {K : Params → Frag} {C : Cx}
theorem Gd.cast {C' : Cx} (G : Gd K C) (h1 : C.w = C'.w) (h2 : C.B = C'.B) : Gd K C' := ⟨h1 ▸ h2 ▸ G.X, h2 ▸ G.g, h2 ▸ G.b, h2 ▸ G.lim⟩
theorem Gd.glob (G : Gd K C) {x : Str} {v : Value} (e : nsIn (K C.w.params) mainGlobals x = some (some v)) : GlobIs C x v := let ⟨mg, h⟩ := G.g; ⟨mg, h, .inl (mg_of G.X h e)⟩
theorem Gd.blt (G : Gd K C) {x : Str} {v : Value} (e : nsIn (K C.w.params) mainGlobals x = some none) (hv : bootBuiltins x = some v) (hn : x ≠ "__name__") : GlobIs C x v :=
  let ⟨mg, h⟩ := G.g; let ⟨mb, hb, q⟩ := G.b; ⟨mg, h, .inr ⟨mg_none_of G.X h e, mb, hb, (q x hn).trans hv⟩⟩
end
noncomputable def fdAt (K : Frag) (a : Addr) : FuncData := match K.lookup a with
  | some ⟨_, _, .func fd, _⟩ => fd
  | _ => Calls.docDef "" ⟨[], [], none, [], [], none, []⟩ [] default .none .none .none
noncomputable def bodyAt (K : Frag) (a : Addr) : List Stmt := match (fdAt K a).body with
  | .stmts b => b
  | _ => []
noncomputable def namesAt (K : Frag) (a : Addr) : List (Str × NameKind) := (fdAt K a).scope.names
theorem fn_of {K : Params → Frag} {C : Cx} (G : Gd K C) {fa c : Addr} {params : List Str} {o oc : Obj} {vs : Array Value} {t : Tok} {n : String}
    (ho : (K C.w.params).lookup fa = some o) (hd : o.data = .func (fdAt (K C.w.params) fa)) (hb : (fdAt (K C.w.params) fa).body = .stmts (bodyAt (K C.w.params) fa)) (hc : (fdAt (K C.w.params) fa).code = .ref c) (hoc : (K C.w.params).lookup c = some oc)
    (hn : oc.cls = .type n) (hdc : oc.data = .fields vs) (hv : vs[1]? = some (.str (fdAt (K C.w.params) fa).qualname t)) (h1 : (fdAt (K C.w.params) fa).closure = []) (h2 : (fdAt (K C.w.params) fa).scope.kind = .function) (h3 : (fdAt (K C.w.params) fa).scope.isCoroutine = false) (h4 : (fdAt (K C.w.params) fa).scope.isGenerator = false)
    (h5 : (fdAt (K C.w.params) fa).globals = mainGlobals) (h6 : (fdAt (K C.w.params) fa).builtins = builtinsNs) (hbi : ∀ vals : List Value, vals.length = params.length → bindArgs (fdAt (K C.w.params) fa) ⟨vals, []⟩ = pure (params.zip vals))
    (hpk : params.all (fun x => (namesAt (K C.w.params) fa).lookup x == some .local || (namesAt (K C.w.params) fa).lookup x == some .cell) = true) (hnf : (namesAt (K C.w.params) fa).all (fun x => x.2 != .free) = true)
    (hnd : ((cellsFrom 0 (namesAt (K C.w.params) fa) []).map (·.1)).Nodup) : Fn C fa params (bodyAt (K C.w.params) fa) (namesAt (K C.w.params) fa) (fdAt (K C.w.params) fa) := by
  refine ⟨⟨o, G.X _ _ ho, hd⟩, ⟨c, oc, vs, t, n, hc, G.X _ _ hoc, hn, hdc, hv⟩, hb, rfl, h1, h2, h3, h4, h5, h6, hbi, fun x hx => ?_, fun x hx => ?_, hnd⟩
  · have := List.all_eq_true.mp hpk x hx
    simpa using this
  · have hm := mem_of_lookup hx
    have := List.all_eq_true.mp hnf _ hm
    simp at this
theorem top_call {C : Cx} {s : Shared} {fa : Addr} {params : List Str} {body : List Stmt} {nms : List (Str × NameKind)} {fd : FuncData} {vs : List V} {us : List Value} {H : HV} {A : Around} {Q : V → HV → Prop} (hB : C.B = s.heap) (hA : Rm A C.k)
    (F : Fn C fa params body nms fd) (lim : C.B.NoLimit) (hv : ValsAre us vs) (hk : 0 < C.k) (hlen : vs.length = params.length) (view : ∀ a o, H a = some o → ObjIs C.prog C.w s.heap a o) (sysm : H sysModules = none ∧ ∃ o, s.heap.get? sysModules = some o)
    (h : ∀ env lo, C.B.objs.size ≤ lo → (∀ a, (H a).isSome = true → a < lo) → Exs (C.into env lo nms) body (argsV params vs) H fun fl _ H' => Q (retOf fl) H') :
    wpAny (model C.prog C.w) A (call (.ref fa) us) (fun u s' => ∃ v H', absV u = some v ∧ OldK s.heap s'.heap ∧ s'.os = s.os ∧ (AllBare s.gens → AllBare s'.gens) ∧ Q v H') nay s := by
  obtain ⟨o, ho, hdat⟩ := F.obj
  have hul : us.length = params.length := hv.length.trans hlen
  have hrec : s.heap.CodeRec fd.code fd.qualname := by
    obtain ⟨c, oc, vs', t, n, e1, e2, e3, e4, e5⟩ := F.crec
    exact ⟨c, oc, vs', t, e1, hB ▸ e2, e4, e5⟩
  have hlim : s.heap.NoLimit := hB ▸ lim
  have hkinds : ∀ x ∈ params.zip us, fd.scope.names.lookup x.1 = some .local ∨ (fd.scope.names.lookup x.1 = some .cell ∧ ((cellsFrom (s.heap.objs.size + 1) fd.scope.names []).lookup x.1).isSome = true) := by
    intro x hx
    have hm := F.pk x.1 (List.of_mem_zip hx).1
    rw [F.names]
    rcases hm with q | q
    · exact .inl q
    · exact .inr ⟨q, hasCell _ _ _ (.inl q)⟩
  refine wpAny_call (codeAny_call_cells (by have := hA.dp; show A.depth < 1000; omega) (hB ▸ ho) hdat hlim hrec F.body (F.binds us hul) F.clo hkinds (fun s₁ X => ?_) F.co F.gen F.kind)
  have hdom : ∀ a, (H a).isSome = true → a < s.heap.objs.size := fun a e => by
    obtain ⟨o, eo⟩ := Option.isSome_iff_exists.mp e
    obtain ⟨ob, e'⟩ := (view a o eo).there
    exact Heap.lt_size e'
  have hko : ∀ x, (callEnvC fd s.heap.objs.size fa).kindOf x = nms.lookup x := fun x => by show fd.scope.names.lookup x = _; rw [F.names]
  obtain ⟨ρ₁, e₁, g1, g2⟩ := zip_vals params us vs hv hul (callEnvC fd s.heap.objs.size fa).kindOf (fun _ => Option.none) (fun _ => Option.none) (fun _ => Option.none) (fun x hx => by rw [hko]; exact F.pk x hx) (fun _ _ _ e => by cases e) (fun _ _ _ e => by cases e)
  have eρ : argsV params vs = ρ₁ := funext fun x => by rw [e₁ x]; simp [argsV]
  have keep := X.toInCall.keep
  have dom₁ : ∀ x v, ρ₁ x = some v → nms.lookup x = some .local ∨ nms.lookup x = some .cell ∨ nms.lookup x = some .free := fun x v e => by
    rw [e₁ x] at e
    simp only [Option.or_none] at e
    have hm : (x, v) ∈ params.zip vs := by
      have := mem_of_lookup e
      exact List.mem_reverse.mp this
    rcases F.pk x (List.of_mem_zip hm).1 with q | q
    · exact .inl q
    · exact .inr (.inl q)
  have R₁ : Rel (C.into (callEnvC fd s.heap.objs.size fa) s.heap.objs.size nms) (argsV params vs) H s₁.heap := by
    rw [eρ]
    refine ⟨⟨F.kind, F.glob, F.bui, F.names⟩, fun b o e t => keep _ _ (hB ▸ e), ?_, ?_, fun a o e => (view a o e).at fun _ e' _ => keep _ _ e', dom₁, ⟨_, X.toInCall.ns, fun x v hx e => g1 x v (by rw [hko]; exact hx) e⟩, fun x hx => ?_, fun x y c h h' => name_of_addr X.apart h h', fun x c hm => ?_, ?_, Nat.le_refl _, ⟨sysm.1, ?_⟩, ?_⟩
    · show OldK C.B _
      rw [hB]; exact .of_keep keep
    · show C.B.objs.size ≤ _
      rw [hB]; exact Nat.le_refl _
    · have hx' : nms.lookup x = some .cell ∨ nms.lookup x = some .free := hx
      rcases hx' with hx' | hx'
      · have hsome : ((cellsFrom (s.heap.objs.size + 1) fd.scope.names []).lookup x).isSome = true := hasCell _ _ _ (.inl (by rw [F.names]; exact hx'))
        obtain ⟨c, hc⟩ := Option.isSome_iff_exists.mp hsome
        refine ⟨c, _, hc, X.cell x c hc, fun v e => ?_⟩
        exact g2 x v (by rw [hko]; exact hx') e
      · exact absurd hx' (F.nofree x)
    · have hgt := X.above x c hm
      have hgt' : s.heap.objs.size < c := hgt
      refine ⟨Nat.ne_of_gt hgt, Nat.le_of_lt hgt', ?_, ?_⟩
      · cases e : H c with
        | none => rfl
        | some o => exact absurd (hdom c (by rw [e]; rfl)) (Nat.not_lt.mpr (Nat.le_of_lt hgt'))
      · have hnd : ((cellsFrom (s.heap.objs.size + 1) fd.scope.names []).map (·.1)).Nodup := by
          rw [F.names, cellsFrom_names nms (s.heap.objs.size + 1) 0 [] [] rfl]; exact F.nd
        obtain ⟨o, e, _⟩ := X.cell x c (lookup_of_mem_nodup hnd hm)
        exact ⟨o, e⟩
    · show H s.heap.objs.size = none
      cases e : H s.heap.objs.size with
      | none => rfl
      | some o => exact absurd (hdom _ (by rw [e]; rfl)) (Nat.lt_irrefl _)
    · obtain ⟨_, o, e⟩ := sysm
      exact ⟨o, keep _ _ e⟩
    · show TabK C.B _
      rw [hB]; exact .of_keep keep
  refine (h _ _ (by rw [hB]; exact Nat.le_refl _) hdom).use (hA.deeper hk _) R₁ fun f fl ρ' H' s' a K R' q => ?_
  obtain ⟨h₁, t₁, e₁, _⟩ := X.toInCall.done
  have fin : ∀ u, absV u = some (retOf fl) → ∃ v H', absV u = some v ∧ OldK s.heap s'.heap ∧ s'.os = s.os ∧ (AllBare s.gens → AllBare s'.gens) ∧ Q v H' := fun u e =>
    ⟨retOf fl, H', e, hB ▸ R'.old, K.os.trans (by rw [e₁]), fun x => K.gens.1 (by rw [e₁]; exact x), q⟩
  cases f <;> cases fl <;> first | exact absurd a (fun x => x) | exact fin _ a | exact fin _ rfl
/-- a law's whole call -/
theorem top_good {C : Cx} {s : Shared} {fa : Addr} {params : List Str} {body : List Stmt} {nms : List (Str × NameKind)} {fd : FuncData} {vs : List V} {us : List Value} {H : HV} {c : ClaimW} {cl : Str → Option Addr} {mean : ExcName → Option Value} {args : List WData}
    (hr : ∀ cls, c.raises args cls = false) (hp : c.post args (.bool true) args = true) (hg : s.gens = #[]) (hB : C.B = s.heap) (hk : C.k = 50)
    (F : Fn C fa params body nms fd) (lim : C.B.NoLimit) (hv : ValsAre us vs) (hlen : vs.length = params.length) (view : ∀ a o, H a = some o → ObjIs C.prog C.w s.heap a o) (sysm : H sysModules = none ∧ ∃ o, s.heap.get? sysModules = some o)
    (h : ∀ env lo, C.B.objs.size ≤ lo → (∀ a, (H a).isSome = true → a < lo) → Exs (C.into env lo nms) body (argsV params vs) H fun fl _ H' => retOf fl = .bool true) :
    wpAny (model C.prog C.w) callerA (call (.ref fa) us) (fun v s' => GoodWG c cl mean args s (.ok (.ret v)) s') (fun e s' => GoodWG c cl mean args s (.error e) s') s := by
  refine wpAny_mono (top_call (Q := fun v _ => v = .bool true) hB ?_ F lim hv (by omega) hlen view sysm h) (fun u s' ⟨v, H', e, o, os, g, q⟩ => ?_) fun _ _ e => e.elim
  · refine ⟨rfl, ?_, ?_⟩ <;> rw [hk] <;> decide
  · subst q
    have hu : u = .bool true := by
      cases u <;> simp only [absV] at e <;> (try split at e) <;> cases e; rfl
    subst hu
    exact ⟨.inl ⟨_, _, [], rfl, hr, ReadsW.bool true, hp, fun _ => ⟨List.nodup_nil, fun _ hm => (nomatch hm)⟩⟩, o, os, g (.of_eq hg)⟩
theorem law_arg {P : Params} {h : Heap} {v : Value} {ns : List Int} (W : Well P h v (ofPy (.list (ns.map .int)))) : ∃ a vs, v = .ref a ∧ h.PlainList a vs.toArray ∧ ValsAre vs (ns.map V.int) := by
  have e : ofPy (.list (ns.map .int)) = .list (ns.map WData.int) := by
    have : ∀ ns : List Int, PySem.W.ofPys (ns.map PyData.int) = ns.map WData.int := fun ns => by
      induction ns with
      | nil => rfl
      | cons n ns ih => simp only [List.map_cons, PySem.W.ofPys, ih, ofPy]
    simp only [ofPy, this]
  rw [e] at W
  cases W with
  | list ho hw =>
    rename_i a vs
    refine ⟨a, vs, rfl, ⟨_, ho⟩, ?_⟩
    clear ho e
    revert vs
    induction ns with
    | nil => intro vs hw; cases hw; exact .nil
    | cons n ns ih =>
      intro vs hw
      simp only [List.map_cons] at hw
      cases hw with
      | cons w1 w2 => cases w1; exact .cons rfl (ih w2)
end Mine
end
section
set_option maxRecDepth 100000
set_option Elab.async false
set_option linter.unusedVariables false
namespace Mine
open PySem PySem.Spec PyProof.Rows PySem.SeqAt
abbrev strsV (ss : List Str) : List V := ss.map V.str
abbrev intsV (ns : List Int) : List V := ns.map V.int
section
variable {C : Cx} {ρ : EV} {H H' : HV} {A : Around} {s : Shared} {Q : V → HV → Prop}
theorem Rm.unit {k : Nat} (hA : Rm A k) : A.units ≤ 9000 := Nat.le_trans (Nat.le_add_right _ _) hA.un
theorem same_dec {p : Prop} [Decidable p] {d d' : PyData} (h : d = d' ↔ p) : Spec.same d d' = decide p := by
  rw [Bool.eq_iff_iff, same_iff, h, decide_eq_true_iff]
theorem any_map {α : Type} [DecidableEq α] {g : α → PyData} (inj : ∀ x y, g x = g y → x = y) (x : α) (xs : List α) : ((xs.map g).any fun y => Spec.same y (g x)) = decide (x ∈ xs) := by
  rw [Bool.eq_iff_iff, decide_eq_true_iff, List.any_eq_true]
  constructor
  · rintro ⟨y, hy, e⟩
    obtain ⟨z, hz, rfl⟩ := List.mem_map.mp hy
    rw [← inj _ _ (same_iff.mp e)]; exact hz
  · intro h; exact ⟨g x, List.mem_map_of_mem h, same_iff.mpr rfl⟩
/-- flat lists read -/
theorem reads_flat {α : Type} {h : Heap} {f : α → V} {g : α → PyData} (hf : ∀ x u, isV u (f x) → ∃ as, Reads h u (g x) as ∧ (g x).canLay0 = true) : ∀ {xs : List α} {us : List Value}, ValsAre us (xs.map f) → ∃ as, ReadsAll h us (xs.map g) as ∧ PyData.canLayAll0 (xs.map g) = true := by
  intro xs
  induction xs with
  | nil => intro us hu; cases hu; exact ⟨_, .nil, rfl⟩
  | cons x xs ih =>
    intro us hu
    cases hu with
    | cons a r =>
      obtain ⟨as, q, c⟩ := hf x _ a
      obtain ⟨bs, q', c'⟩ := ih r
      exact ⟨_, .cons q q', by rw [List.map_cons, PyData.canLayAll0, c, c']; rfl⟩
theorem reads_str {h : Heap} (x : Str) (u : Value) (a : isV u (.str x)) : ∃ as, Reads h u (.str x) as ∧ (PyData.str x).canLay0 = true := by obtain ⟨t, rfl, ok⟩ := isV_str a; exact ⟨_, .str _ _, ok⟩
theorem reads_int {h : Heap} (x : Int) (u : Value) (a : isV u (.int x)) : ∃ as, Reads h u (.int x) as ∧ (PyData.int x).canLay0 = true := by obtain ⟨t, rfl⟩ := isV_int a; exact ⟨_, .int _ _, rfl⟩
theorem reads_list {α : Type} {f : α → V} {g : α → PyData} (hf : ∀ h x u, isV u (f x) → ∃ as, Reads h u (g x) as ∧ (g x).canLay0 = true) {a : Addr} {xs : List α} (R : Rel C ρ H s.heap) (e : H a = some (.list (xs.map f))) {u : Value} (hu : isV u (.loc a)) :
    ∃ as, Reads s.heap u (.list (xs.map g)) as ∧ (PyData.list (xs.map g)).canLay0 = true := by
  obtain ⟨its, ⟨k, he⟩, hv, _⟩ := R.view _ _ e
  obtain ⟨as, r, c⟩ := reads_flat (hf s.heap) hv
  rw [isV_loc hu]; exact ⟨_, .list he rfl rfl (by simpa using r), c⟩
theorem any_flat {α : Type} [DecidableEq α] {g : α → PyData} (inj : ∀ x y, g x = g y → x = y) (mix : ∀ x y, SeqAt.noMix (g x) (g y) = true) (x : α) (xs : List α) : ((xs.map g).any fun y => PyData.eqv y (g x)) = decide (x ∈ xs) := by
  rw [← any_map inj x xs, List.any_map, List.any_map]
  congr 1
  funext y
  exact (same_eq_eqv _ _ (mix y x)).symm
theorem cok_in_strs {a : Addr} {x : Str} {ss : List Str} (e : H a = some (.list (strsV ss))) (q : Q (.bool (decide (x ∈ ss))) H) : COK C .In (.str x) (.loc a) ρ H Q := by
  intro u u' hu hu' A s hA R
  obtain ⟨as, r, c⟩ := reads_str (h := s.heap) x u hu
  obtain ⟨bs, r', c'⟩ := reads_list (g := PyData.str) (fun h => reads_str) R e hu'
  refine SeqAt.in_list_reads r' r c' c ?_ (Done.v R rfl ?_ s.toks)
  · have := hA.unit; have : (PyData.str x).depth = 0 := rfl; show _ < 9900; omega
  · rw [any_flat (fun _ _ e => PyData.str.inj e) fun _ _ => rfl]; exact q
theorem cok_notin_strs {a : Addr} {x : Str} {ss : List Str} (e : H a = some (.list (strsV ss))) (q : Q (.bool (!decide (x ∈ ss))) H) : COK C .NotIn (.str x) (.loc a) ρ H Q := by
  intro u u' hu hu' A s hA R
  obtain ⟨as, r, c⟩ := reads_str (h := s.heap) x u hu
  obtain ⟨bs, r', c'⟩ := reads_list (g := PyData.str) (fun h => reads_str) R e hu'
  refine SeqAt.notIn_list_reads r' r c' c ?_ (Done.v R rfl ?_ s.toks)
  · have := hA.unit; have : (PyData.str x).depth = 0 := rfl; show _ < 9900; omega
  · rw [any_flat (fun _ _ e => PyData.str.inj e) fun _ _ => rfl]; exact q
theorem cok_in_ints {a : Addr} {x : Int} {ns : List Int} (e : H a = some (.list (intsV ns))) (q : Q (.bool (decide (x ∈ ns))) H) : COK C .In (.int x) (.loc a) ρ H Q := by
  intro u u' hu hu' A s hA R
  obtain ⟨as, r, c⟩ := reads_int (h := s.heap) x u hu
  obtain ⟨bs, r', c'⟩ := reads_list (g := PyData.int) (fun h => reads_int) R e hu'
  refine SeqAt.in_list_reads r' r c' c ?_ (Done.v R rfl ?_ s.toks)
  · have := hA.unit; have : (PyData.int x).depth = 0 := rfl; show _ < 9900; omega
  · rw [any_flat (fun _ _ e => PyData.int.inj e) fun _ _ => rfl]; exact q
theorem list_inj {α : Type} {g : α → PyData} (inj : ∀ x y, g x = g y → x = y) {xs ys : List α} : (PyData.list (xs.map g) = PyData.list (ys.map g)) ↔ xs = ys :=
  ⟨fun h => (List.map_inj_right inj).mp (PyData.list.inj h), fun h => h ▸ rfl⟩
theorem strs_inj {ss ss' : List Str} : (PyData.list (ss.map PyData.str) = PyData.list (ss'.map PyData.str)) ↔ ss = ss' := list_inj fun _ _ e => PyData.str.inj e
theorem noMix_strs : ∀ xs ys : List Str, SeqAt.noMixAll (xs.map PyData.str) (ys.map PyData.str) = true := by
  intro xs
  induction xs with
  | nil => intro ys; cases ys <;> rfl
  | cons x xs ih =>
    intro ys
    cases ys with
    | nil => rfl
    | cons y ys =>
      have h := ih ys
      show (SeqAt.noMix (.str x) (.str y) && SeqAt.noMixAll (xs.map PyData.str) (ys.map PyData.str)) = true
      rw [h]; rfl
theorem depth_strs : ∀ xs : List Str, PyData.depthAll (xs.map PyData.str) ≤ 0 := by
  intro xs
  induction xs with
  | nil => exact Nat.zero_le _
  | cons x xs ih => exact Nat.max_le.mpr ⟨Nat.le_refl 0, ih⟩
theorem cok_ne_strs {a b : Addr} {ss ss' : List Str} (e : H a = some (.list (strsV ss))) (e' : H b = some (.list (strsV ss'))) (q : Q (.bool (!decide (ss = ss'))) H) : COK C .NotEq (.loc a) (.loc b) ρ H Q := by
  intro u u' hu hu' A s hA R
  obtain ⟨as, r, c⟩ := reads_list (g := PyData.str) (fun h => reads_str) R e hu
  obtain ⟨bs, r', c'⟩ := reads_list (g := PyData.str) (fun h => reads_str) R e' hu'
  have d1 : (PyData.list (ss.map PyData.str)).depth ≤ 64 := Nat.le_trans (Nat.succ_le_succ (depth_strs ss)) (by decide)
  have d2 : (PyData.list (ss'.map PyData.str)).depth ≤ 64 := Nat.le_trans (Nat.succ_le_succ (depth_strs ss')) (by decide)
  refine ne_dataH_same r r' ?_ ?_ ?_ (by rw [SeqAt.noMix]; exact noMix_strs ss ss') (Done.v R rfl (by rw [same_dec strs_inj]; exact q) s.toks)
  · simp [SeqAt.shaped, c, d1]
  · simp [SeqAt.shaped, c', d2]
  · have := hA.unit; show _ < 9900; omega
end
end Mine
end
section
set_option maxRecDepth 100000
set_option Elab.async false
set_option linter.unusedVariables false
namespace Mine
open PySem PySem.Spec PyProof.Rows PySem.SeqAt
section
variable {C : Cx} {ρ : EV} {H H' : HV} {A : Around} {s : Shared} {Q : V → HV → Prop}
theorem slice_core {env : Env} {prog : Program} {w : World} {E : Value → Shared → Prop} {value : Expr} {lower upper : Option Expr} {p pos : Pos} {Q : Value → Shared → Prop}
    (h : wpAny (model prog w) A (eval value env) (fun o s₁ => wpAny (model prog w) A (evalPart lower env) (fun vl s₂ => wpAny (model prog w) A (evalPart upper env) (fun vu s₃ =>
      ∃ l items lo hi, o = .ref l ∧ s₃.heap.IsList l items ∧ items.size ≤ sizeLine ∧ IsPart vl lo ∧ IsPart vu hi ∧
        Q (.ref (s₃.heap.objs.size + 1)) { s₃ with heap := (s₃.heap.push { cls := .type "slice", data := .fields #[vl, vu, .none] }).push { cls := .type "list", data := .seq (slicePick items lo hi none) } }) E s₂) E s₁) E s) :
    wpAny (model prog w) A (eval (.Subscript value (.Slice lower upper none p) pos) env) Q E s := by
  refine Subscript_ (wpAny_mono h (fun o s₁ h₁ => wpAny_Slice (wpAny_mono h₁ (fun vl s₂ h₂ => wpAny_mono h₂ (fun vu s₃ h₃ => ?_) fun _ _ e => e) fun _ _ e => e)) fun _ _ e => e)
  obtain ⟨l, items, lo, hi, rfl, hl, hsz, pl, pu, hQ⟩ := h₃
  rw [evalPart_none]
  refine wpAny_pure (tail_any (hl.push _).typeIs list_getitem_lookup (wpAny_getItem_list_slice (hl.push _) (Heap.IsSliceOf.new ..) pl pu .none (by simp) ?_ hsz) rfl)
  rw [Heap.size_push]
  exact hQ
theorem slice_fin {l : Addr} {its : List Value} {vs : List V} {pick : Array Value} {vl vu : Value} (R : Rel C ρ H s.heap) {out : List V} (hp : ValsAre pick.toList out) (hz : out.length ≤ 1048576) (q : ∀ b, C.lo ≤ b → H b = Option.none → Q (.loc b) (upd H b (.list out))) :
    Done C isV ρ H s Q (.ref (s.heap.objs.size + 1)) { s with heap := (s.heap.push { cls := .type "slice", data := .fields #[vl, vu, .none] }).push { cls := .type "list", data := .seq pick } } := by
  refine Done.new (o := .list out) R (fun _ _ e => Heap.get?_push_of_some _ (Heap.get?_push_of_some _ e)) (Nat.le_succ _) ?_ q s.toks
  refine ⟨pick.toList, ⟨0, ?_⟩, hp, hz⟩
  have key : ∀ (hh : Heap) (n : Nat), hh.objs.size = n → (hh.push { cls := .type "list", data := .seq pick }).get? n = some { cls := .type "list", data := .seq pick.toList.toArray } := by
    rintro hh n rfl
    exact Heap.get?_push_size _ rfl
  exact key _ _ (Heap.size_push ..)
theorem ev_SliceFrom {value e : Expr} {p pos : Pos} (h : Ev C value ρ H fun v H₁ => Ev C e ρ H₁ fun i H₂ => ∃ a vs, ∃ n : Int, v = .loc a ∧ i = .int n ∧ 0 ≤ n ∧ H₂ a = some (.list vs) ∧ ∀ b, C.lo ≤ b → H₂ b = Option.none → Q (.loc b) (upd H₂ b (.list (vs.drop n.toNat)))) :
    Ev C (.Subscript value (.Slice (some e) none none p) pos) ρ H Q := by
  intro A s hA R
  refine slice_core (h.use hA R fun u v s₁ H₁ a K R₁ G q => evalPart_some_step (q.use hA R₁ fun u' v' s₂ H₂ a' K' R₂ G' q' => evalPart_none_step ?_))
  obtain ⟨l, vs, n, rfl, rfl, h0, e, q⟩ := q'
  cases isV_loc a
  obtain ⟨t, rfl⟩ := isV_int a'
  obtain ⟨its, hl, hx, hz⟩ := R₂.view l _ e
  obtain ⟨k, rfl⟩ := Int.eq_ofNat_of_zero_le h0
  refine ⟨l, _, some (k : Int), Option.none, rfl, hl.isList, few hx hz, .int _ _, .none, ?_⟩
  exact ((slice_fin (l := l) (its := its) (vs := vs) R₂ (by rw [slicePick_from']; simpa using hx.drop k) (by simp; omega) q).trans K' G').trans K G
theorem strsAre_of {us : List Value} : ∀ {ss : List Str}, ValsAre us (strsV ss) → StrsAre us ss ∧ ∀ x ∈ ss, PyData.strOk x = true := by
  induction us with
  | nil => intro ss h; cases ss with | nil => exact ⟨by constructor, fun _ h => (nomatch h)⟩ | cons _ _ => cases h
  | cons u us ih =>
    intro ss h
    cases ss with
    | nil => cases h
    | cons x ss =>
      cases h with
      | cons a b =>
        obtain ⟨t, rfl, ok⟩ := isV_str a
        obtain ⟨h1, h2⟩ := ih b
        refine ⟨?_, fun y hy => ?_⟩
        · first | exact .cons h1 | exact .cons _ h1 | exact StrsAre.cons _ _ h1 | exact ⟨t, rfl, h1⟩ | exact ⟨⟨t, rfl⟩, h1⟩
        · cases hy with
          | head => exact ok
          | tail _ hy => exact h2 y hy
theorem valsAre_of {us : List Value} : ∀ {ss : List Str}, StrsAre us ss → (∀ x ∈ ss, PyData.strOk x = true) → ValsAre us (strsV ss) := by
  induction us with
  | nil => intro ss h _; cases ss with | nil => exact .nil | cons _ _ => cases h
  | cons u us ih =>
    intro ss h ok
    cases ss with
    | nil => cases h
    | cons x ss =>
      cases h with
      | cons _ t h => exact .cons (abs_str (ok x (List.mem_cons_self ..))) (ih h fun y hy => ok y (List.mem_cons_of_mem _ hy))
theorem vc_sorted_strs {a : Addr} {ss : List Str} (e : H a = some (.list (strsV ss))) (h64 : ss.length < 64)
    (q : ∀ ss', ss'.Perm ss → sortedS ss' = true → ∀ b, C.lo ≤ b → H b = Option.none → Q (.loc b) (upd H b (.list (strsV ss')))) : VCall C (.builtin "sorted") [.loc a] ρ H Q := by
  intro us hus A s hA R
  cases hus with
  | cons x r =>
    cases r
    cases isV_loc x
    obtain ⟨its, hl, hx, hz⟩ := R.view a _ e
    obtain ⟨hS, ok⟩ := strsAre_of hx
    refine sorted_strs hl.isList hS (by rw [hx.length]; simpa using h64) fun out ss' h1 h2 h3 => ?_
    refine Done.new (o := .list (strsV ss')) R (fun _ _ e => sortedAll_old e) (Nat.le_succ _) ?_ (q ss' h2 h3) s.toks
    obtain ⟨c, hc⟩ := sortedAll_at s.heap its out
    refine ⟨out.toList, ⟨c, by simpa using hc⟩, valsAre_of h1 fun y hy => ok y (h2.mem_iff.mp hy), ?_⟩
    have := h2.length_eq
    simp; omega
end
end Mine
end
section
set_option maxRecDepth 100000
set_option Elab.async false
set_option linter.unusedVariables false
namespace Mine
open PySem PySem.Spec PyProof.Rows
/-! plain laws: first occurrences, rising lists -/
noncomputable def dstep (u : List Str) (x : Str) : List Str := if x ∈ u then u else u ++ [x]
noncomputable def dd (xs : List Str) : List Str := xs.foldl dstep []
theorem dd_snoc (xs : List Str) (x : Str) : dd (xs ++ [x]) = dstep (dd xs) x := by unfold dd; rw [List.foldl_append]; rfl
theorem dd_take {l : List Str} {i : Nat} {x : Str} (h : l[i]? = some x) : dd (l.take (i + 1)) = dstep (dd (l.take i)) x := by
  rw [List.take_add_one, h]; exact dd_snoc _ _
theorem dstep_nodup {u : List Str} (h : u.Nodup) (x : Str) : (dstep u x).Nodup := by
  unfold dstep
  split
  · exact h
  · rename_i hx
    rw [List.nodup_append]
    refine ⟨h, by simp, fun a ha b hb => ?_⟩
    rw [List.mem_singleton] at hb
    subst hb
    rintro rfl; exact hx ha
theorem mem_dstep {u : List Str} {x y : Str} : y ∈ dstep u x ↔ y ∈ u ∨ y = x := by
  unfold dstep
  split
  · rename_i hx
    constructor
    · exact .inl
    · rintro (h | rfl)
      · exact h
      · exact hx
  · simp
theorem fold_nodup : ∀ (xs u : List Str), u.Nodup → (xs.foldl dstep u).Nodup
  | [], _, h => h
  | x :: xs, u, h => fold_nodup xs _ (dstep_nodup h x)
theorem mem_fold : ∀ (xs u : List Str) (y : Str), y ∈ xs.foldl dstep u ↔ y ∈ u ∨ y ∈ xs
  | [], u, y => by simp
  | x :: xs, u, y => by
    rw [List.foldl_cons, mem_fold xs _ y, mem_dstep, List.mem_cons, or_assoc]
theorem dd_nodup (xs : List Str) : (dd xs).Nodup := fold_nodup xs [] (by simp)
theorem mem_dd {xs : List Str} {y : Str} : y ∈ dd xs ↔ y ∈ xs := by unfold dd; rw [mem_fold]; simp
theorem dstep_length (u : List Str) (x : Str) : (dstep u x).length ≤ u.length + 1 := by unfold dstep; split <;> simp
theorem fold_length : ∀ (xs u : List Str), (xs.foldl dstep u).length ≤ u.length + xs.length
  | [], u => by simp
  | x :: xs, u => by
    have h1 := fold_length xs (dstep u x)
    have h2 := dstep_length u x
    rw [List.foldl_cons, List.length_cons]; omega
theorem dd_length (xs : List Str) : (dd xs).length ≤ xs.length := by have := fold_length xs []; unfold dd; simpa using this
noncomputable def ltS (x y : Str) : Prop := x.cps.toList < y.cps.toList
theorem str_ext {x y : Str} (h : x.cps.toList = y.cps.toList) : x = y := by
  obtain ⟨a⟩ := x; obtain ⟨b⟩ := y
  have : a = b := Array.toList_inj.mp h
  subst this; rfl
theorem ltS_trans_not {a b c : Str} (h1 : ¬ ltS b a) (h2 : ¬ ltS c b) : ¬ ltS c a := by
  unfold ltS at *
  rw [List.not_lt] at *
  exact List.le_trans h1 h2
theorem rising_pairwise : ∀ (p : Str) (l : List Str), risingS p l = true → (p :: l).Pairwise (fun a b => ¬ ltS b a)
  | p, [], _ => by simp
  | p, x :: r, h => by
    have h' : ltCps x.cps.toList p.cps.toList = false ∧ risingS x r = true := by simpa [risingS] using h
    have ih := rising_pairwise x r h'.2
    have hx : ¬ ltS x p := by
      have := h'.1; rw [ltCps_eq, decide_eq_false_iff_not] at this; exact this
    refine List.pairwise_cons.mpr ⟨fun y hy => ?_, ih⟩
    rcases List.mem_cons.mp hy with rfl | hy
    · exact hx
    · exact ltS_trans_not hx ((List.pairwise_cons.mp ih).1 y hy)
theorem sorted_pairwise {l : List Str} (h : sortedS l = true) : l.Pairwise (fun a b => ¬ ltS b a) := by
  cases l with
  | nil => exact .nil
  | cons p l => exact rising_pairwise p l h
/-! the heap's view -/
theorem le_upd {H : HV} {b : Addr} {o : AO} (h : H b = none) : H.le (upd H b o) := fun a o' e => by
  unfold upd
  split
  · rename_i q; subst q; rw [h] at e; cases e
  · exact e
theorem HV.le_refl (H : HV) : H.le H := fun _ _ e => e
theorem HV.le.trans {H H' H'' : HV} (a : H.le H') (b : H'.le H'') : H.le H'' := fun x o e => b x o (a x o e)
theorem upd_at (H : HV) (b : Addr) (o : AO) : upd H b o b = some o := by simp [upd]
theorem upd_ne (H : HV) {a b : Addr} (o : AO) (h : a ≠ b) : upd H b o a = H a := by simp [upd, h]
theorem ne_of_new {H : HV} {a b : Addr} {o : AO} (e : H a = some o) (n : H b = none) : a ≠ b := by rintro rfl; rw [e] at n; cases n
theorem upd_old {H : HV} {a b : Addr} {o o' : AO} (e : H a = some o) (n : H b = none) : upd H b o' a = some o := by rw [upd_ne _ _ (ne_of_new e n)]; exact e
/-- a statement, then the rest, with a word between -/
theorem exs_mid {C : Cx} {st : Stmt} {rest : List Stmt} {ρ : EV} {H : HV} {Q : Fl → EV → HV → Prop} (P : EV → HV → Prop) (h : Ex C st ρ H fun fl ρ₁ H₁ => match fl with | .next => P ρ₁ H₁ | fl => Q fl ρ₁ H₁)
    (k : ∀ ρ₁ H₁, P ρ₁ H₁ → Exs C rest ρ₁ H₁ Q) : Exs C (st :: rest) ρ H Q :=
  exs_cons (fun A s hA R => wpAny_mono (h A s hA R) (fun f s' ⟨fl, ρ', H', a, b, c, d⟩ => ⟨fl, ρ', H', a, b, c, by cases fl <;> first | exact k _ _ d | exact d⟩) fun _ _ e => e)
end Mine
end
section
set_option maxRecDepth 100000
set_option Elab.async false
set_option linter.unusedVariables false
namespace Mine
open PySem PySem.Spec PyProof.Rows
open PySem.W (Frag Frag.In nsIn mg_of mg_none_of GoodWG ClaimW WData ReadsW Well WellAll ofPy)
theorem ValsAre.inj {us : List Value} {vs ws : List V} (h : ValsAre us vs) (k : ValsAre us ws) : vs = ws := by
  induction h generalizing ws with
  | nil => cases k; rfl
  | cons a _ ih =>
    cases k with
    | cons b r =>
      rw [a] at b; cases b; rw [ih r]
theorem objIs_inj {prog : Program} {w : World} {h : Heap} {a : Addr} {vs : List V} {o : AO} (x : ObjIs prog w h a (.list vs)) (y : ObjIs prog w h a o) : o = .list vs := by
  obtain ⟨its, ⟨n, e⟩, hv, _⟩ := x
  cases o with
  | list ws =>
    obtain ⟨its', ⟨n', e'⟩, hw, _⟩ := y
    rw [e] at e'
    have he : its = its' := by
      have := Option.some.inj e'
      injection this with _ _ hd _
      injection hd with hd _
      simpa using congrArg Array.toList hd
    subst he
    rw [hv.inj hw]
  | tuple ws =>
    obtain ⟨its', ⟨o', e', hc, r⟩, _⟩ := y
    rw [e] at e'; cases e'
    exact absurd hc (by intro h; injection h with h; exact absurd h (by decide))
  | dict ws =>
    obtain ⟨its', ⟨o', es, ep, e', r⟩, _⟩ := y
    rw [e] at e'; cases e'
    obtain ⟨_, hd, _⟩ := r; cases hd
theorem lk_mem {b : Addr} {o : AO} : ∀ {l : List (Addr × AO)}, l.lookup b = some o → (b, o) ∈ l
  | [], h => by cases h
  | (c, p) :: l, h => by
    rw [List.lookup_cons] at h
    split at h
    · rename_i e
      cases h
      rw [beq_iff_eq] at e; subst e
      exact List.mem_cons_self ..
    · exact List.mem_cons_of_mem _ (lk_mem h)
theorem lk_of {q : Addr × AO} : ∀ {l : List (Addr × AO)}, (l.map (·.1)).Nodup → q ∈ l → l.lookup q.1 = some q.2
  | [], _, h => by cases h
  | (c, p) :: l, nd, h => by
    rw [List.lookup_cons]
    rw [List.map_cons, List.nodup_cons] at nd
    rcases List.mem_cons.mp h with rfl | hm
    · simp
    · have : q.1 ≠ c := fun e => nd.1 (e ▸ List.mem_map_of_mem (f := (·.1)) hm)
      have e : (q.1 == c) = false := beq_eq_false_iff_ne.mpr this
      rw [e]
      exact lk_of nd.2 hm
/-- a law's call, from what the head leaves -/
theorem law_top {K : Params → Frag} {prog p : Program} {w : World} {s : Shared} {loose : List Str} {mean : ExcName → Option Value} {mg mb : Str → Option Value} {fa la : Addr} {v : Value} {ns : List Int} {c : ClaimW} {cl : Str → Option Addr} {mean' : ExcName → Option Value} {args : List WData} {fd : FuncData}
    (T : Top p loose mean mg mb s.heap) (hi : importsNone p = true) (KX : (K w.params).In s.heap) (W : Well w.params s.heap v (ofPy (.list (ns.map .int)))) (hf : mg "law" = some (.ref fa)) (hn : nsIn (K w.params) mainGlobals "law" = some (some (.ref la))) (hl : ns.length ≤ 63)
    (F : ∀ C : Cx, C.w = w → Gd K C → Fn C la ["script"] (bodyAt (K w.params) la) (namesAt (K w.params) la) fd) (gl : List (Addr × AO)) (hgl : ∀ q ∈ gl, ObjIs prog w s.heap q.1 q.2) (hnd : (gl.map (·.1)).Nodup) (h1 : ∀ q ∈ gl, q.1 ≠ 1) (hne : ∀ q ∈ gl, ∀ ns, q.2 ≠ .list (intsV ns))
    (hr : ∀ cls, c.raises args cls = false) (hp : c.post args (.bool true) args = true) (hg : s.gens = #[])
    (h : ∀ C : Cx, Gd K C → C.w = w → C.k = 50 → C.B = s.heap → ∀ (H : HV) (a : Addr), H a = some (.list (intsV ns)) → (∀ q ∈ gl, H q.1 = some q.2) → FCall C ["script"] (bodyAt (K w.params) la) (namesAt (K w.params) la) [.loc a] H (fun v _ => v = .bool true)) :
    wpAny (model prog w) callerA (call (.ref fa) [v]) (fun v s' => GoodWG c cl mean' args s (.ok (.ret v)) s') (fun e s' => GoodWG c cl mean' args s (.error e) s') s := by
  obtain ⟨a, vs, rfl, hpl, hv⟩ := law_arg W
  have e := mg_of KX T.g hn
  rw [hf] at e
  cases e
  obtain ⟨mm, hsys, _⟩ := (T.seer hi).mods
  obtain ⟨so, ses, sep, hso, hsd, _⟩ := hsys
  have oa : ObjIs prog w s.heap a (.list (intsV ns)) := ⟨vs, hpl, hv, by simp; omega⟩
  let C : Cx := ⟨prog, w, s.heap, default, s.heap.objs.size, [], 50⟩
  have G : Gd K C := ⟨KX, ⟨mg, T.g⟩, ⟨mb, T.b, T.builtins⟩, T.nolimit⟩
  let H : HV := fun b => if b = a then some (.list (intsV ns)) else gl.lookup b
  have ha1 : a ≠ 1 := by
    rintro rfl
    obtain ⟨n, en⟩ := hpl
    rw [show s.heap.get? 1 = some so from hso] at en
    cases en; cases hsd
  have hH : ∀ q ∈ gl, H q.1 = some q.2 := by
    intro q hq
    have : q.1 ≠ a := by
      intro e
      have o := hgl q hq
      rw [e] at o
      exact hne q hq ns (objIs_inj oa o)
    show (if q.1 = a then _ else gl.lookup q.1) = _
    rw [if_neg this]
    exact lk_of hnd hq
  obtain ⟨_, hlen, hx⟩ := h C G rfl rfl rfl H a (by show (if a = a then _ else _) = _; rw [if_pos rfl]) hH
  refine top_good (C := C) (H := H) hr hp hg rfl rfl (F C rfl G) T.nolimit (.cons rfl .nil) rfl ?_ ⟨?_, ⟨so, hso⟩⟩ hx
  · intro b o e
    have e : (if b = a then some (AO.list (intsV ns)) else gl.lookup b) = some o := e
    split at e
    · rename_i hb; cases e; subst hb; exact oa
    · exact hgl (b, o) (lk_mem e)
  · show (if (1 : Nat) = a then _ else gl.lookup 1) = none
    rw [if_neg (Ne.symm ha1)]
    cases e : gl.lookup (1 : Nat) with
    | none => rfl
    | some o => exact absurd rfl (h1 _ (lk_mem e))
end Mine
end
section
set_option maxRecDepth 100000
set_option Elab.async false
set_option linter.unusedVariables false
namespace Mine
open PySem PySem.Spec PyProof.Rows PySem.SeqAt
section
variable {C : Cx} {ρ : EV} {H H' : HV} {A : Around} {s : Shared} {Q : V → HV → Prop}
end
end Mine
end
section
set_option maxRecDepth 100000
set_option Elab.async false
set_option linter.unusedVariables false
namespace Mine
open PySem PySem.Spec PyProof.Rows PySem.SeqAt
section
variable {C : Cx} {ρ : EV} {H H' : HV} {A : Around} {s : Shared} {Q : V → HV → Prop}
/-- a method of a text, with one argument -/
theorem ev_MethS {o elt : Expr} {name : Str} {id : String} {apos pos : Pos} (slot : Slot "str" name id) (hty : typeOf (.builtin id) = pure (.type "method_descriptor"))
    (h : Ev C o ρ H fun a H₁ => ∃ x, a = .str x ∧ Ev C elt ρ H₁ fun v H₂ => VCall C (.builtin id) [.str x, v] ρ H₂ Q)
    (hbase : ∀ env, attributeBase o name env (eval o env) = eval o env := by intro _; rfl)
    (hfew : ∀ env, ((backTo pos (starEach [elt] env)).all (fun x => !x.1) && (backToKw pos (keywordEach [] env)).all (fun x => x.1.isSome)
      && decide (([elt] : List Expr).length + ([] : List Keyword).length + (if ([] : List Keyword).isEmpty then 0 else 1) < 30)) = true := by intro _; rfl)
    (hline : (apos.endLine == pos.line) = true := by rfl)
    (htrees : ∀ env, backTo pos (starEach [elt] env) = [(false, eval elt env)] := by intro _; rfl) :
    Ev C (.Call (.Attribute o name apos) [elt] [] pos) ρ H Q := by
  intro A s hA R
  refine wpAny_Call_method (hbase _) (hfew _) hline F.plainAttrs_str slot hty (h.use hA R fun u v s₁ H₁ a K R₁ G q => ?_)
  obtain ⟨x, rfl, q⟩ := q
  have a' := a
  obtain ⟨t, rfl, ok⟩ := isV_str a
  refine ⟨typeIs_str _ _ _, (fun _ e => nomatch e), ?_⟩
  rw [htrees]
  refine Calls.callWith_builtin rfl (Calls.evalArgs_plain (Calls.spliced_cons (q.use hA R₁ fun u' v' s₂ H₂ b K' R₂ G' q' => Calls.spliced_nil ?_)))
  exact wpAny_mono (q' _ (.cons a' (.cons b .nil)) A s₂ hA R₂) (fun _ _ d => (d.trans K' G').trans K G) fun _ _ e => e
theorem strOk_iff {x : Str} : PyData.strOk x = true ↔ ∀ c ∈ x.cps.toList, c < 0x110000 := by
  unfold PyData.strOk
  rw [Array.all_eq_true']
  simp [Array.mem_toList_iff]
theorem split_ok {x y : Str} (hx : PyData.strOk x = true) : ∀ p ∈ Txt.split x y, PyData.strOk p = true := by
  intro p hp
  rw [strOk_iff] at hx ⊢
  intro c hc
  refine hx c ?_
  have := StrLaws.join_split x y
  rw [← this]
  clear this hx
  revert hp
  generalize Txt.split x y = l
  intro hp
  have key : ∀ l : List Str, p ∈ l → c ∈ (Str.join y l).cps.toList := by
    intro l
    induction l with
    | nil => intro h; cases h
    | cons a r ih =>
      intro h
      cases r with
      | nil =>
        rw [List.mem_singleton] at h; subst h; exact hc
      | cons b r =>
        show c ∈ (a ++ y ++ Str.join y (b :: r)).cps.toList
        have e : (a ++ y ++ Str.join y (b :: r)).cps.toList = a.cps.toList ++ y.cps.toList ++ (Str.join y (b :: r)).cps.toList := by
          show (a.cps ++ y.cps ++ (Str.join y (b :: r)).cps).toList = _
          simp
        rw [e]
        rcases List.mem_cons.mp h with rfl | h
        · simp [hc]
        · have := ih h; simp [this]
  exact key l hp
theorem vc_split {x : Str} {c : Nat} (hz : x.length ≤ 1000000) (q : ∀ b, C.lo ≤ b → H b = Option.none → Q (.loc b) (upd H b (.list (strsV (Txt.split x ⟨#[c]⟩))))) : VCall C (.builtin "str.split") [.str x, .str ⟨#[c]⟩] ρ H Q := by
  intro us hus A s hA R
  cases hus with
  | cons u r =>
    cases r with
    | cons b r =>
      cases r
      obtain ⟨t, rfl, ok⟩ := isV_str u
      obtain ⟨t', rfl, ok'⟩ := isV_str b
      have hlen : (Txt.split x ⟨#[c]⟩).length ≤ 1048576 := by
        have := split_weight x ⟨#[c]⟩ (Nat.le_refl 1)
        omega
      have one : [x] = Txt.split x ⟨#[c]⟩ → Done C isV ρ H s Q (.ref s.heap.objs.size) { s with heap := s.heap.push { cls := .type "list", data := .seq [Value.str x t].toArray } } := fun e => by
        refine Done.new (o := .list (strsV (Txt.split x ⟨#[c]⟩))) R (fun _ _ e => Heap.get?_push_of_some _ e) (Nat.le_refl _) ?_ q s.toks
        rw [← e]
        exact obj_list (C := C) (Heap.get?_push_size _ rfl) (.cons (abs_str ok) .nil) (by show 1 ≤ 1048576; decide)
      cases h1 : (decide (x.length < (⟨#[c]⟩ : Str).length) || decide (Builtin.Str.strKind x < Builtin.Str.strKind ⟨#[c]⟩))
      · cases hf : (Builtin.Str.occurrences x ⟨#[c]⟩ 0 x.length (x.length + 1)).isEmpty
        · have e : Txt.split x ⟨#[c]⟩ = Builtin.Str.partsBetween x (Builtin.Str.occurrences x ⟨#[c]⟩ 0 x.length (x.length + 1)) (⟨#[c]⟩ : Str).length := by
            unfold Txt.split; rw [if_neg (ne_true_of_eq_false h1), if_neg (ne_true_of_eq_false hf)]
          refine call_meets F.slot_str_split (typeIs_str _ _ _) F.entry_str_split (F.args_str_split_2 _ _) (meets_str_split_sep x ⟨#[c]⟩ t t' h1 rfl hf (Nat.le_trans hz (by decide)) (by rw [← e]; exact Nat.le_trans hlen (by decide))) ?_
          show Done C isV ρ H s Q _ _
          refine Done.new (o := .list (strsV (Txt.split x ⟨#[c]⟩))) R (fun _ _ e => Heap.get?_push_of_some _ e) (Nat.le_refl _) ?_ q _
          refine obj_list (C := C) (Heap.get?_push_size _ rfl) ?_ (by simpa using hlen)
          rw [e, strsFrom_eq]
          have oks : ∀ p ∈ Builtin.Str.partsBetween x (Builtin.Str.occurrences x ⟨#[c]⟩ 0 x.length (x.length + 1)) (⟨#[c]⟩ : Str).length, PyData.strOk p = true := fun p hp => split_ok ok p (e ▸ hp)
          revert oks
          generalize Builtin.Str.partsBetween x (Builtin.Str.occurrences x ⟨#[c]⟩ 0 x.length (x.length + 1)) (⟨#[c]⟩ : Str).length = l
          generalize s.toks = k
          intro oks
          induction l generalizing k with
          | nil => exact .nil
          | cons p l ih => exact .cons (abs_str (oks p (List.mem_cons_self ..))) (ih _ fun a ha => oks a (List.mem_cons_of_mem _ ha))
        · have e : [x] = Txt.split x ⟨#[c]⟩ := by unfold Txt.split; rw [if_neg (ne_true_of_eq_false h1), if_pos hf]
          exact call_meets F.slot_str_split (typeIs_str _ _ _) F.entry_str_split (F.args_str_split_2 _ _) (meets_str_split_not_found x ⟨#[c]⟩ t t' h1 rfl hf) (one e)
      · have e : [x] = Txt.split x ⟨#[c]⟩ := by unfold Txt.split; rw [if_pos h1]
        exact call_meets F.slot_str_split (typeIs_str _ _ _) F.entry_str_split (F.args_str_split_2 _ _) (meets_str_split_cannot_occur x ⟨#[c]⟩ t t' h1) (one e)
end
end Mine
end
section
set_option maxRecDepth 100000
set_option Elab.async false
set_option linter.unusedVariables false
namespace Mine
open PySem PySem.Spec PyProof.Rows
/-! a text of words with single blanks between reads back as its words -/
end Mine
end
section
set_option maxRecDepth 100000
set_option Elab.async false
set_option linter.unusedVariables false
namespace Mine
open PySem PySem.Spec PyProof.Rows
/-! grammars in the heap's view -/
abbrev Gram := List (Str × List Str)
inductive RulesAt (H : HV) (P : Addr → Prop) : List Addr → Gram → Prop
  | nil : RulesAt H P [] []
  | cons {t b : Addr} {h : Str} {bd : List Str} {ts : List Addr} {g : Gram} : P t → P b → H t = some (.tuple [.str h, .loc b]) → H b = some (.list (strsV bd)) → RulesAt H P ts g → RulesAt H P (t :: ts) ((h, bd) :: g)
section
variable {H H' : HV} {P P' : Addr → Prop} {ts ts' : List Addr} {g g' : Gram}
theorem RulesAt.length (x : RulesAt H P ts g) : ts.length = g.length := by
  induction x with
  | nil => rfl
  | cons _ _ _ _ _ ih => simp [ih]
theorem RulesAt.imp (x : RulesAt H P ts g) (h : ∀ b o, P b → H b = some o → H' b = some o) (p : ∀ b, P b → P' b) : RulesAt H' P' ts g := by
  induction x with
  | nil => exact .nil
  | cons a b c d _ ih => exact .cons (p _ a) (p _ b) (h _ _ a c) (h _ _ b d) ih
theorem RulesAt.le (x : RulesAt H P ts g) (h : H.le H') : RulesAt H' P ts g := x.imp (fun b o _ e => h b o e) fun _ p => p
theorem RulesAt.append (x : RulesAt H P ts g) (y : RulesAt H P ts' g') : RulesAt H P (ts ++ ts') (g ++ g') := by
  induction x with
  | nil => exact y
  | cons a b c d _ ih => exact .cons a b c d ih
theorem RulesAt.get (x : RulesAt H P ts g) {i : Nat} {h : Str} {bd : List Str} (e : g[i]? = some (h, bd)) : ∃ t b, ts[i]? = some t ∧ P t ∧ P b ∧ H t = some (.tuple [.str h, .loc b]) ∧ H b = some (.list (strsV bd)) := by
  induction x generalizing i with
  | nil => simp at e
  | @cons t b h' bd' ts g p q c d _ ih =>
    cases i with
    | zero => simp at e; obtain ⟨rfl, rfl⟩ := e; exact ⟨t, b, rfl, p, q, c, d⟩
    | succ i => simpa using ih (by simpa using e)
theorem RulesAt.get' (x : RulesAt H P ts g) {i : Nat} {v : V} (e : (ts.map V.loc)[i]? = some v) : ∃ t b h bd, v = .loc t ∧ g[i]? = some (h, bd) ∧ P t ∧ P b ∧ H t = some (.tuple [.str h, .loc b]) ∧ H b = some (.list (strsV bd)) := by
  rw [List.getElem?_map] at e
  obtain ⟨t, ht, rfl⟩ := Option.map_eq_some_iff.mp e
  have hlt : i < g.length := by rw [← x.length]; exact (List.getElem?_eq_some_iff.mp ht).1
  obtain ⟨t', b, h1, h2⟩ := x.get (i := i) (h := g[i].1) (bd := g[i].2) (by simp [hlt])
  rw [ht] at h1; cases h1
  exact ⟨t, b, _, _, rfl, by simp [hlt], h2⟩
/-- the grammar g stands at R -/
noncomputable def GrAt (H : HV) (P : Addr → Prop) (R : Addr) (g : Gram) : Prop := ∃ ts : List Addr, H R = some (.list (ts.map V.loc)) ∧ RulesAt H P ts g
theorem GrAt.le {R : Addr} (x : GrAt H P R g) (h : H.le H') : GrAt H' P R g := let ⟨ts, a, b⟩ := x; ⟨ts, h _ _ a, b.le h⟩
end
/-- a new object, or one turned, leaves what is elsewhere -/
theorem upd_keep {H : HV} {b d : Addr} {o o' : AO} (h : d ≠ b) (e : H d = some o) : upd H b o' d = some o := by rw [upd_ne _ _ h]; exact e
theorem HV.le.none {H H' : HV} (h : H.le H') {b : Addr} (n : H' b = none) : H b = none := by
  cases e : H b with
  | none => rfl
  | some o => rw [h b o e] at n; cases n
theorem rng_get {a : Int} {n i : Nat} {v : V} (h : (Src.rng a n).vals[i]? = some v) : i < n ∧ v = .int (a + i) := by
  have hi : i < n := by
    have := (List.getElem?_eq_some_iff.mp h).1
    simpa [Src.vals] using this
  refine ⟨hi, ?_⟩
  simp [Src.vals, hi] at h; exact h.symm
theorem rng_len (a : Int) (n : Nat) : (Src.rng a n).vals.length = n := by simp [Src.vals]
theorem strs_get {a : Addr} {ss : List Str} {i : Nat} {v : V} (h : (Src.list a (strsV ss)).vals[i]? = some v) : ∃ x, ss[i]? = some x ∧ v = .str x := by
  have h : (strsV ss)[i]? = some v := h
  rw [List.getElem?_map] at h
  obtain ⟨x, hx, rfl⟩ := Option.map_eq_some_iff.mp h
  exact ⟨x, hx, rfl⟩
theorem take_snoc {α : Type} {l : List α} {i : Nat} {x : α} (h : l[i]? = some x) : l.take (i + 1) = l.take i ++ [x] := by rw [List.take_add_one, h]; rfl
end Mine
end
section
set_option maxRecDepth 100000
set_option Elab.async false
set_option linter.unusedVariables false
namespace Mine
open PySem PySem.Spec PyProof.Rows
/-! replaying a derivation, plain -/
end Mine
namespace Mine
open PySem PySem.Spec PyProof.Rows
section
variable {C : Cx} {ρ : EV} {H H' : HV} {A : Around} {s : Shared}
end
theorem ints_get {a : Addr} {ns : List Int} {i : Nat} {v : V} (h : (Src.list a (intsV ns)).vals[i]? = some v) : ∃ x, ns[i]? = some x ∧ v = .int x := by
  have h : (intsV ns)[i]? = some v := h
  rw [List.getElem?_map] at h
  obtain ⟨x, hx, rfl⟩ := Option.map_eq_some_iff.mp h
  exact ⟨x, hx, rfl⟩
theorem le_turn {H H' : HV} {b : Addr} {o : AO} (h : H.le H') (n : H b = none) : H.le (upd H' b o) := fun a o' e => by
  rw [upd_ne _ _ (ne_of_new e n)]; exact h a o' e
end Mine
end
section
set_option maxRecDepth 100000
set_option Elab.async false
set_option linter.unusedVariables false
namespace Mine
open PySem PySem.Spec PyProof.Rows
section
variable {C : Cx} {ρ : EV} {H H' : HV} {A : Around} {s : Shared}
end
end Mine
end
section
set_option maxRecDepth 100000
set_option Elab.async false
set_option linter.unusedVariables false
namespace Mine
open PySem PySem.Spec PyProof.Rows
abbrev boolsV (bs : List Bool) : List V := bs.map V.bool
section
variable {C : Cx} {ρ : EV} {H H' : HV} {A : Around} {s : Shared} {Q : V → HV → Prop}
theorem bools_get {us : List Value} : ∀ {bs : List Bool}, ValsAre us (boolsV bs) → ∀ (i : Nat) (v : Value), us[i]? = some v → ∃ b, v = .bool b ∧ bs[i]? = some b := by
  induction us with
  | nil => intro bs _ i v e; simp at e
  | cons u us ih =>
    intro bs h i v e
    cases bs with
    | nil => cases h
    | cons b bs =>
      cases h with
      | cons a r =>
        cases i with
        | zero => simp at e; subst e; exact ⟨b, isV_bool a, rfl⟩
        | succ i => simpa using ih r i v (by simpa using e)
theorem walk_bools {I a : Addr} {its : List Value} {bs : List Bool} (hx : ValsAre its (boolsV bs)) (A' : Around) : TruthOf C.prog C.w A' (fun i v => its.toArray[i]? = some v) (fun i => bs.getD i false) := by
  intro i v s Q E hP hQ
  have hP : its[i]? = some v := by simpa using hP
  obtain ⟨b, rfl, e⟩ := bools_get hx i v hP
  refine wpAny_truthy_bool ?_
  have hQ : Q (bs.getD i false) s := hQ
  rw [List.getD_eq_getElem?_getD, e] at hQ
  exact hQ
theorem range_all (bs : List Bool) : (List.range bs.length).all (fun i => bs.getD i false) = bs.all id := by
  rw [Bool.eq_iff_iff, List.all_eq_true, List.all_eq_true]
  constructor
  · intro h b hb
    obtain ⟨i, hi, rfl⟩ := List.getElem_of_mem hb
    have := h i (List.mem_range.mpr hi)
    rwa [List.getD_eq_getElem?_getD, List.getElem?_eq_getElem hi] at this
  · intro h i hi
    have hi := List.mem_range.mp hi
    rw [List.getD_eq_getElem?_getD, List.getElem?_eq_getElem hi]
    exact h _ (List.getElem_mem hi)
theorem range_any (bs : List Bool) : (List.range bs.length).any (fun i => bs.getD i false) = bs.any id := by
  rw [Bool.eq_iff_iff, List.any_eq_true, List.any_eq_true]
  constructor
  · rintro ⟨i, hi, h⟩
    have hi := List.mem_range.mp hi
    rw [List.getD_eq_getElem?_getD, List.getElem?_eq_getElem hi] at h
    exact ⟨_, List.getElem_mem hi, h⟩
  · rintro ⟨b, hb, h⟩
    obtain ⟨i, hi, rfl⟩ := List.getElem_of_mem hb
    exact ⟨i, List.mem_range.mpr hi, by rw [List.getD_eq_getElem?_getD, List.getElem?_eq_getElem hi]; exact h⟩
theorem vc_all_bools {a : Addr} {bs : List Bool} (e : H a = some (.list (boolsV bs))) (q : Q (.bool (bs.all id)) H) : VCall C (.builtin "all") [.loc a] ρ H Q := by
  intro us hus A s hA R
  cases hus with
  | cons x r =>
    cases r
    cases isV_loc x
    obtain ⟨its, hl, hx, hz⟩ := R.view a _ e
    have hlen : its.length = bs.length := by rw [hx.length]; simp
    refine call_all_walk (wpAny_pyIter_list hl.isList ?_)
    have kp : ∀ b o, s.heap.get? b = some o → (s.heap.push { cls := .type "list_iterator", data := .fields #[.ref a, .int 0 0] }).get? b = some o := fun b o e => Heap.get?_push_of_some _ e
    obtain ⟨n, ho⟩ := hl
    have hne : a ≠ s.heap.objs.size := Nat.ne_of_lt (Heap.lt_size ho)
    refine ⟨_, _, _, _, _, _, _, rfl, Walks.list (A := A.in1) hA.hd _ a hne its.toArray, ⟨⟨_, Heap.get?_push_size _ rfl, rfl, rfl⟩, ⟨_, kp _ _ ho, rfl, n, rfl⟩⟩, walk_bools (I := a) (a := a) hx _, fun h' tk hk => ?_⟩
    have keep : ∀ b o, s.heap.get? b = some o → h'.get? b = some o := fun b o e => hk b o (by simp; exact Nat.ne_of_lt (Heap.lt_size e)) (kp b o e)
    refine ⟨.bool (bs.all id), H, ?_, kp_of tk keep, R.keep keep, Gr.refl _ _, q⟩
    have : its.toArray.size = bs.length := by simpa using hlen
    rw [this, range_all]; rfl
theorem vc_any_bools {a : Addr} {bs : List Bool} (e : H a = some (.list (boolsV bs))) (q : Q (.bool (bs.any id)) H) : VCall C (.builtin "any") [.loc a] ρ H Q := by
  intro us hus A s hA R
  cases hus with
  | cons x r =>
    cases r
    cases isV_loc x
    obtain ⟨its, hl, hx, hz⟩ := R.view a _ e
    have hlen : its.length = bs.length := by rw [hx.length]; simp
    refine call_any_walk (wpAny_pyIter_list hl.isList ?_)
    have kp : ∀ b o, s.heap.get? b = some o → (s.heap.push { cls := .type "list_iterator", data := .fields #[.ref a, .int 0 0] }).get? b = some o := fun b o e => Heap.get?_push_of_some _ e
    obtain ⟨n, ho⟩ := hl
    have hne : a ≠ s.heap.objs.size := Nat.ne_of_lt (Heap.lt_size ho)
    refine ⟨_, _, _, _, _, _, _, rfl, Walks.list (A := A.in1) hA.hd _ a hne its.toArray, ⟨⟨_, Heap.get?_push_size _ rfl, rfl, rfl⟩, ⟨_, kp _ _ ho, rfl, n, rfl⟩⟩, walk_bools (I := a) (a := a) hx _, fun h' tk hk => ?_⟩
    have keep : ∀ b o, s.heap.get? b = some o → h'.get? b = some o := fun b o e => hk b o (by simp; exact Nat.ne_of_lt (Heap.lt_size e)) (kp b o e)
    refine ⟨.bool (bs.any id), H, ?_, kp_of tk keep, R.keep keep, Gr.refl _ _, q⟩
    have : its.toArray.size = bs.length := by simpa using hlen
    rw [this, range_any]; rfl
end
theorem nodup_sub_len : ∀ {F l : List Str}, F.Nodup → (∀ x ∈ F, x ∈ l) → F.length ≤ l.length
  | [], l, _, _ => by simp
  | x :: F, l, nd, h => by
    rw [List.nodup_cons] at nd
    have hx : x ∈ l := h x (List.mem_cons_self ..)
    have := nodup_sub_len (F := F) (l := l.erase x) nd.2 fun y hy => (List.mem_erase_of_ne (show y ≠ x from fun e => nd.1 (e ▸ hy))).mpr (h y (List.mem_cons_of_mem _ hy))
    rw [List.length_erase_of_mem hx] at this
    have hp : 0 < l.length := List.length_pos_of_mem hx
    rw [List.length_cons]; omega
/-! heads built from what is given -/
inductive Bld (g : Gram) (given : List Str) : Str → Prop
  | mk {h : Str} {bd : List Str} : (h, bd) ∈ g → (∀ s ∈ bd, s ∉ given → Bld g given s) → Bld g given h
noncomputable def closedB (g : Gram) (given F : List Str) : Prop := ∀ h bd, (h, bd) ∈ g → (∀ s ∈ bd, s ∈ given ∨ s ∈ F) → h ∈ F
theorem Bld.sub {g : Gram} {given F : List Str} (hc : closedB g given F) {x : Str} (h : Bld g given x) : x ∈ F := by
  induction h with
  | mk hm _ ih => exact hc _ _ hm fun s hs => (Classical.em (s ∈ given)).imp id (ih s hs)
end Mine
end
section
set_option maxRecDepth 100000
set_option Elab.async false
set_option linter.unusedVariables false
namespace Mine
open PySem PySem.Spec PyProof.Rows
/-! derivations, and the tables of spans, plain -/
mutual
inductive Der (g : Gram) : Str → List Str → Prop
  | tok {s : Str} : s ∉ g.map (·.1) → Der g s [s]
  | rule {h : Str} {bd w : List Str} : (h, bd) ∈ g → DerS g bd w → Der g h w
inductive DerS (g : Gram) : List Str → List Str → Prop
  | nil : DerS g [] []
  | cons {s : Str} {bd u w : List Str} : Der g s u → DerS g bd w → DerS g (s :: bd) (u ++ w)
end
abbrev Tab := Str → Nat → Nat → Bool
noncomputable def metB (tab : Tab) (hs toks : List Str) (s : Str) (ps : List Nat) (j : Nat) : Bool :=
  if s ∈ hs then ps.any (fun i => tab s i j) else decide (0 < j ∧ (j - 1) ∈ ps ∧ toks[j - 1]? = some s)
noncomputable def stepP (tab : Tab) (hs toks : List Str) (s : Str) (ps : List Nat) : List Nat := (List.range (toks.length + 1)).filter (metB tab hs toks s ps)
noncomputable def plAfter (tab : Tab) (hs toks bd : List Str) (ps : List Nat) : List Nat := bd.foldl (fun ps s => stepP tab hs toks s ps) ps
theorem stepP_le {tab : Tab} {hs toks : List Str} {s : Str} {ps : List Nat} {j : Nat} (h : j ∈ stepP tab hs toks s ps) : j ≤ toks.length := by
  have := (List.mem_filter.mp h).1
  rw [List.mem_range] at this; omega
theorem plAfter_le {tab : Tab} {hs toks : List Str} : ∀ {bd : List Str} {ps : List Nat}, (∀ i ∈ ps, i ≤ toks.length) → ∀ j ∈ plAfter tab hs toks bd ps, j ≤ toks.length
  | [], ps, h, j, hj => h j hj
  | s :: bd, ps, h, j, hj => plAfter_le (bd := bd) (ps := stepP tab hs toks s ps) (fun i hi => stepP_le hi) j hj
noncomputable def sg (toks : List Str) (i j : Nat) : List Str := (toks.drop i).take (j - i)
theorem sg_self (toks : List Str) (i : Nat) : sg toks i i = [] := by simp [sg]
theorem sg_split {toks : List Str} {i k j : Nat} (h1 : i ≤ k) (h2 : k ≤ j) : sg toks i j = sg toks i k ++ sg toks k j := by
  unfold sg
  have e : j - i = (k - i) + (j - k) := by omega
  rw [e, List.take_add, List.drop_drop]
  congr 3
  omega
theorem sg_one {toks : List Str} {i : Nat} {s : Str} (h : toks[i]? = some s) : sg toks i (i + 1) = [s] := by
  obtain ⟨hi, e⟩ := List.getElem?_eq_some_iff.mp h
  unfold sg
  rw [List.drop_eq_getElem_cons hi, e]
  simp
noncomputable def soundT (g : Gram) (hs toks : List Str) (tab : Tab) : Prop := ∀ h i j, tab h i j = true → i ≤ j ∧ j ≤ toks.length ∧ Der g h (sg toks i j)
noncomputable def closedT (g : Gram) (hs toks : List Str) (tab : Tab) : Prop := ∀ h bd, (h, bd) ∈ g → ∀ i, i ≤ toks.length → ∀ j ∈ plAfter tab hs toks bd [i], tab h i j = true
theorem metB_sound {g : Gram} {hs toks : List Str} {tab : Tab} (hhs : ∀ s, s ∈ hs ↔ s ∈ g.map (·.1)) (snd : soundT g hs toks tab) {s : Str} {ps : List Nat} {k : Nat} (hk : metB tab hs toks s ps k = true) :
    ∃ i ∈ ps, i ≤ k ∧ Der g s (sg toks i k) := by
  unfold metB at hk
  split at hk
  · rw [List.any_eq_true] at hk
    obtain ⟨i, hi, ht⟩ := hk
    obtain ⟨h1, h2, h3⟩ := snd s i k ht
    exact ⟨i, hi, h1, h3⟩
  · rename_i hs'
    rw [decide_eq_true_iff] at hk
    obtain ⟨h0, h1, h2⟩ := hk
    refine ⟨k - 1, h1, by omega, ?_⟩
    have : k = (k - 1) + 1 := by omega
    rw [this, show (k - 1 + 1 - 1) = k - 1 by omega, sg_one h2]
    exact .tok fun h => hs' ((hhs s).mpr h)
theorem plAfter_sound {g : Gram} {hs toks : List Str} {tab : Tab} (hhs : ∀ s, s ∈ hs ↔ s ∈ g.map (·.1)) (snd : soundT g hs toks tab) : ∀ {bd : List Str} {ps : List Nat} {j : Nat}, j ∈ plAfter tab hs toks bd ps → ∃ i ∈ ps, i ≤ j ∧ DerS g bd (sg toks i j)
  | [], ps, j, hj => ⟨j, hj, Nat.le_refl _, by rw [sg_self]; exact .nil⟩
  | s :: bd, ps, j, hj => by
    obtain ⟨k, hk, hkj, hd⟩ := plAfter_sound hhs snd (bd := bd) (ps := stepP tab hs toks s ps) hj
    obtain ⟨i, hi, hik, hs'⟩ := metB_sound hhs snd (List.mem_filter.mp hk).2
    exact ⟨i, hi, Nat.le_trans hik hkj, by rw [sg_split hik hkj]; exact .cons hs' hd⟩
/-- what a closed table must hold -/
theorem complete_aux {g : Gram} {hs toks : List Str} {tab : Tab} (hhs : ∀ s, s ∈ hs ↔ s ∈ g.map (·.1)) (cl : closedT g hs toks tab) :
    (∀ {s w}, Der g s w → ∀ i, i + w.length ≤ toks.length → sg toks i (i + w.length) = w → (s ∈ hs → tab s i (i + w.length) = true) ∧ ∀ ps, i ∈ ps → i + w.length ∈ stepP tab hs toks s ps) ∧
    (∀ {bd w}, DerS g bd w → ∀ i, i + w.length ≤ toks.length → sg toks i (i + w.length) = w → ∀ ps, i ∈ ps → i + w.length ∈ plAfter tab hs toks bd ps) := by
  have key : ∀ {s w}, (s ∈ hs → ∀ i, i + w.length ≤ toks.length → sg toks i (i + w.length) = w → tab s i (i + w.length) = true) → (s ∉ hs → w = [s]) →
      ∀ i, i + w.length ≤ toks.length → sg toks i (i + w.length) = w → (s ∈ hs → tab s i (i + w.length) = true) ∧ ∀ ps, i ∈ ps → i + w.length ∈ stepP tab hs toks s ps := by
    intro s w h1 h2 i hi he
    refine ⟨fun h => h1 h i hi he, fun ps hp => List.mem_filter.mpr ⟨List.mem_range.mpr (by omega), ?_⟩⟩
    unfold metB
    by_cases hs' : s ∈ hs
    · rw [if_pos hs', List.any_eq_true]
      exact ⟨i, hp, h1 hs' i hi he⟩
    · rw [if_neg hs', decide_eq_true_iff]
      have hw := h2 hs'
      subst hw
      simp only [List.length_singleton] at he hi ⊢
      refine ⟨by omega, by simpa using hp, ?_⟩
      rw [show i + 1 - 1 = i by omega]
      unfold sg at he
      have hlt : i < toks.length := by omega
      rw [show i + 1 - i = 1 by omega, List.drop_eq_getElem_cons hlt] at he
      rw [List.take_succ_cons, List.take_zero] at he
      rw [List.getElem?_eq_getElem hlt, List.head_eq_of_cons_eq he]
  refine ⟨fun {s w} h => ?_, fun {bd w} h => ?_⟩
  · refine Der.rec (motive_1 := fun s w _ => ∀ i, i + w.length ≤ toks.length → sg toks i (i + w.length) = w → (s ∈ hs → tab s i (i + w.length) = true) ∧ ∀ ps, i ∈ ps → i + w.length ∈ stepP tab hs toks s ps)
      (motive_2 := fun bd w _ => ∀ i, i + w.length ≤ toks.length → sg toks i (i + w.length) = w → ∀ ps, i ∈ ps → i + w.length ∈ plAfter tab hs toks bd ps) ?_ ?_ ?_ ?_ h
    · intro s hs'
      exact key (fun h => absurd ((hhs s).mp h) hs') fun _ => rfl
    · intro h bd w hm _ ih
      exact key (fun _ i hi he => cl h bd hm i (by omega) _ (ih i hi he [i] (by simp))) fun hn => absurd ((hhs h).mpr (List.mem_map_of_mem (f := (·.1)) hm)) hn
    · intro i _ _ ps hp; exact hp
    · intro s bd u w _ _ ih1 ih2 i hi he ps hp
      rw [List.length_append] at hi he ⊢
      have hsp : sg toks i (i + (u.length + w.length)) = sg toks i (i + u.length) ++ sg toks (i + u.length) (i + (u.length + w.length)) := sg_split (by omega) (by omega)
      have hl1 : (sg toks i (i + u.length)).length = u.length := by unfold sg; rw [List.length_take, List.length_drop]; omega
      rw [hsp] at he
      obtain ⟨e1, e2⟩ := List.append_inj he hl1
      have h1 := (ih1 i (by omega) e1).2 ps hp
      have h2 := ih2 (i + u.length) (by omega) (by rw [← Nat.add_assoc] at e2; exact e2) _ h1
      rw [← Nat.add_assoc]; exact h2
  · refine DerS.rec (motive_1 := fun s w _ => ∀ i, i + w.length ≤ toks.length → sg toks i (i + w.length) = w → (s ∈ hs → tab s i (i + w.length) = true) ∧ ∀ ps, i ∈ ps → i + w.length ∈ stepP tab hs toks s ps)
      (motive_2 := fun bd w _ => ∀ i, i + w.length ≤ toks.length → sg toks i (i + w.length) = w → ∀ ps, i ∈ ps → i + w.length ∈ plAfter tab hs toks bd ps) ?_ ?_ ?_ ?_ h
    · intro s hs'
      exact key (fun h => absurd ((hhs s).mp h) hs') fun _ => rfl
    · intro h bd w hm _ ih
      exact key (fun _ i hi he => cl h bd hm i (by omega) _ (ih i hi he [i] (by simp))) fun hn => absurd ((hhs h).mpr (List.mem_map_of_mem (f := (·.1)) hm)) hn
    · intro i _ _ ps hp; exact hp
    · intro s bd u w _ _ ih1 ih2 i hi he ps hp
      rw [List.length_append] at hi he ⊢
      have hsp : sg toks i (i + (u.length + w.length)) = sg toks i (i + u.length) ++ sg toks (i + u.length) (i + (u.length + w.length)) := sg_split (by omega) (by omega)
      have hl1 : (sg toks i (i + u.length)).length = u.length := by unfold sg; rw [List.length_take, List.length_drop]; omega
      rw [hsp] at he
      obtain ⟨e1, e2⟩ := List.append_inj he hl1
      have h1 := (ih1 i (by omega) e1).2 ps hp
      have h2 := ih2 (i + u.length) (by omega) (by rw [← Nat.add_assoc] at e2; exact e2) _ h1
      rw [← Nat.add_assoc]; exact h2
/-- a table that is sound and closed tells what a head derives -/
theorem tab_iff {g : Gram} {hs toks : List Str} {tab : Tab} (hhs : ∀ s, s ∈ hs ↔ s ∈ g.map (·.1)) (snd : soundT g hs toks tab) (cl : closedT g hs toks tab) {h : Str} (hh : h ∈ hs) : tab h 0 toks.length = true ↔ Der g h toks := by
  have e : sg toks 0 toks.length = toks := by simp [sg]
  constructor
  · intro ht
    obtain ⟨_, _, hd⟩ := snd h 0 _ ht
    rwa [e] at hd
  · intro hd
    have := ((complete_aux hhs cl).1 hd 0 (by omega) (by rw [Nat.zero_add]; exact e)).1 hh
    rwa [Nat.zero_add] at this
/-! how many entries are false -/
noncomputable def setT (tab : Tab) (h : Str) (i j : Nat) : Tab := fun h' i' j' => if h' = h ∧ i' = i ∧ j' = j then true else tab h' i' j'
noncomputable def triples (hs : List Str) (n : Nat) : List (Str × Nat × Nat) := hs.flatMap fun h => (List.range (n + 1)).flatMap fun i => (List.range (n + 1)).map fun j => (h, i, j)
noncomputable def falses (hs : List Str) (n : Nat) (tab : Tab) : List (Str × Nat × Nat) := (triples hs n).filter fun t => !tab t.1 t.2.1 t.2.2
theorem mem_triples {hs : List Str} {n : Nat} {h : Str} {i j : Nat} : (h, i, j) ∈ triples hs n ↔ h ∈ hs ∧ i ≤ n ∧ j ≤ n := by
  unfold triples
  simp only [List.mem_flatMap, List.mem_map, List.mem_range, Prod.mk.injEq]
  constructor
  · rintro ⟨h', hh, i', hi, j', hj, rfl, rfl, rfl⟩; exact ⟨hh, by omega, by omega⟩
  · rintro ⟨hh, hi, hj⟩; exact ⟨h, hh, i, by omega, j, by omega, rfl, rfl, rfl⟩
theorem falses_set {hs : List Str} {n : Nat} {tab : Tab} {h : Str} {i j : Nat} (hh : h ∈ hs) (hi : i ≤ n) (hj : j ≤ n) (hf : tab h i j = false) : (falses hs n (setT tab h i j)).length < (falses hs n tab).length := by
  have e : falses hs n (setT tab h i j) = (falses hs n tab).filter fun t => decide (t ≠ (h, i, j)) := by
    unfold falses
    rw [List.filter_filter]
    refine List.filter_congr fun t _ => ?_
    obtain ⟨a, b, c⟩ := t
    unfold setT
    by_cases ht : a = h ∧ b = i ∧ c = j
    · rw [if_pos ht]; obtain ⟨rfl, rfl, rfl⟩ := ht; simp
    · rw [if_neg ht]
      have : (a, b, c) ≠ (h, i, j) := fun e => ht (by cases e; exact ⟨rfl, rfl, rfl⟩)
      simp [this]
  rw [e]
  exact List.length_filter_lt_length_iff_exists.mpr ⟨(h, i, j), List.mem_filter.mpr ⟨mem_triples.mpr ⟨hh, hi, hj⟩, by simp [hf]⟩, by simp⟩
end Mine
namespace Mine
open PySem PySem.Spec PyProof.Rows
/-! tables in the heap's view -/
noncomputable def TabIs (H : HV) (T : Addr) (ro : Str → Addr) (rw : Str → Nat → Addr) (hs : List Str) (n : Nat) (tab : Tab) : Prop :=
  H T = some (.dict (hs.map fun h => (h, V.loc (ro h)))) ∧ (∀ h ∈ hs, H (ro h) = some (.list ((List.range (n + 1)).map fun i => V.loc (rw h i)))) ∧
    ∀ h ∈ hs, ∀ i, i ≤ n → H (rw h i) = some (.list (boolsV ((List.range (n + 1)).map fun j => tab h i j)))
theorem TabIs.le {H H' : HV} {T : Addr} {ro : Str → Addr} {rw : Str → Nat → Addr} {hs : List Str} {n : Nat} {tab : Tab} (x : TabIs H T ro rw hs n tab) (h : H.le H') : TabIs H' T ro rw hs n tab :=
  ⟨h _ _ x.1, fun a ha => h _ _ (x.2.1 a ha), fun a ha i hi => h _ _ (x.2.2 a ha i hi)⟩
theorem look_map {hs : List Str} {f : Str → V} {s : Str} : look (hs.map fun h => (h, f h)) s = if s ∈ hs then some (f s) else none := by
  induction hs with
  | nil => simp [look]
  | cons a hs ih =>
    unfold look at ih ⊢
    rw [List.map_cons, List.find?_cons]
    by_cases h : a = s
    · subst h; simp
    · have hd : decide (a = s) = false := decide_eq_false h
      simp only [hd]
      rw [ih]
      have : (s ∈ a :: hs) ↔ s ∈ hs := by
        rw [List.mem_cons]; exact ⟨fun q => q.resolve_left (Ne.symm h), .inr⟩
      simp only [this]
abbrev natsV (ns : List Nat) : List V := intsV (ns.map fun (j : Nat) => (j : Int))
theorem mem_nats {ns : List Nat} {k : Int} : k ∈ ns.map (fun (j : Nat) => (j : Int)) ↔ 0 ≤ k ∧ k.toNat ∈ ns := by
  rw [List.mem_map]
  constructor
  · rintro ⟨j, hj, rfl⟩; exact ⟨by omega, by simpa using hj⟩
  · rintro ⟨h0, hk⟩; exact ⟨k.toNat, hk, by omega⟩
theorem nats_get {a : Addr} {ns : List Nat} {i : Nat} {v : V} (h : (Src.list a (natsV ns)).vals[i]? = some v) : ∃ x : Nat, ns[i]? = some x ∧ v = .int x := by
  obtain ⟨x, hx, rfl⟩ := ints_get h
  rw [List.getElem?_map] at hx
  obtain ⟨y, hy, rfl⟩ := Option.map_eq_some_iff.mp hx
  exact ⟨y, hy, rfl⟩
/-- a step in the tables -/
theorem TabIs.set {H : HV} {T : Addr} {ro : Str → Addr} {rw : Str → Nat → Addr} {hs : List Str} {n : Nat} {tab : Tab} (x : TabIs H T ro rw hs n tab) {h : Str} {i j : Nat} (hh : h ∈ hs) (hi : i ≤ n)
    (inj : ∀ a ∈ hs, ∀ k, k ≤ n → rw a k = rw h i → a = h ∧ k = i) :
    TabIs (upd H (rw h i) (.list ((boolsV ((List.range (n + 1)).map fun j => tab h i j)).set j (.bool true)))) T ro rw hs n (setT tab h i j) := by
  obtain ⟨x1, x2, x3⟩ := x
  have e0 := x3 h hh i hi
  refine ⟨?_, fun a ha => ?_, fun a ha k hk => ?_⟩
  · refine upd_keep (fun e => ?_) x1
    rw [e, e0] at x1; cases x1
  · refine upd_keep (fun e => ?_) (x2 a ha)
    have := x2 a ha
    rw [e, e0] at this
    have := Option.some.inj this
    injection this with this
    have h0 := congrArg (fun l => l[0]?) this
    simp at h0
  · by_cases hk' : rw a k = rw h i
    · obtain ⟨rfl, rfl⟩ := inj a ha k hk hk'
      rw [upd_at]
      congr 2
      apply List.ext_getElem?
      intro m
      by_cases hm : m < n + 1
      · by_cases hmj : m = j
        · subst hmj
          rw [List.getElem?_set_self (by simp; omega), List.getElem?_map, List.getElem?_map, List.getElem?_range hm]
          simp [setT]
        · rw [List.getElem?_set_ne (Ne.symm hmj), List.getElem?_map, List.getElem?_map, List.getElem?_map, List.getElem?_map, List.getElem?_range hm]
          simp [setT, hmj]
      · rw [List.getElem?_eq_none (by simp; omega), List.getElem?_eq_none (by simp; omega)]
    · have : ∀ m, setT tab h i j a k m = tab a k m := fun m => by
        unfold setT
        rw [if_neg]
        rintro ⟨rfl, rfl, _⟩; exact hk' rfl
      simp only [this]
      exact upd_keep hk' (x3 a ha k hk)
end Mine
namespace Mine
open PySem PySem.Spec PyProof.Rows
/-- the rows stand apart, and are the activation's own -/
noncomputable def SepT (H0 : HV) (lo : Nat) (rw : Str → Nat → Addr) (hs : List Str) (n : Nat) : Prop :=
  (∀ a ∈ hs, ∀ i, i ≤ n → lo ≤ rw a i ∧ H0 (rw a i) = none) ∧ ∀ a ∈ hs, ∀ b ∈ hs, ∀ i j, i ≤ n → j ≤ n → rw a i = rw b j → a = b ∧ i = j
theorem store_new {kvs : List (Str × V)} {k : Str} {v : V} (h : look kvs k = none) : store kvs k v = kvs ++ [(k, v)] := by
  unfold store
  rw [if_neg]
  intro ha
  rw [List.any_eq_true] at ha
  obtain ⟨p, hp, he⟩ := ha
  unfold look at h
  rw [Option.map_eq_none_iff, List.find?_eq_none] at h
  exact h p hp he
/-- one more head -/
theorem TabIs.add {H H1 : HV} {T oa : Addr} {ro : Str → Addr} {rw : Str → Nat → Addr} {hs : List Str} {n : Nat} {h : Str} {rows : List Addr} {H0 : HV} {lo : Nat} (x : TabIs H T ro rw hs n (fun _ _ _ => false)) (sp : SepT H0 lo rw hs n) (hn : h ∉ hs) (le : H.le H1)
    (hrl : rows.length = n + 1) (hnd : rows.Nodup) (hr : ∀ r ∈ rows, H1 r = some (.list (boolsV (List.replicate (n + 1) false))) ∧ H r = none ∧ lo ≤ r) (l0 : H0.le H) (no : H1 oa = none) :
    TabIs (upd (upd H1 oa (.list (rows.map V.loc))) T (.dict (hs.map (fun h => (h, V.loc (ro h))) ++ [(h, .loc oa)]))) T (fun y => if y = h then oa else ro y) (fun y i => if y = h then rows.getD i 0 else rw y i) (hs ++ [h]) n (fun _ _ _ => false) ∧
      SepT H0 lo (fun y i => if y = h then rows.getD i 0 else rw y i) (hs ++ [h]) n := by
  obtain ⟨x1, x2, x3⟩ := x
  have ne : ∀ y ∈ hs, y ≠ h := fun y hy e => hn (e ▸ hy)
  have oT : oa ≠ T := (ne_of_new (le _ _ x1) no).symm
  have notT : ∀ {b : Addr} {o : List V}, H1 b = some (.list o) → b ≠ T := fun {b o} e q => by
    rw [q, le _ _ x1] at e; cases e
  have rget : ∀ i, i ≤ n → rows.getD i 0 ∈ rows := fun i hi => by
    rw [List.getD_eq_getElem?_getD, List.getElem?_eq_getElem (by omega)]; exact List.getElem_mem _
  have keep : ∀ {b : Addr} {o : List V}, H1 b = some (.list o) → upd (upd H1 oa (.list (rows.map V.loc))) T (.dict (hs.map (fun h => (h, V.loc (ro h))) ++ [(h, .loc oa)])) b = some (.list o) := fun {b o} e =>
    upd_keep (notT e) (upd_keep (ne_of_new e no) e)
  have bl : boolsV ((List.range (n + 1)).map fun _ => false) = boolsV (List.replicate (n + 1) false) := by
    congr 1
    apply List.ext_getElem
    · simp
    · intro i h1 h2; simp
  refine ⟨⟨?_, fun y hy => ?_, fun y hy i hi => ?_⟩, fun y hy i hi => ?_, fun y hy z hz i j hi hj e => ?_⟩
  · rw [upd_at, List.map_append]
    congr 3
    · refine List.map_congr_left fun y hy => ?_
      dsimp only
      rw [if_neg (ne y hy)]
    · simp
  · rcases List.mem_append.mp hy with hy | hy
    · dsimp only
      simp only [if_neg (ne y hy)]
      exact keep (le _ _ (x2 y hy))
    · rw [List.mem_singleton] at hy; subst hy
      simp only [if_true]
      rw [upd_ne _ _ oT, upd_at]
      congr 2
      apply List.ext_getElem
      · simp [hrl]
      · intro i h1 h2
        simp at h1 h2
        simp [List.getElem?_eq_getElem h1]
  · rcases List.mem_append.mp hy with hy | hy
    · dsimp only
      rw [if_neg (ne y hy)]
      exact keep (le _ _ (x3 y hy i hi))
    · rw [List.mem_singleton] at hy; subst hy
      dsimp only
      rw [if_pos rfl, bl]
      exact keep (hr _ (rget i hi)).1
  · rcases List.mem_append.mp hy with hy | hy
    · dsimp only
      rw [if_neg (ne y hy)]
      exact sp.1 y hy i hi
    · rw [List.mem_singleton] at hy; subst hy
      dsimp only
      rw [if_pos rfl]
      have := hr _ (rget i hi)
      exact ⟨this.2.2, l0.none this.2.1⟩
  · have new : ∀ a ∈ hs, ∀ k, k ≤ n → ∀ m, m ≤ n → rw a k ≠ rows.getD m 0 := fun a ha k hk m hm e => by
      have h1 := x3 a ha k hk
      rw [e, (hr _ (rget m hm)).2.1] at h1; cases h1
    dsimp only at e
    rcases List.mem_append.mp hy with ky | ky <;> rcases List.mem_append.mp hz with kz | kz
    · rw [if_neg (ne y ky), if_neg (ne z kz)] at e
      exact sp.2 y ky z kz i j hi hj e
    · rw [List.mem_singleton] at kz; subst kz
      rw [if_neg (ne y ky), if_pos rfl] at e
      exact absurd e (new y ky i hi j hj)
    · rw [List.mem_singleton] at ky; subst ky
      rw [if_neg (ne z kz), if_pos rfl] at e
      exact absurd e.symm (new z kz j hj i hi)
    · rw [List.mem_singleton] at ky kz; subst ky; subst kz
      refine ⟨rfl, ?_⟩
      rw [if_pos rfl, if_pos rfl, List.getD_eq_getElem?_getD, List.getD_eq_getElem?_getD, List.getElem?_eq_getElem (by omega), List.getElem?_eq_getElem (by omega)] at e
      exact (List.getElem_inj (h₀ := by omega) (h₁ := by omega) hnd).mp e
end Mine
end
section
set_option maxRecDepth 100000
set_option Elab.async false
set_option linter.unusedVariables false
namespace Mine
open PySem PySem.Spec PyProof.Rows
section
variable {C : Cx} {ρ : EV} {H H' : HV} {A : Around} {s : Shared} {Q : V → HV → Prop}
end
end Mine
end
section
set_option maxRecDepth 100000
set_option Elab.async false
set_option linter.unusedVariables false
namespace Mine
open PySem PySem.Spec PyProof.Rows
/-! first sets, plain -/
abbrev Fs := Str → List Str
noncomputable def fosSet (fs : Fs) (hs nul : List Str) : List Str → List Str
  | [] => []
  | s :: r => if s ∈ hs then (if s ∈ nul then fs s ++ fosSet fs hs nul r else fs s) else [s]
noncomputable def fosVan (hs nul : List Str) : List Str → Bool
  | [] => true
  | s :: r => decide (s ∈ hs ∧ s ∈ nul) && fosVan hs nul r
/-- x may begin what h derives -/
inductive Fst (g : Gram) : Str → Str → Prop
  | tok {h : Str} {bd pre suf : List Str} {x : Str} : (h, bd) ∈ g → bd = pre ++ x :: suf → (∀ s ∈ pre, Bld g [] s) → x ∉ g.map (·.1) → Fst g h x
  | sub {h : Str} {bd pre suf : List Str} {s x : Str} : (h, bd) ∈ g → bd = pre ++ s :: suf → (∀ t ∈ pre, Bld g [] t) → Fst g s x → Fst g h x
noncomputable def closedF (g : Gram) (hs nul : List Str) (fs : Fs) : Prop := ∀ h bd, (h, bd) ∈ g → ∀ x ∈ fosSet fs hs nul bd, x ∈ fs h
/-- the dict of first sets in the heap's view -/
noncomputable def FsAt (H : HV) (F : Addr) (fa : Str → Addr) (hs : List Str) (fs : Fs) : Prop := H F = some (.dict (hs.map fun h => (h, V.loc (fa h)))) ∧ ∀ h ∈ hs, H (fa h) = some (.list (strsV (fs h)))
theorem FsAt.le {H H' : HV} {F : Addr} {fa : Str → Addr} {hs : List Str} {fs : Fs} (x : FsAt H F fa hs fs) (h : H.le H') : FsAt H' F fa hs fs := ⟨h _ _ x.1, fun a ha => h _ _ (x.2 a ha)⟩
theorem fos_sound {fs : Fs} {hs nul : List Str} : ∀ {bd : List Str} {x : Str}, x ∈ fosSet fs hs nul bd → ∃ pre s suf, bd = pre ++ s :: suf ∧ (∀ t ∈ pre, t ∈ nul) ∧ ((s ∈ hs ∧ x ∈ fs s) ∨ (s ∉ hs ∧ x = s))
  | [], x, h => by cases h
  | s :: r, x, h => by
    rw [fosSet] at h
    by_cases hs' : s ∈ hs
    · rw [if_pos hs'] at h
      by_cases hn : s ∈ nul
      · rw [if_pos hn, List.mem_append] at h
        rcases h with h | h
        · exact ⟨[], s, r, rfl, by simp, .inl ⟨hs', h⟩⟩
        · obtain ⟨pre, s', suf, rfl, hp, hx⟩ := fos_sound h
          refine ⟨s :: pre, s', suf, rfl, fun t ht => ?_, hx⟩
          rcases List.mem_cons.mp ht with rfl | ht
          · exact hn
          · exact hp t ht
      · rw [if_neg hn] at h
        exact ⟨[], s, r, rfl, by simp, .inl ⟨hs', h⟩⟩
    · rw [if_neg hs', List.mem_singleton] at h
      exact ⟨[], s, r, rfl, by simp, .inr ⟨hs', h⟩⟩
noncomputable def setF {β : Type} (fs : Str → β) (h : Str) (l : β) : Str → β := fun y => if y = h then l else fs y
theorem store_map {hs : List Str} {f : Str → V} {h : Str} {v : V} (hh : h ∈ hs) : store (hs.map fun y => (y, f y)) h v = hs.map fun y => (y, setF f h v y) := by
  unfold store
  rw [if_pos]
  · rw [List.map_map]
    refine List.map_congr_left fun y hy => ?_
    simp only [Function.comp, setF]
    by_cases e : y = h
    · subst e; simp
    · simp [e]
  · rw [List.any_eq_true]
    exact ⟨(h, f h), List.mem_map_of_mem (f := fun y => (y, f y)) hh, by simp⟩
noncomputable def miss (hs U : List Str) (fs : Fs) : List (Str × Str) := (hs.flatMap fun h => U.map fun x => (h, x)).filter fun p => decide (p.2 ∉ fs p.1)
theorem miss_set {hs U : List Str} {fs : Fs} {h x : Str} {l : List Str} (hh : h ∈ hs) (hx : x ∈ U) (hxl : x ∈ l) (hn : x ∉ fs h) (sup : ∀ y ∈ fs h, y ∈ l) : (miss hs U (setF fs h l)).length < (miss hs U fs).length := by
  have e : miss hs U (setF fs h l) = (miss hs U fs).filter fun p => decide (p.2 ∉ setF fs h l p.1) := by
    unfold miss
    rw [List.filter_filter]
    refine List.filter_congr fun p _ => ?_
    obtain ⟨a, b⟩ := p
    by_cases ha : a = h
    · subst ha
      by_cases hb : b ∈ l
      · simp [setF, hb]
      · have : b ∉ fs a := fun q => hb (sup b q)
        simp [setF, hb, this]
    · simp [setF, ha]
  rw [e]
  refine List.length_filter_lt_length_iff_exists.mpr ⟨(h, x), List.mem_filter.mpr ⟨List.mem_flatMap.mpr ⟨h, hh, List.mem_map_of_mem (f := fun x => (h, x)) hx⟩, by simp [hn]⟩, ?_⟩
  simp [setF, hxl]
/-- two rising lists of the same strs, none twice, are one -/
theorem rising_eq {l m : List Str} (hl : sortedS l = true) (hm : sortedS m = true) (nl : l.Nodup) (nm : m.Nodup) (e : ∀ x, x ∈ l ↔ x ∈ m) : l = m := by
  refine List.Perm.eq_of_pairwise (le := fun a b => ¬ ltS b a) (fun a b _ _ h1 h2 => ?_) (sorted_pairwise hl) (sorted_pairwise hm) ((List.perm_ext_iff_of_nodup nl nm).mpr e)
  unfold ltS at h1 h2
  rw [List.not_lt] at h1 h2
  exact str_ext (List.le_antisymm h1 h2)
theorem by0 {P : List Value → Prop} (h : P []) : ∀ vals : List Value, vals.length = 0 → P vals := fun vals e => by rw [List.length_eq_zero_iff.mp e]; exact h
theorem byS {n : Nat} {P : List Value → Prop} (h : ∀ a, ∀ vals : List Value, vals.length = n → P (a :: vals)) : ∀ vals : List Value, vals.length = n + 1 → P vals := fun vals e => by
  obtain ⟨a, r, rfl⟩ := List.exists_cons_of_length_eq_add_one e
  exact h a r (Nat.succ.inj e)
theorem by1 {P : List Value → Prop} (h : ∀ a, P [a]) : ∀ vals : List Value, vals.length = 1 → P vals := byS fun a => by0 (h a)
theorem by2 {P : List Value → Prop} (h : ∀ a b, P [a, b]) : ∀ vals : List Value, vals.length = 2 → P vals := byS fun a => by1 (P := fun l => P (a :: l)) (h a)
theorem by3 {P : List Value → Prop} (h : ∀ a b c, P [a, b, c]) : ∀ vals : List Value, vals.length = 3 → P vals := byS fun a => by2 (P := fun l => P (a :: l)) (h a)
theorem by4 {P : List Value → Prop} (h : ∀ a b c d, P [a, b, c, d]) : ∀ vals : List Value, vals.length = 4 → P vals := byS fun a => by3 (P := fun l => P (a :: l)) (h a)
/-- many things at once -/
structure And3 (p1 p2 p3 : Prop) : Prop where
  a1 : p1
  a2 : p2
  a3 : p3
structure And4 (p1 p2 p3 p4 : Prop) : Prop where
  a1 : p1
  a2 : p2
  a3 : p3
  a4 : p4
structure And5 (p1 p2 p3 p4 p5 : Prop) : Prop where
  a1 : p1
  a2 : p2
  a3 : p3
  a4 : p4
  a5 : p5
structure And6 (p1 p2 p3 p4 p5 p6 : Prop) : Prop where
  a1 : p1
  a2 : p2
  a3 : p3
  a4 : p4
  a5 : p5
  a6 : p6
structure And7 (p1 p2 p3 p4 p5 p6 p7 : Prop) : Prop where
  a1 : p1
  a2 : p2
  a3 : p3
  a4 : p4
  a5 : p5
  a6 : p6
  a7 : p7
structure And8 (p1 p2 p3 p4 p5 p6 p7 p8 : Prop) : Prop where
  a1 : p1
  a2 : p2
  a3 : p3
  a4 : p4
  a5 : p5
  a6 : p6
  a7 : p7
  a8 : p8
structure And9 (p1 p2 p3 p4 p5 p6 p7 p8 p9 : Prop) : Prop where
  a1 : p1
  a2 : p2
  a3 : p3
  a4 : p4
  a5 : p5
  a6 : p6
  a7 : p7
  a8 : p8
  a9 : p9
/-- an invariant under a name -/
theorem loopI {K : (Nat → EV → HV → Prop) → Prop} (B : Nat → EV → HV → Prop) (h : ∀ I : Nat → EV → HV → Prop, (∀ i ρ H, B i ρ H → I i ρ H) → (∀ i ρ H, I i ρ H → B i ρ H) → K I) : ∃ Inv, K Inv := ⟨B, h B (fun _ _ _ x => x) (fun _ _ _ x => x)⟩
theorem whileI {C : Cx} {ρ : EV} {H : HV} {Q : Fl → EV → HV → Prop} {st : Stmt} (B : Nat → EV → HV → Prop) (n : Nat) (h0 : B n ρ H) (h : ∀ I : Nat → EV → HV → Prop, (∀ i ρ H, B i ρ H → I i ρ H) → (∀ i ρ H, I i ρ H → B i ρ H) → I n ρ H → Ex C st ρ H Q) : Ex C st ρ H Q := h B (fun _ _ _ x => x) (fun _ _ _ x => x) h0
theorem midI {C : Cx} {st : Stmt} {ρ : EV} {H : HV} {Q : Fl → EV → HV → Prop} (B : EV → HV → Prop) (h : ∀ P : EV → HV → Prop, (∀ ρ H, B ρ H → P ρ H) → (∀ ρ H, P ρ H → B ρ H) → Ex C st ρ H fun fl ρ₁ H₁ => match fl with | .next => P ρ₁ H₁ | _ => False)
    (k : ∀ ρ₁ H₁, B ρ₁ H₁ → Q .next ρ₁ H₁) : Ex C st ρ H Q :=
  fun A s hA R => wpAny_mono (h B (fun _ _ x => x) (fun _ _ x => x) A s hA R) (fun f s' ⟨fl, ρ', H', a, b, c, d⟩ => ⟨fl, ρ', H', a, b, c, by cases fl <;> first | exact k _ _ d | exact d.elim⟩) fun _ _ e => e
theorem midsI {C : Cx} {st : Stmt} {rest : List Stmt} {ρ : EV} {H : HV} {Q : Fl → EV → HV → Prop} (B : EV → HV → Prop) (h : ∀ P : EV → HV → Prop, (∀ ρ H, B ρ H → P ρ H) → (∀ ρ H, P ρ H → B ρ H) → Ex C st ρ H fun fl ρ₁ H₁ => match fl with | .next => P ρ₁ H₁ | _ => False)
    (k : ∀ ρ₁ H₁, B ρ₁ H₁ → Exs C rest ρ₁ H₁ Q) : Exs C (st :: rest) ρ H Q := exs_cons (midI B h k)
/-- loops without break and return -/
theorem ex_For0 {C : Cx} {ρ : EV} {H : HV} {x : Str} {p pos : Pos} {iter : Expr} {body : List Stmt} {Q : Fl → EV → HV → Prop} (hk : C.nms.lookup x = some .local ∨ C.nms.lookup x = some .cell)
    (h : Its C iter ρ H fun src H₁ => ∃ Inv : Nat → EV → HV → Prop, Inv 0 ρ H₁ ∧
      (∀ i v ρ' H', src.vals[i]? = some v → Inv i ρ' H' → src.Ok H' → Exs C body (put ρ' x v) H' fun fl ρ₂ H₂ => match fl with
        | .next | .cont => Inv (i + 1) ρ₂ H₂ ∧ src.Ok H₂ | _ => False) ∧
      (∀ ρ' H', Inv src.vals.length ρ' H' → src.Ok H' → Q .next ρ' H'))
    (hs : ∀ env x, foldedSetIterable iter env x = pure x := by intros; rfl) : Ex C (.For (.Name x p) iter body [] pos) ρ H Q :=
  ex_For hk (fun A s hA R => wpAny_mono (h A s hA R) (fun _ _ x => wpAny_mono x (fun _ _ x => by
    obtain ⟨I, src, H₁, a1, a2, a3, a4, a5, a6, a7, a8, Inv, i0, tn, dn⟩ := x
    exact ⟨I, src, H₁, a1, a2, a3, a4, a5, a6, a7, a8, Inv, i0, fun i v ρ' H' a b c => (tn i v ρ' H' a b c).mono fun fl ρ₂ H₂ q => by cases fl <;> first | exact q | exact q.elim, dn⟩) fun _ _ e => e) fun _ _ e => e) hs
theorem ex_While0 {C : Cx} {ρ : EV} {H : HV} {Q : Fl → EV → HV → Prop} {test : Expr} {body : List Stmt} {pos : Pos} (I : Nat → EV → HV → Prop)
    (turn : ∀ n ρ' H', I n ρ' H' → Tst C test ρ' H' fun b H₁ => if b = true then Exs C body ρ' H₁ (fun fl ρ₂ H₂ => match fl with | .next | .cont => ∃ m, m < n ∧ I m ρ₂ H₂ | _ => False) else Q .next ρ' H₁)
    (n : Nat) (h : I n ρ H) : Ex C (.While test body [] pos) ρ H Q :=
  ex_While I (fun n ρ' H' hI => TG.mono (turn n ρ' H' hI) fun b H₁ q => by
    cases b with
    | false => exact q
    | true => exact Exs.mono q fun fl ρ₂ H₂ q => by cases fl <;> first | exact q | exact q.elim) n h
theorem kk {a b k : Nat} (h : b < k) (h2 : a + 1 ≤ b) : a < k - 1 := Nat.lt_sub_of_add_lt (Nat.lt_of_le_of_lt h2 h)
theorem kp {b k : Nat} (h : b < k) : 0 < k := Nat.lt_of_le_of_lt (Nat.zero_le _) h
end Mine
end
section
set_option maxRecDepth 100000
set_option Elab.async false
set_option linter.unusedVariables false
namespace Mine
open PySem PySem.Spec PyProof.Rows
section
variable {C : Cx} {ρ : EV} {H H' : HV} {A : Around} {s : Shared} {Q : V → HV → Prop}
end
/-! whatever is replayed is derived, plain -/
/-! the law's reckoning of the rules that fit, plain -/
end Mine
end
section
set_option maxRecDepth 100000
set_option Elab.async false
set_option linter.unusedVariables false
namespace Mine
open PySem PySem.Spec PyProof.Rows
section
variable {C : Cx} {ρ : EV} {H H' : HV} {A : Around} {s : Shared}
/-- x, y = a tuple of two -/
theorem ex_AssignTup2 {x y : Str} {kd : Nat} {p p1 p2 pos : Pos} {value : Expr} {Q : Fl → EV → HV → Prop} (hx : C.nms.lookup x = some .local ∨ C.nms.lookup x = some .cell) (hy : C.nms.lookup y = some .local ∨ C.nms.lookup y = some .cell)
    (h : Ev C value ρ H fun v H₁ => ∃ a va vb, v = .loc a ∧ H₁ a = some (.tuple [va, vb]) ∧ Q .next (put (put ρ x va) y vb) H₁)
    (hs : ∀ env, swapsWithSole [.Tuple [.Name x p1, .Name y p2] kd p] value pos.line env = pure false := by intro _; rfl)
    (hw : ∀ env, swappedStores [.Tuple [.Name x p1, .Name y p2] kd p] value env = pure none := by intro _; rfl) :
    Ex C (.Assign [.Tuple [.Name x p1, .Name y p2] kd p] value pos) ρ H Q := by
  intro A s hA R
  refine wpAny_Assign_stores (h.use hA R fun u v s₁ H₁ a K R₁ G q => ?_) (hs _) (hw _)
  obtain ⟨t, va, vb, rfl, ht, q⟩ := q
  cases isV_loc a
  obtain ⟨its, hi, hv, hz⟩ := R₁.view t _ ht
  cases hv with
  | cons a1 r =>
    cases r with
    | cons a2 r =>
      cases r
      show wpAny _ _ (assign (.Tuple [.Name x p1, .Name y p2] kd p) C.env (.ref t)) _ _ _
      refine wpAny_assign_Tuple hA.hd hi rfl rfl fun h' he => ?_
      show wpAny _ _ (assignInOrder [assign (.Name x p1) C.env, assign (.Name y p2) C.env] [_, _]) _ _ _
      have kk : ∀ b o, s₁.heap.get? b = some o → h'.get? b = some o := fun b o e => he b o (Nat.ne_of_lt (Heap.lt_size e)) e
      have R₂ := R₁.keep kk
      refine assignInOrder_cons (wpAny_assign_Name (store_name hx (s := { s₁ with heap := h' }) R₂ a1 fun s₃ K₃ R₃ => assignInOrder_cons (wpAny_assign_Name (store_name hy R₃ a2 fun s₄ K₄ R₄ => assignInOrder_nil ?_))))
      exact ⟨.next, _, H₁, trivial, ((SKp.of_kp K G).trans ((SKp.of_kp (kp_of s₁.toks kk) (Gr.refl _ _)).trans (K₃.trans K₄))), R₄, q⟩
theorem vc_len_tuple {a : Addr} {vs : List V} {Q : V → HV → Prop} (e : H a = some (.tuple vs)) (q : Q (.int vs.length) H) : VCall C (.builtin "len") [.loc a] ρ H Q := by
  intro us hus A s hA R
  cases hus with
  | cons x r =>
    cases r
    cases isV_loc x
    obtain ⟨its, hl, hx, hz⟩ := R.view a _ e
    have hlen := hx.length
    refine PyProof.Rows.len_tuple hl (by rw [List.size_toArray]; omega) (Done.v R ?_ q _)
    show some (V.int ((its.toArray.size : Nat) : Int)) = _
    rw [List.size_toArray, hlen]
theorem vc_type_tuple {a : Addr} {vs : List V} {Q : V → HV → Prop} (e : H a = some (.tuple vs)) (q : Q (.typ "tuple") H) : VCall C (.type "type") [.loc a] ρ H Q := by
  intro us hus A s hA R
  cases hus with
  | cons x r =>
    cases r
    cases isV_loc x
    obtain ⟨its, hl, hx, hz⟩ := R.view a _ e
    exact call_type_of hl.typeIs (by decide) (Done.v R rfl q s.toks)
end
/-! first and follow sets, plain -/
structure NulOK (g : Gram) (nul : List Str) : Prop where
  so : sortedS nul = true
  nd : nul.Nodup
  mem : ∀ s, s ∈ nul ↔ Bld g [] s
structure FirstOK (g : Gram) (hs U nul : List Str) (fs : Fs) : Prop where
  cl : closedF g hs nul fs
  ok : ∀ h ∈ hs, sortedS (fs h) = true ∧ (fs h).Nodup ∧ (∀ x ∈ fs h, x ∈ U) ∧ ∀ x ∈ fs h, Fst g h x
theorem fosSet_nul {fs : Fs} {hs n1 n2 : List Str} (e : ∀ s, s ∈ n1 ↔ s ∈ n2) : ∀ bd : List Str, fosSet fs hs n1 bd = fosSet fs hs n2 bd
  | [] => rfl
  | s :: r => by
    rw [fosSet, fosSet, fosSet_nul e r]
    by_cases h : s ∈ hs
    · rw [if_pos h, if_pos h]
      by_cases h1 : s ∈ n1
      · rw [if_pos h1, if_pos ((e s).mp h1)]
      · rw [if_neg h1, if_neg fun h2 => h1 ((e s).mpr h2)]
    · rw [if_neg h, if_neg h]
theorem FirstOK.nul {g : Gram} {hs U n1 n2 : List Str} {fs : Fs} (x : FirstOK g hs U n1 fs) (e : ∀ s, s ∈ n1 ↔ s ∈ n2) : FirstOK g hs U n2 fs :=
  ⟨fun h bd hm y hy => x.cl h bd hm y (by rw [fosSet_nul e]; exact hy), x.ok⟩
noncomputable def condW (hs nul : List Str) (fs fl : Fs) (h : Str) (bd : List Str) (i : Nat) : Prop :=
  ∀ s, bd[i]? = some s → s ∈ hs → (∀ x ∈ fosSet fs hs nul (bd.drop (i + 1)), x ∈ fl s) ∧ (fosVan hs nul (bd.drop (i + 1)) = true → ∀ x ∈ fl h, x ∈ fl s)
noncomputable def closedW (g : Gram) (hs nul : List Str) (fs fl : Fs) : Prop := ("$" : Str) ∈ fl (g.headD ("", [])).1 ∧ ∀ h bd, (h, bd) ∈ g → ∀ i, condW hs nul fs fl h bd i
structure FollowOK (g : Gram) (hs U nul : List Str) (fs fl : Fs) : Prop where
  cl : closedW g hs nul fs fl
  ok : ∀ h ∈ hs, sortedS (fl h) = true ∧ (fl h).Nodup ∧ (∀ x ∈ fl h, x ∈ U) ∧ ∀ T, closedW g hs nul fs T → ∀ x ∈ fl h, x ∈ T h
/-- a table turned at one head -/
theorem FsAt.set {H : HV} {F gr : Addr} {fa : Str → Addr} {hs out : List Str} {fs : Fs} {h : Str} (x : FsAt H F fa hs fs) (hh : h ∈ hs) (er : H gr = some (.list (strsV out))) :
    FsAt (upd H F (.dict (store (hs.map fun y => (y, V.loc (fa y))) h (.loc gr)))) F (setF fa h gr) hs (setF fs h out) := by
  obtain ⟨g1, g2⟩ := x
  have notF : ∀ {b : Addr} {o : List V}, H b = some (.list o) → b ≠ F := fun {b o} e q => by rw [q, g1] at e; cases e
  refine ⟨?_, fun y hy => ?_⟩
  · rw [upd_at, store_map hh]
    congr 2
    refine List.map_congr_left fun y _ => ?_
    unfold setF; split <;> rfl
  · by_cases hy' : y = h
    · subst hy'
      have e1 : setF fa y gr y = gr := by simp [setF]
      have e2 : setF fs y out y = out := by simp [setF]
      rw [e1, e2]; exact upd_keep (notF er) er
    · have e1 : setF fa h gr y = fa y := by simp [setF, hy']
      have e2 : setF fs h out y = fs y := by simp [setF, hy']
      rw [e1, e2]; exact upd_keep (notF (g2 y hy)) (g2 y hy)
/-- a table grown by one head -/
theorem FsAt.grow {H : HV} {F la : Addr} {fa : Str → Addr} {hs : List Str} {h : Str} (x : FsAt H F fa hs (fun _ => [])) (hn : h ∉ hs) (nla : H la = none) :
    FsAt (upd (upd H la (.list [])) F (.dict (store (hs.map fun y => (y, V.loc (fa y))) h (.loc la)))) F (setF fa h la) (hs ++ [h]) (fun _ => []) := by
  obtain ⟨f1, f2⟩ := x
  have ne : ∀ y ∈ hs, y ≠ h := fun y hy e => hn (e ▸ hy)
  have notF : ∀ {b : Addr} {o : List V}, H b = some (.list o) → b ≠ F := fun {b o} e q => by rw [q, f1] at e; cases e
  refine ⟨?_, fun y hy => ?_⟩
  · rw [store_new (by rw [look_map, if_neg hn]), upd_at, List.map_append]
    congr 3
    · refine List.map_congr_left fun y hy => ?_
      simp [setF, ne y hy]
    · simp [setF]
  · rcases List.mem_append.mp hy with ky | ky
    · have : setF fa h la y = fa y := by simp [setF, ne y ky]
      rw [this]
      exact upd_keep (notF (f2 y ky)) (upd_old (f2 y ky) nla)
    · rw [List.mem_singleton] at ky; subst ky
      have : setF fa y la y = la := by simp [setF]
      rw [this]
      have laF : la ≠ F := (ne_of_new f1 nla).symm
      exact upd_keep laF (upd_at _ _ _)
theorem notin_take {hs : List Str} (hnd : hs.Nodup) {k : Nat} {h : Str} (hh : hs[k]? = some h) : h ∉ hs.take k := fun hm => by
  obtain ⟨hkl, e⟩ := List.getElem?_eq_some_iff.mp hh
  obtain ⟨m, hm1, e2⟩ := List.getElem_of_mem hm
  rw [List.length_take] at hm1
  rw [List.getElem_take] at e2
  have := (List.getElem_inj (h₀ := by omega) (h₁ := hkl) hnd).mp (e2.trans e.symm)
  omega
/-- lists of strs at addresses -/
inductive LsAt (H : HV) : List Addr → List (List Str) → Prop
  | nil : LsAt H [] []
  | cons {a : Addr} {l : List Str} {as : List Addr} {ls : List (List Str)} : H a = some (.list (strsV l)) → LsAt H as ls → LsAt H (a :: as) (l :: ls)
theorem LsAt.imp {H H' : HV} {as : List Addr} {ls : List (List Str)} (x : LsAt H as ls) (h : ∀ a l, H a = some (.list l) → H' a = some (.list l)) : LsAt H' as ls := by
  induction x with
  | nil => exact .nil
  | cons e _ ih => exact .cons (h _ _ e) ih
theorem LsAt.le {H H' : HV} {as : List Addr} {ls : List (List Str)} (x : LsAt H as ls) (h : H.le H') : LsAt H' as ls := x.imp fun a l e => h a _ e
theorem LsAt.away {H : HV} {d : Addr} {o : AO} {as : List Addr} {ls : List (List Str)} (x : LsAt H as ls) (h : ∀ a ∈ as, a ≠ d) : LsAt (upd H d o) as ls := by
  induction x with
  | nil => exact .nil
  | cons e _ ih => exact .cons (upd_keep (h _ (List.mem_cons_self ..)) e) (ih fun a ha => h a (List.mem_cons_of_mem _ ha))
theorem LsAt.append {H : HV} {as bs : List Addr} {ls ms : List (List Str)} (x : LsAt H as ls) (y : LsAt H bs ms) : LsAt H (as ++ bs) (ls ++ ms) := by
  induction x with
  | nil => exact y
  | cons e _ ih => exact .cons e ih
theorem LsAt.length {H : HV} {as : List Addr} {ls : List (List Str)} (x : LsAt H as ls) : as.length = ls.length := by
  induction x with
  | nil => rfl
  | cons _ _ ih => simp [ih]
theorem LsAt.get {H : HV} {as : List Addr} {ls : List (List Str)} (x : LsAt H as ls) {i : Nat} {l : List Str} (e : ls[i]? = some l) : ∃ a, as[i]? = some a ∧ H a = some (.list (strsV l)) := by
  induction x generalizing i with
  | nil => simp at e
  | @cons a l' as ls h _ ih =>
    cases i with
    | zero => simp at e; subst e; exact ⟨a, rfl, h⟩
    | succ i => simpa using ih (by simpa using e)
/-- what the predict sets of a grammar are -/
noncomputable def PrOK (g : Gram) (hs nul : List Str) (fs fl : Fs) (prs : List (List Str)) : Prop :=
  prs.length = g.length ∧ ∀ (k : Nat) (h : Str) (bd : List Str), g[k]? = some (h, bd) → ∃ l, prs[k]? = some l ∧ sortedS l = true ∧ l.Nodup ∧ l.length ≤ 30 ∧ ∀ x, x ∈ l ↔ x ∈ fosSet fs hs nul bd ∨ (fosVan hs nul bd = true ∧ x ∈ fl h)
/-- the pairs of head and token in the order in which the table takes them -/
noncomputable def pairsOf : Gram → List (List Str) → List (Str × Str)
  | r :: g, l :: ls => l.map (fun x => (r.1, x)) ++ pairsOf g ls
  | _, _ => []
theorem pairsOf_snoc : ∀ {g : Gram} {ls : List (List Str)}, g.length = ls.length → ∀ (r : Str × List Str) (l : List Str), pairsOf (g ++ [r]) (ls ++ [l]) = pairsOf g ls ++ l.map fun x => (r.1, x)
  | [], [], _, r, l => by simp [pairsOf]
  | a :: g, b :: ls, h, r, l => by
    simp only [List.cons_append, pairsOf]
    rw [pairsOf_snoc (by simpa using h), List.append_assoc]
  | [], _ :: _, h, _, _ => by simp at h
  | _ :: _, [], h, _, _ => by simp at h
/-- the rows of the table -/
structure TbAt (H : HV) (lo : Nat) (T : Addr) (ra : Str → Addr) (hs : List Str) (rows : Str → List (Str × V)) : Prop where
  tab : H T = some (.dict (hs.map fun h => (h, V.loc (ra h))))
  row : ∀ h ∈ hs, H (ra h) = some (.dict (rows h))
  own : ∀ h ∈ hs, lo ≤ ra h
  neT : ∀ h ∈ hs, ra h ≠ T
  inj : ∀ h ∈ hs, ∀ h' ∈ hs, ra h = ra h' → h = h'
theorem TbAt.grow {H : HV} {lo : Nat} {T la : Addr} {ra : Str → Addr} {hs : List Str} {h : Str} (x : TbAt H lo T ra hs (fun _ => [])) (hn : h ∉ hs) (nla : H la = none) (lla : lo ≤ la) :
    TbAt (upd (upd H la (.dict [])) T (.dict (store (hs.map fun y => (y, V.loc (ra y))) h (.loc la)))) lo T (setF ra h la) (hs ++ [h]) (fun _ => []) := by
  have ne : ∀ y ∈ hs, y ≠ h := fun y hy e => hn (e ▸ hy)
  have s1 : ∀ y ∈ hs, setF ra h la y = ra y := fun y hy => by simp [setF, ne y hy]
  have s2 : setF ra h la h = la := by simp [setF]
  have laT : la ≠ T := (ne_of_new x.tab nla).symm
  have lan : ∀ y ∈ hs, ra y ≠ la := fun y hy => ne_of_new (x.row y hy) nla
  refine ⟨?_, fun y hy => ?_, fun y hy => ?_, fun y hy => ?_, fun y hy y' hy' e => ?_⟩
  · rw [store_new (by rw [look_map, if_neg hn]), upd_at, List.map_append]
    congr 3
    · refine List.map_congr_left fun y hy => ?_
      rw [s1 y hy]
    · simp [setF]
  · rcases List.mem_append.mp hy with ky | ky
    · rw [s1 y ky]; exact upd_keep (x.neT y ky) (upd_old (x.row y ky) nla)
    · rw [List.mem_singleton.mp ky, s2]; exact upd_keep laT (upd_at _ _ _)
  · rcases List.mem_append.mp hy with ky | ky
    · rw [s1 y ky]; exact x.own y ky
    · rw [List.mem_singleton.mp ky, s2]; exact lla
  · rcases List.mem_append.mp hy with ky | ky
    · rw [s1 y ky]; exact x.neT y ky
    · rw [List.mem_singleton.mp ky, s2]; exact laT
  · rcases List.mem_append.mp hy with ky | ky <;> rcases List.mem_append.mp hy' with ky' | ky'
    · rw [s1 y ky, s1 y' ky'] at e; exact x.inj y ky y' ky' e
    · rw [List.mem_singleton.mp ky', s1 y ky, s2] at e; exact absurd e (lan y ky)
    · rw [List.mem_singleton.mp ky, s1 y' ky', s2] at e; exact absurd e.symm (lan y' ky')
    · rw [List.mem_singleton.mp ky, List.mem_singleton.mp ky']
theorem TbAt.set {H : HV} {lo : Nat} {T : Addr} {ra : Str → Addr} {hs : List Str} {rows : Str → List (Str × V)} {h : Str} {kvs : List (Str × V)} (x : TbAt H lo T ra hs rows) (hh : h ∈ hs) :
    TbAt (upd H (ra h) (.dict kvs)) lo T ra hs (setF rows h kvs) := by
  refine ⟨upd_keep (x.neT h hh).symm x.tab, fun y hy => ?_, x.own, x.neT, x.inj⟩
  by_cases e : y = h
  · subst e
    have : setF rows y kvs y = kvs := by simp [setF]
    rw [this]; exact upd_at _ _ _
  · have : setF rows h kvs y = rows y := by simp [setF, e]
    rw [this]; exact upd_keep (fun q => e (x.inj y hy h hh q)) (x.row y hy)
/-! lawful grammars, plain -/
noncomputable def inB (y x : Str) : Bool := !(Builtin.Str.occurrences x y 0 x.length 1).isEmpty
noncomputable def symBad (s : Str) : Bool := s == "" || s == "$" || s == "->" || inB " " s || inB "\n" s
noncomputable def gok (g : Gram) : Bool := !g.isEmpty && g.all fun r => (r.1 :: r.2).all fun s => !symBad s
theorem gok_bad {g : Gram} {h s : Str} {bd : List Str} (hm : (h, bd) ∈ g) (hs : s ∈ h :: bd) (hb : symBad s = true) : gok g = false := by
  unfold gok
  rw [Bool.and_eq_false_iff]
  right
  rw [List.all_eq_false]
  refine ⟨(h, bd), hm, ?_⟩
  rw [Bool.not_eq_true, List.all_eq_false]
  exact ⟨s, hs, by simp [hb]⟩
theorem gok_good {g : Gram} (hne : g ≠ []) (hg : ∀ r ∈ g, ∀ s ∈ r.1 :: r.2, symBad s = false) : gok g = true := by
  unfold gok
  rw [Bool.and_eq_true]
  refine ⟨by cases g with | nil => exact absurd rfl hne | cons _ _ => rfl, ?_⟩
  rw [List.all_eq_true]
  intro r hr
  rw [List.all_eq_true]
  intro s hs
  simp [hg r hr s hs]
end Mine
end
section
set_option maxRecDepth 100000
set_option Elab.async false
set_option linter.unusedVariables false
namespace Mine
open PySem PySem.Spec PyProof.Rows PySem.SeqAt
end Mine
end
section
open PySem PySem.W PyProof.Rows
set_option Elab.async false
set_option maxRecDepth 100000
set_option maxHeartbeats 8000000
namespace Mine
open_top hd for PySem.Challenge.rw_k18_0056
end Mine
end
section
set_option maxRecDepth 100000
set_option Elab.async false
set_option linter.unusedVariables false
namespace Mine
open PySem PySem.Spec PyProof.Rows
noncomputable abbrev K56 := Mine.hd.heap_39
variable {C : Cx} {H : HV} {Q : V → HV → Prop}
set_option maxHeartbeats 4000000
theorem fn_gramok (G : Gd K56 C) : Fn C 34 ["g"] (bodyAt (K56 C.w.params) 34) (namesAt (K56 C.w.params) 34) (fdAt (K56 C.w.params) 34) :=
  fn_of G rfl rfl rfl rfl rfl rfl rfl rfl rfl rfl rfl rfl rfl rfl (by1 (fun a0 => rfl)) rfl rfl (of_decide_eq_true rfl)
theorem fn_heads (G : Gd K56 C) : Fn C 41 ["g"] (bodyAt (K56 C.w.params) 41) (namesAt (K56 C.w.params) 41) (fdAt (K56 C.w.params) 41) :=
  fn_of G rfl rfl rfl rfl rfl rfl rfl rfl rfl rfl rfl rfl rfl rfl (by1 (fun a0 => rfl)) rfl rfl (of_decide_eq_true rfl)
theorem fn_merged (G : Gd K56 C) : Fn C 48 ["a", "b"] (bodyAt (K56 C.w.params) 48) (namesAt (K56 C.w.params) 48) (fdAt (K56 C.w.params) 48) :=
  fn_of G rfl rfl rfl rfl rfl rfl rfl rfl rfl rfl rfl rfl rfl rfl (by2 (fun a0 a1 => rfl)) rfl rfl (of_decide_eq_true rfl)
theorem fn_built (G : Gd K56 C) : Fn C 53 ["g", "given"] (bodyAt (K56 C.w.params) 53) (namesAt (K56 C.w.params) 53) (fdAt (K56 C.w.params) 53) :=
  fn_of G rfl rfl rfl rfl rfl rfl rfl rfl rfl rfl rfl rfl rfl rfl (by2 (fun a0 a1 => rfl)) rfl rfl (of_decide_eq_true rfl)
theorem fn_nullable (G : Gd K56 C) : Fn C 60 ["g"] (bodyAt (K56 C.w.params) 60) (namesAt (K56 C.w.params) 60) (fdAt (K56 C.w.params) 60) :=
  fn_of G rfl rfl rfl rfl rfl rfl rfl rfl rfl rfl rfl rfl rfl rfl (by1 (fun a0 => rfl)) rfl rfl (of_decide_eq_true rfl)
theorem fn_fos (G : Gd K56 C) : Fn C 67 ["symbols", "firsts", "nullables"] (bodyAt (K56 C.w.params) 67) (namesAt (K56 C.w.params) 67) (fdAt (K56 C.w.params) 67) :=
  fn_of G rfl rfl rfl rfl rfl rfl rfl rfl rfl rfl rfl rfl rfl rfl (by3 (fun a0 a1 a2 => rfl)) rfl rfl (of_decide_eq_true rfl)
theorem fn_first (G : Gd K56 C) : Fn C 74 ["g"] (bodyAt (K56 C.w.params) 74) (namesAt (K56 C.w.params) 74) (fdAt (K56 C.w.params) 74) :=
  fn_of G rfl rfl rfl rfl rfl rfl rfl rfl rfl rfl rfl rfl rfl rfl (by1 (fun a0 => rfl)) rfl rfl (of_decide_eq_true rfl)
theorem fn_follow (G : Gd K56 C) : Fn C 81 ["g"] (bodyAt (K56 C.w.params) 81) (namesAt (K56 C.w.params) 81) (fdAt (K56 C.w.params) 81) :=
  fn_of G rfl rfl rfl rfl rfl rfl rfl rfl rfl rfl rfl rfl rfl rfl (by1 (fun a0 => rfl)) rfl rfl (of_decide_eq_true rfl)
theorem fn_predict (G : Gd K56 C) : Fn C 88 ["g"] (bodyAt (K56 C.w.params) 88) (namesAt (K56 C.w.params) 88) (fdAt (K56 C.w.params) 88) :=
  fn_of G rfl rfl rfl rfl rfl rfl rfl rfl rfl rfl rfl rfl rfl rfl (by1 (fun a0 => rfl)) rfl rfl (of_decide_eq_true rfl)
theorem fn_ll1 (G : Gd K56 C) : Fn C 95 ["g"] (bodyAt (K56 C.w.params) 95) (namesAt (K56 C.w.params) 95) (fdAt (K56 C.w.params) 95) :=
  fn_of G rfl rfl rfl rfl rfl rfl rfl rfl rfl rfl rfl rfl rfl rfl (by1 (fun a0 => rfl)) rfl rfl (of_decide_eq_true rfl)
theorem fn_isll1 (G : Gd K56 C) : Fn C 102 ["g"] (bodyAt (K56 C.w.params) 102) (namesAt (K56 C.w.params) 102) (fdAt (K56 C.w.params) 102) :=
  fn_of G rfl rfl rfl rfl rfl rfl rfl rfl rfl rfl rfl rfl rfl rfl (by1 (fun a0 => rfl)) rfl rfl (of_decide_eq_true rfl)
theorem fn_places (G : Gd K56 C) : Fn C 107 ["body", "start", "tokens", "tables"] (bodyAt (K56 C.w.params) 107) (namesAt (K56 C.w.params) 107) (fdAt (K56 C.w.params) 107) :=
  fn_of G rfl rfl rfl rfl rfl rfl rfl rfl rfl rfl rfl rfl rfl rfl (by4 (fun a0 a1 a2 a3 => rfl)) rfl rfl (of_decide_eq_true rfl)
theorem fn_span (G : Gd K56 C) : Fn C 112 ["g", "tokens"] (bodyAt (K56 C.w.params) 112) (namesAt (K56 C.w.params) 112) (fdAt (K56 C.w.params) 112) :=
  fn_of G rfl rfl rfl rfl rfl rfl rfl rfl rfl rfl rfl rfl rfl rfl (by2 (fun a0 a1 => rfl)) rfl rfl (of_decide_eq_true rfl)
theorem fn_derives (G : Gd K56 C) : Fn C 119 ["g", "head", "tokens"] (bodyAt (K56 C.w.params) 119) (namesAt (K56 C.w.params) 119) (fdAt (K56 C.w.params) 119) :=
  fn_of G rfl rfl rfl rfl rfl rfl rfl rfl rfl rfl rfl rfl rfl rfl (by3 (fun a0 a1 a2 => rfl)) rfl rfl (of_decide_eq_true rfl)
theorem fn_derivesg (G : Gd K56 C) : Fn C 126 ["g", "tokens"] (bodyAt (K56 C.w.params) 126) (namesAt (K56 C.w.params) 126) (fdAt (K56 C.w.params) 126) :=
  fn_of G rfl rfl rfl rfl rfl rfl rfl rfl rfl rfl rfl rfl rfl rfl (by2 (fun a0 a1 => rfl)) rfl rfl (of_decide_eq_true rfl)
theorem fn_dlc (G : Gd K56 C) : Fn C 133 ["g", "head"] (bodyAt (K56 C.w.params) 133) (namesAt (K56 C.w.params) 133) (fdAt (K56 C.w.params) 133) :=
  fn_of G rfl rfl rfl rfl rfl rfl rfl rfl rfl rfl rfl rfl rfl rfl (by2 (fun a0 a1 => rfl)) rfl rfl (of_decide_eq_true rfl)
theorem fn_lch (G : Gd K56 C) : Fn C 140 ["g", "head"] (bodyAt (K56 C.w.params) 140) (namesAt (K56 C.w.params) 140) (fdAt (K56 C.w.params) 140) :=
  fn_of G rfl rfl rfl rfl rfl rfl rfl rfl rfl rfl rfl rfl rfl rfl (by2 (fun a0 a1 => rfl)) rfl rfl (of_decide_eq_true rfl)
theorem fn_ilr (G : Gd K56 C) : Fn C 147 ["g"] (bodyAt (K56 C.w.params) 147) (namesAt (K56 C.w.params) 147) (fdAt (K56 C.w.params) 147) :=
  fn_of G rfl rfl rfl rfl rfl rfl rfl rfl rfl rfl rfl rfl rfl rfl (by1 (fun a0 => rfl)) rfl rfl (of_decide_eq_true rfl)
theorem fn_gft (G : Gd K56 C) : Fn C 154 ["lines"] (bodyAt (K56 C.w.params) 154) (namesAt (K56 C.w.params) 154) (fdAt (K56 C.w.params) 154) :=
  fn_of G rfl rfl rfl rfl rfl rfl rfl rfl rfl rfl rfl rfl rfl rfl (by1 (fun a0 => rfl)) rfl rfl (of_decide_eq_true rfl)
theorem fn_target (G : Gd K56 C) : Fn C 161 [] (bodyAt (K56 C.w.params) 161) (namesAt (K56 C.w.params) 161) (fdAt (K56 C.w.params) 161) :=
  fn_of G rfl rfl rfl rfl rfl rfl rfl rfl rfl rfl rfl rfl rfl rfl (by0 rfl) rfl rfl (of_decide_eq_true rfl)
theorem fn_law (G : Gd K56 C) : Fn C 168 ["script"] (bodyAt (K56 C.w.params) 168) (namesAt (K56 C.w.params) 168) (fdAt (K56 C.w.params) 168) :=
  fn_of G rfl rfl rfl rfl rfl rfl rfl rfl rfl rfl rfl rfl rfl rfl (by1 (fun a0 => rfl)) rfl rfl (of_decide_eq_true rfl)
local macro_rules | `(tactic| walk_at "gd") => `(tactic| first | assumption | ((refine Gd.cast (C := ?Ca) ?Ga ?ha ?hb); (case Ga => assumption); (case ha => exact rfl); (case hb => exact rfl)))
local macro_rules | `(tactic| w_left) => `(tactic| first
  | with_reducible refine exs_cons ?_
  | with_reducible refine exs_nil ?_
  | with_reducible refine ex_Return ?_
  | ((with_reducible refine ex_Assign ?k ?_ ?s); (case k => first | exact .inl rfl | exact .inr rfl); (case s => intros; exact rfl))
  | with_reducible refine ex_If ?_
  | ((with_reducible refine t_Compare ?_ ?m); (case m => exact rfl))
  | with_reducible refine t_Not ?_
  | with_reducible refine t_And ?_
  | with_reducible refine t_Or ?_
  | with_reducible refine t_and_cons ?_
  | with_reducible refine t_or_cons ?_
  | with_reducible refine t_and_nil ?_
  | with_reducible refine t_or_nil ?_
  | with_reducible refine ev_int ?_
  | ((with_reducible refine ev_str ?_ ?o); (case o => decide +kernel))
  | with_reducible refine ev_bool ?_
  | ((with_reducible refine ev_Name (v := ?v) ?e ?_ ?d ?n); (case e => first | exact rfl | assumption); (case d => decide); (case n => decide))
  | with_reducible refine ev_BinOp ?_
  | ((with_reducible refine ev_Compare ?_ ?m); (case m => exact rfl))
  | with_reducible refine ev_SliceFrom ?_
  | ((with_reducible refine ev_Sub ?_ ?m); (case m => intros; exact rfl))
  | with_reducible refine ev_List ?_
  | with_reducible refine ev_Tuple ?_
  | ((with_reducible refine args_cons ?_ ?m); (case m => intros; exact rfl))
  | with_reducible refine args_nil ?_
  | with_reducible refine bok_add_int ?_
  | with_reducible refine bok_sub_int ?_
  | with_reducible refine cok_eq_int ?_
  | with_reducible refine cok_ne_int ?_
  | with_reducible refine cok_lt_int ?_
  | with_reducible refine cok_gt_int ?_
  | with_reducible refine cok_eq_str ?_
  | with_reducible refine cok_ne_str ?_
  | with_reducible refine tr_bool ?_
  | with_reducible refine t_Name ?_
  | with_reducible refine t_Call ?_
  | with_reducible refine t_Sub ?_
  | ((with_reducible refine ev_CallB (id := ?id) ?g ?k ?_ ?hs ?hp ?hd); (case g => (refine Gd.blt (K := ?K1) ?G1 ?ge1 ?gv1 ?gn1); (case G1 => walk_at "gd"); (case ge1 => exact rfl); (case gv1 => exact rfl); (case gn1 => decide)); (case k => exact rfl); (case hs => intro _; exact rfl); (case hp => intro _; exact rfl); (case hd => decide))
  | ((with_reducible refine ev_CallT (T := ?id) ?g ?k ?_ ?hs ?hp ?hd); (case g => (refine Gd.blt (K := ?K2) ?G2 ?ge2 ?gv2 ?gn2); (case G2 => walk_at "gd"); (case ge2 => exact rfl); (case gv2 => exact rfl); (case gn2 => decide)); (case k => exact rfl); (case hs => intro _; exact rfl); (case hp => intro _; exact rfl); (case hd => decide))
  | ((with_reducible refine vc_len_list (vs := ?vs) ?e ?_); (case e => (first | assumption | rfl)))
  | ((with_reducible refine ev_Glob (u := ?u) (v := ?v) ?g ?k ?e ?_ ?d); (case g => (refine Gd.glob (K := ?K3) ?G3 ?ge3); (case G3 => walk_at "gd"); (case ge3 => exact rfl)); (case k => exact rfl); (case e => first | exact rfl | ((refine isV_mk (x := ?xx) (t := ?tt) ?hu ?ok); (case hu => exact rfl); (case ok => decide +kernel))); (case d => decide))
  | ((with_reducible refine ev_CallF (fa := ?fa) (fd := ?fd) (params := ?ps) (body := ?bd) (nms := ?nn) ?F ?lim ?g ?k ?_ ?hs ?hp ?hd); (case g => (refine Gd.glob (K := ?K4) ?G4 ?ge4); (case G4 => walk_at "gd"); (case ge4 => exact rfl)); (case F => ((first | refine fn_gramok ?GF | refine fn_heads ?GF | refine fn_merged ?GF | refine fn_built ?GF | refine fn_nullable ?GF | refine fn_fos ?GF | refine fn_first ?GF | refine fn_follow ?GF | refine fn_predict ?GF | refine fn_ll1 ?GF | refine fn_isll1 ?GF | refine fn_places ?GF | refine fn_span ?GF | refine fn_derives ?GF | refine fn_derivesg ?GF | refine fn_dlc ?GF | refine fn_lch ?GF | refine fn_ilr ?GF | refine fn_gft ?GF | refine fn_target ?GF); (case GF => walk_at "gd"))); (case lim => (refine Gd.lim (K := ?K5) ?G5); (case G5 => walk_at "gd")); (case k => exact rfl); (case hs => intro _; exact rfl); (case hp => intro _; exact rfl); (case hd => decide))
  | ((with_reducible refine ev_CallF0 (fa := ?fa) (fd := ?fd) (body := ?bd) (nms := ?nn) ?F ?lim ?g ?k ?_ ?hd); (case g => (refine Gd.glob (K := ?K6) ?G6 ?ge6); (case G6 => walk_at "gd"); (case ge6 => exact rfl)); (case F => ((first | refine fn_gramok ?GF | refine fn_heads ?GF | refine fn_merged ?GF | refine fn_built ?GF | refine fn_nullable ?GF | refine fn_fos ?GF | refine fn_first ?GF | refine fn_follow ?GF | refine fn_predict ?GF | refine fn_ll1 ?GF | refine fn_isll1 ?GF | refine fn_places ?GF | refine fn_span ?GF | refine fn_derives ?GF | refine fn_derivesg ?GF | refine fn_dlc ?GF | refine fn_lch ?GF | refine fn_ilr ?GF | refine fn_gft ?GF | refine fn_target ?GF); (case GF => walk_at "gd"))); (case lim => (refine Gd.lim (K := ?K7) ?G7); (case G7 => walk_at "gd")); (case k => exact rfl); (case hd => decide))
  | ((with_reducible refine ev_Glob (u := ?u) (v := ?v) ?g ?k ?e ?_ ?d); (case g => (refine Gd.blt (K := ?K8) ?G8 ?ge8 ?gv8 ?gn8); (case G8 => walk_at "gd"); (case ge8 => exact rfl); (case gv8 => exact rfl); (case gn8 => decide)); (case k => exact rfl); (case e => exact rfl); (case d => decide)))
theorem heads_ok {P : Addr → Prop} (G : Gd K56 C) (hk : 0 < C.k) {R : Addr} {g : Gram} (hg : GrAt H P R g) (hl : g.length ≤ 100)
    (q : ∀ H' b, H.le H' → H' b = some (.list (strsV (dd (g.map (·.1))))) → H b = none → C.lo ≤ b → Q (.loc b) H') :
    FCall C ["g"] (bodyAt (K56 C.w.params) 41) (namesAt (K56 C.w.params) 41) [.loc R] H Q := by
  refine ⟨hk, rfl, fun env lo hlo h2 => ?_⟩
  obtain ⟨ts, eR, rs⟩ := hg
  change Exs _ (_ :: _) _ _ _
  repeat w_left
  refine ⟨by decide, fun u hu nu => ?_⟩
  repeat w_left
  refine ex_For0 (.inl rfl) (its_list ?_)
  repeat w_left
  refine ⟨R, _, rfl, upd_old eR nu, ?_⟩
  refine loopI (fun i ρ' H' => ρ' "heads" = some (.loc u) ∧ H' = upd H u (.list (strsV (dd ((g.map (·.1)).take i))))) fun I1 mI1 uI1 => ⟨mI1 _ _ _ ⟨rfl, rfl⟩, ?_, ?_⟩
  · rintro i v ρ' H' hv hI1 ok
    obtain ⟨r1, rfl⟩ := uI1 _ _ _ hI1
    obtain ⟨t, b, h, bd, rfl, hgi, _, _, et, eb⟩ := rs.get' hv
    have hx : (g.map (·.1))[i]? = some h := by rw [List.getElem?_map, hgi]; rfl
    repeat w_left
    refine sok_tuple (upd_old et nu) (by decide) rfl ?_
    repeat w_left
    refine cok_notin_strs (upd_at _ _ _) ?_
    repeat w_left
    by_cases hm : h ∈ dd ((g.map (·.1)).take i)
    · have e : dd ((g.map (·.1)).take (i + 1)) = dd ((g.map (·.1)).take i) := by rw [dd_take hx]; unfold dstep; rw [if_pos hm]
      rw [show (!decide (h ∈ dd ((g.map (·.1)).take i))) = false by simp [hm], if_neg (by decide)]
      repeat w_left
      exact ⟨mI1 _ _ _ ⟨r1, by rw [e]⟩, ok⟩
    · have e : dd ((g.map (·.1)).take (i + 1)) = dd ((g.map (·.1)).take i) ++ [h] := by rw [dd_take hx]; unfold dstep; rw [if_neg hm]
      rw [show (!decide (h ∈ dd ((g.map (·.1)).take i))) = true by simp [hm], if_pos rfl]
      refine exs_cons (ex_append ?_)
      repeat w_left
      refine ⟨u, rfl, ⟨_, upd_at _ _ _⟩, ?_⟩
      repeat w_left
      refine sok_tuple (upd_old et nu) (by decide) rfl ?_
      refine ⟨_, upd_at _ _ _, hu, ?_, ?_⟩
      · have := dd_length ((g.map (·.1)).take i)
        simp at this ⊢; omega
      · repeat w_left
        refine ⟨mI1 _ _ _ ⟨r1, ?_⟩, ?_⟩
        · rw [e]; funext d; unfold upd; split <;> simp
        · show upd _ u _ R = _
          have : R ≠ u := ne_of_new eR nu
          rw [upd_ne _ _ this]; exact ok
  · rintro ρ' H' hI1 ok
    obtain ⟨r1, rfl⟩ := uI1 _ _ _ hI1
    have : (Src.list R (ts.map V.loc)).vals.length = (g.map (·.1)).length := by show (ts.map V.loc).length = _; rw [List.length_map, rs.length, List.length_map]
    rw [this, List.take_length]
    repeat w_left
    exact q _ u (le_upd nu) (upd_at _ _ _) nu (Nat.le_trans hlo hu)
theorem merged_ok (G : Gd K56 C) (hk : 0 < C.k) {a b : Addr} {xs ys : List Str} (ha : H a = some (.list (strsV xs))) (hb : H b = some (.list (strsV ys))) (hz : xs.length + ys.length < 64)
    (q : ∀ r H' out, H.le H' → out.Perm (dd (xs ++ ys)) → sortedS out = true → H' r = some (.list (strsV out)) → C.lo ≤ r → H r = none → Q (.loc r) H') :
    FCall C ["a", "b"] (bodyAt (K56 C.w.params) 48) (namesAt (K56 C.w.params) 48) [.loc a, .loc b] H Q := by
  refine ⟨hk, rfl, fun env lo hlo h2 => ?_⟩
  change Exs _ (_ :: _) _ _ _
  repeat w_left
  refine ⟨by decide, fun u hu nu => ?_⟩
  refine exs_cons (ex_For (.inl rfl) (its_list ?_))
  repeat w_left
  refine bok_add_list (vs := strsV xs) (ws := strsV ys) ?_ ?_ ?_ ?_
  · rw [upd_ne _ _ (ne_of_new ha nu)]; exact ha
  · rw [upd_ne _ _ (ne_of_new hb nu)]; exact hb
  · simp; omega
  intro c hc nc
  have hcu : c ≠ u := by rintro rfl; rw [upd_at] at nc; cases nc
  have euse : strsV xs ++ strsV ys = strsV (xs ++ ys) := by simp
  rw [euse]
  refine ⟨c, strsV (xs ++ ys), rfl, upd_at _ _ _, ?_⟩
  refine ⟨fun i ρ' H' => ρ' "union" = some (.loc u) ∧ H' u = some (.list (strsV (dd ((xs ++ ys).take i)))) ∧ ∀ d, d ≠ u → d ≠ c → H' d = H d, ⟨rfl, ?_, ?_⟩, ?_, ?_⟩
  · rw [upd_ne _ _ (Ne.symm hcu), upd_at]; rfl
  · intro d h1 h2; rw [upd_ne _ _ h2, upd_ne _ _ h1]
  · rintro i v ρ' H' hv ⟨h1, h3, h4⟩ ok
    have hv' : (strsV (xs ++ ys))[i]? = some v := hv
    rw [List.getElem?_map] at hv'
    obtain ⟨x, hx, rfl⟩ := Option.map_eq_some_iff.mp hv'
    repeat w_left
    refine cok_notin_strs h3 ?_
    repeat w_left
    have ok' : H' c = some (.list (strsV (xs ++ ys))) := ok
    by_cases hm : x ∈ dd ((xs ++ ys).take i)
    · have e : dd ((xs ++ ys).take (i + 1)) = dd ((xs ++ ys).take i) := by rw [dd_take hx]; unfold dstep; rw [if_pos hm]
      rw [show (!decide (x ∈ dd ((xs ++ ys).take i))) = false by simp [hm], if_neg (by decide)]
      repeat w_left
      exact ⟨⟨h1, by rw [e]; exact h3, h4⟩, ok'⟩
    · have e : dd ((xs ++ ys).take (i + 1)) = dd ((xs ++ ys).take i) ++ [x] := by rw [dd_take hx]; unfold dstep; rw [if_neg hm]
      rw [show (!decide (x ∈ dd ((xs ++ ys).take i))) = true by simp [hm], if_pos rfl]
      refine exs_cons (ex_append ?_)
      repeat w_left
      refine ⟨u, rfl, ⟨_, h3⟩, ?_⟩
      repeat w_left
      refine ⟨_, h3, hu, ?_, ?_⟩
      · have := dd_length ((xs ++ ys).take i)
        simp at this ⊢; omega
      · repeat w_left
        refine ⟨⟨h1, ?_, fun d g1 g2 => ?_⟩, ?_⟩
        · rw [upd_at, e]; simp
        · rw [upd_ne _ _ g1]; exact h4 d g1 g2
        · show upd H' u _ c = _
          rw [upd_ne _ _ hcu]; exact ok'
  · rintro ρ' H' ⟨h1, h3, h4⟩ ok
    have h3' : H' u = some (.list (strsV (dd (xs ++ ys)))) := by
      rw [h3]; simp only [Src.vals, List.length_map, List.take_length]
    repeat w_left
    refine vc_sorted_strs h3' ?_ fun out hp hs r hr nr => ?_
    · have := dd_length (xs ++ ys); simp at this; omega
    · have old : H.le H' := fun d o e => by
        have du : d ≠ u := ne_of_new e nu
        have dc : d ≠ c := fun q => by
          rw [q] at e; rw [upd_ne _ _ hcu, e] at nc; cases nc
        rw [h4 d du dc]; exact e
      have nr' : H r = none := by
        cases e : H r with
        | none => rfl
        | some o => rw [old r o e] at nr; cases nr
      exact q r _ out (old.trans (le_upd nr)) hp hs (upd_at _ _ _) (Nat.le_trans hlo hr) nr'
theorem built_ok {P : Addr → Prop} (G : Gd K56 C) (hk : 0 < C.k) {R gv : Addr} {g : Gram} {given : List Str} (hg : GrAt H P R g) (hl : g.length ≤ 60) (hgv : H gv = some (.list (strsV given)))
    (q : ∀ H' b out, H.le H' → H' b = some (.list (strsV out)) → sortedS out = true → out.Nodup → (∀ x, x ∈ out ↔ Bld g given x) → H b = none → C.lo ≤ b → Q (.loc b) H') :
    FCall C ["g", "given"] (bodyAt (K56 C.w.params) 53) (namesAt (K56 C.w.params) 53) [.loc R, .loc gv] H Q := by
  refine ⟨hk, rfl, fun env lo hlo h2 => ?_⟩
  obtain ⟨ts, eR, rs⟩ := hg
  change Exs _ (_ :: _) _ _ _
  repeat w_left
  refine ⟨by decide, fun u hu nu => ?_⟩
  repeat w_left
  have hts : ts.length = g.length := rs.length
  have bound : ∀ F : List Str, F.Nodup → (∀ x ∈ F, x ∈ g.map (·.1)) → F.length ≤ g.length := fun F h1 h2 => by
    have := nodup_sub_len h1 h2
    simpa using this
  refine midI (fun ρ₁ H₁ => And3 (ρ₁ "found" = some (.loc u)) (H.le H₁) (∃ F, And5 (H₁ u = some (.list (strsV F))) (F.Nodup) ((∀ x ∈ F, x ∈ g.map (·.1))) ((∀ x ∈ F, Bld g given x)) (closedB g given F))) (fun P1 mP1 uP1 => ?_) ?_
  · refine whileI (fun n ρ' H' => And5 (ρ' "g" = some (.loc R)) (ρ' "given" = some (.loc gv)) (ρ' "found" = some (.loc u)) (H.le H') (∃ F ch, And7 (H' u = some (.list (strsV F))) (ρ' "changed" = some (.bool ch)) (F.Nodup) ((∀ x ∈ F, x ∈ g.map (·.1))) ((∀ x ∈ F, Bld g given x)) ((ch = false → closedB g given F)) (n = 2 * (g.length - F.length) + (if ch = true then 1 else 0)))) _ ⟨rfl, rfl, rfl, le_upd nu, [], true, upd_at _ _ _, rfl, by simp, by simp, by simp, (fun h => by cases h), rfl⟩ fun W1 mW1 uW1 hW1 => ex_While0 W1 ?_ _ hW1
    rintro n ρ' H' hN1
    obtain ⟨r1, r2, r3, le, F, ch, eF, r4, nd, hin, snd, cls, rfl⟩ := uW1 _ _ _ hN1
    have bF := bound F nd hin
    repeat w_left
    cases ch with
    | false =>
      rw [if_neg (by decide)]
      exact mP1 _ _ ⟨r3, le, F, eF, nd, hin, snd, cls rfl⟩
    | true =>
      rw [if_pos rfl]
      repeat w_left
      refine ex_For0 (.inl rfl) (its_list ?_)
      repeat w_left
      refine ⟨R, _, rfl, le _ _ eR, ?_⟩
      refine loopI (fun i ρ₂ H₂ => And5 (ρ₂ "g" = some (.loc R)) (ρ₂ "given" = some (.loc gv)) (ρ₂ "found" = some (.loc u)) (H.le H₂) (∃ F' ch', And7 (H₂ u = some (.list (strsV F'))) (ρ₂ "changed" = some (.bool ch')) (F'.Nodup) ((∀ x ∈ F', x ∈ g.map (·.1))) ((∀ x ∈ F', Bld g given x)) ((ch' = false → F' = F ∧ ∀ j h bd, j < i → g[j]? = some (h, bd) → (∀ s ∈ bd, s ∈ given ∨ s ∈ F) → h ∈ F)) ((ch' = true → F.length < F'.length)))) fun I1 mI1 uI1 => ⟨mI1 _ _ _ ⟨r1, r2, r3, le, F, false, eF, rfl, nd, hin, snd, (fun _ => ⟨rfl, fun j _ _ h => absurd h (Nat.not_lt_zero _)⟩), (fun h => by cases h)⟩, ?_, ?_⟩
      · rintro i v ρ₂ H₂ hv hI1 ok
        obtain ⟨q1, q2, q3, le2, F', ch', eF', q4, nd', hin', snd', un', gr'⟩ := uI1 _ _ _ hI1
        obtain ⟨t, b, h, bd, rfl, hgi, _, _, et, eb⟩ := rs.get' hv
        have hgm : (h, bd) ∈ g := List.mem_of_getElem? hgi
        have okR : H₂ R = some (.list (ts.map V.loc)) := ok
        refine exs_cons (ex_If (TG.mono (Q := fun bb H₁ => H₂.le H₁ ∧ bb = decide (h ∉ F' ∧ ∀ s ∈ bd, s ∈ given ∨ s ∈ F')) ?_ ?_))
        · repeat w_left
          refine sok_tuple (le2 _ _ et) (by decide) rfl ?_
          repeat w_left
          refine cok_notin_strs eF' ?_
          repeat w_left
          by_cases hF : h ∈ F'
          · rw [if_neg (by simp [hF])]
            exact ⟨HV.le_refl _, by simp [hF]⟩
          · rw [if_pos (by simp [hF])]
            repeat w_left
            refine ev_ListComp (its_list ?_)
            repeat w_left
            refine sok_tuple (le2 _ _ et) (by decide) rfl ?_
            refine ⟨b, _, rfl, le2 _ _ eb, ?_⟩
            refine ⟨fun j ys H₃ => H₃ = H₂ ∧ ys = boolsV ((bd.take j).map fun s => decide (s ∈ given ∨ s ∈ F')), ⟨⟨rfl, rfl⟩, ?_⟩, ?_⟩
            · rintro j v ys H₃ hv ⟨rfl, rfl⟩ ok' env'
              obtain ⟨x, hx, rfl⟩ := strs_get hv
              refine ifs_nil ?_
              show Ev _ _ _ _ _
              refine ev_BoolOp (bl_or ?_)
              repeat w_left
              refine cok_in_strs (le2 _ _ hgv) ?_
              repeat w_left
              have e : (bd.take (j + 1)).map (fun s => decide (s ∈ given ∨ s ∈ F')) = (bd.take j).map (fun s => decide (s ∈ given ∨ s ∈ F')) ++ [decide (x ∈ given ∨ x ∈ F')] := by rw [take_snoc hx]; simp
              by_cases hgx : x ∈ given
              · rw [if_pos (by simpa using hgx)]
                exact ⟨⟨rfl, by rw [e]; simp [hgx]⟩, ok'⟩
              · rw [if_neg (by simpa using hgx)]
                refine bl_one ?_
                repeat w_left
                refine cok_in_strs eF' ?_
                exact ⟨⟨rfl, by rw [e]; simp [hgx]⟩, ok'⟩
            · rintro ys H₃ ⟨rfl, rfl⟩ c lc nc
              have : (Src.list b (strsV bd)).vals.length = bd.length := by show (strsV bd).length = _; simp
              rw [this, List.take_length]
              repeat w_left
              refine vc_all_bools (upd_at _ _ _) ?_
              repeat w_left
              have ev : ((bd.map fun s => decide (s ∈ given ∨ s ∈ F')).all id) = decide (∀ s ∈ bd, s ∈ given ∨ s ∈ F') := by
                rw [Bool.eq_iff_iff, List.all_eq_true, decide_eq_true_iff]; simp
              rw [ev]
              by_cases hA : ∀ s ∈ bd, s ∈ given ∨ s ∈ F'
              · rw [if_pos (by simpa using hA)]
                repeat w_left
                exact ⟨le_upd nc, (decide_eq_true ⟨hF, hA⟩).symm⟩
              · rw [if_neg (by simpa using hA)]
                exact ⟨le_upd nc, (decide_eq_false fun h => hA h.2).symm⟩
        · rintro bb H₁ ⟨le3, rfl⟩
          by_cases hc : h ∉ F' ∧ ∀ s ∈ bd, s ∈ given ∨ s ∈ F'
          · rw [if_pos (by simpa using hc)]
            refine exs_cons (ex_append ?_)
            repeat w_left
            refine ⟨u, rfl, ⟨_, le3 _ _ eF'⟩, ?_⟩
            repeat w_left
            refine sok_tuple (le3 _ _ (le2 _ _ et)) (by decide) rfl ?_
            refine ⟨_, le3 _ _ eF', hu, ?_, ?_⟩
            · have := bound F' nd' hin'; simp; omega
            repeat w_left
            refine ⟨mI1 _ _ _ ⟨q1, q2, q3, le_turn (le2.trans le3) nu, F' ++ [h], true, by rw [upd_at]; simp, rfl, ?_, ?_, ?_, (fun h => by cases h), fun _ => ?_⟩, ?_⟩
            · rw [List.nodup_append]
              refine ⟨nd', by simp, fun x hx y hy => ?_⟩
              rw [List.mem_singleton] at hy; subst hy
              rintro rfl; exact hc.1 hx
            · intro x hx
              rcases List.mem_append.mp hx with hx | hx
              · exact hin' x hx
              · rw [List.mem_singleton] at hx; subst hx; exact List.mem_map_of_mem (f := (·.1)) hgm
            · intro x hx
              rcases List.mem_append.mp hx with hx | hx
              · exact snd' x hx
              · rw [List.mem_singleton] at hx; subst hx
                exact .mk hgm fun s hs ns => snd' s ((hc.2 s hs).resolve_left ns)
            · cases ch' with
              | true => have := gr' rfl; simp; omega
              | false => have := (un' rfl).1; subst this; simp
            · show upd _ u _ R = _
              exact upd_keep (ne_of_new eR nu) (le3 _ _ okR)
          · rw [if_neg (by simpa using hc)]
            repeat w_left
            refine ⟨mI1 _ _ _ ⟨q1, q2, q3, le2.trans le3, F', ch', le3 _ _ eF', q4, nd', hin', snd', fun hf => ?_, gr'⟩, le3 _ _ okR⟩
            obtain ⟨rfl, un⟩ := un' hf
            refine ⟨rfl, fun j h' bd' hj hgj hb => ?_⟩
            rcases Nat.lt_succ_iff_lt_or_eq.mp hj with hj | rfl
            · exact un j h' bd' hj hgj hb
            · rw [hgi] at hgj; cases hgj
              exact Classical.byContradiction fun hn => hc ⟨hn, hb⟩
      · rintro ρ₂ H₂ hI1 ok
        obtain ⟨q1, q2, q3, le2, F', ch', eF', q4, nd', hin', snd', un', gr'⟩ := uI1 _ _ _ hI1
        have hlen : (Src.list R (ts.map V.loc)).vals.length = g.length := by show (ts.map V.loc).length = _; rw [List.length_map, hts]
        rw [hlen] at un'
        have bF' := bound F' nd' hin'
        cases ch' with
        | true =>
          have := gr' rfl
          refine exs_nil ⟨2 * (g.length - F'.length) + 1, by simp; omega, mW1 _ _ _ ⟨q1, q2, q3, le2, F', true, eF', q4, nd', hin', snd', (fun h => by cases h), rfl⟩⟩
        | false =>
          obtain ⟨rfl, un⟩ := un' rfl
          refine exs_nil ⟨2 * (g.length - F'.length), by simp, mW1 _ _ _ ⟨q1, q2, q3, le2, F', false, eF', q4, nd', hin', snd', (fun _ h bd hm hb => ?_), rfl⟩⟩
          obtain ⟨j, hj, e⟩ := List.getElem_of_mem hm
          exact un j h bd hj (by rw [List.getElem?_eq_getElem hj, e]) hb
  rintro ρ₁ H₁ ⟨r3, le, F, eF, nd, hin, snd, cls⟩
  have bF := bound F nd hin
  repeat w_left
  refine vc_sorted_strs eF (by omega) fun out hp hs b lb nb => ?_
  refine q _ b out (le.trans (le_upd nb)) (upd_at _ _ _) hs (hp.symm.nodup nd) (fun x => ?_) (le.none nb) (Nat.le_trans hlo lb)
  rw [hp.mem_iff]
  exact ⟨snd x, fun h => h.sub cls⟩
theorem nullable_ok {P : Addr → Prop} (G : Gd K56 C) (hk : 1 < C.k) {R : Addr} {g : Gram} (hg : GrAt H P R g) (hl : g.length ≤ 60)
    (q : ∀ H' b out, H.le H' → H' b = some (.list (strsV out)) → sortedS out = true → out.Nodup → (∀ x, x ∈ out ↔ Bld g [] x) → H b = none → C.lo ≤ b → Q (.loc b) H') :
    FCall C ["g"] (bodyAt (K56 C.w.params) 60) (namesAt (K56 C.w.params) 60) [.loc R] H Q := by
  refine ⟨kp hk, rfl, fun env lo hlo h2 => ?_⟩
  change Exs _ (_ :: _) _ _ _
  repeat w_left
  refine ⟨by decide, fun e le ne => ?_⟩
  repeat w_left
  refine built_ok (given := []) (by exact G.cast rfl rfl) (kk hk (by decide)) (hg.le (le_upd ne)) hl (upd_at _ _ _) fun H' b out le' eb so nd mem nb lb => ?_
  exact q _ b out ((le_upd ne).trans le') eb so nd mem ((le_upd ne).none nb) (Nat.le_trans hlo lb)
theorem places_ok (G : Gd K56 C) (hk : 0 < C.k) {bA tA T : Addr} {bd toks hs : List Str} {ro : Str → Addr} {rw : Str → Nat → Addr} {tab : Tab} (hb : H bA = some (.list (strsV bd))) (ht : H tA = some (.list (strsV toks))) (hT : TabIs H T ro rw hs toks.length tab)
    {st : Nat} (hst : st ≤ toks.length) (hl : toks.length ≤ 1000) (q : ∀ H' b, H.le H' → H' b = some (.list (natsV (plAfter tab hs toks bd [st]))) → H b = none → Q (.loc b) H') :
    FCall C ["body", "start", "tokens", "tables"] (bodyAt (K56 C.w.params) 107) (namesAt (K56 C.w.params) 107) [.loc bA, .int st, .loc tA, .loc T] H Q := by
  refine ⟨hk, rfl, fun env lo hlo h2 => ?_⟩
  change Exs _ (_ :: _) _ _ _
  repeat w_left
  refine ⟨by simp, fun p0 lp0 np0 => ?_⟩
  repeat w_left
  refine ex_For0 (.inr rfl) (its_list ?_)
  repeat w_left
  refine ⟨bA, _, rfl, upd_old hb np0, ?_⟩
  refine loopI (fun k ρ' H' => And4 (ρ' "tokens" = some (.loc tA)) (ρ' "tables" = some (.loc T)) (H.le H') (∃ pl, And3 (ρ' "places" = some (.loc pl)) (H' pl = some (.list (natsV (plAfter tab hs toks (bd.take k) [st])))) (H pl = none))) fun I1 mI1 uI1 => ⟨mI1 _ _ _ ⟨rfl, rfl, le_upd np0, p0, rfl, upd_at _ _ _, np0⟩, ?_, ?_⟩
  · rintro k v ρ' H' hv hI1 ok
    obtain ⟨r1, r2, le, pl, r3, ep, np⟩ := uI1 _ _ _ hI1
    obtain ⟨s, hs', rfl⟩ := strs_get hv
    have okb : H' bA = some (.list (strsV bd)) := ok
    have ple : ∀ i ∈ plAfter tab hs toks (bd.take k) [st], i ≤ toks.length := plAfter_le (by simpa using hst)
    have enext : plAfter tab hs toks (bd.take (k + 1)) [st] = stepP tab hs toks s (plAfter tab hs toks (bd.take k) [st]) := by
      rw [take_snoc hs']; unfold plAfter; rw [List.foldl_append]; rfl
    generalize plAfter tab hs toks (bd.take k) [st] = ps at ep ple enext
    repeat w_left
    refine ⟨by decide, fun mv lmv nmv => ?_⟩
    have le1 := le_upd (o := .list []) nmv
    repeat w_left
    refine midI (fun ρ₁ H₁ => And5 (ρ₁ "tokens" = some (.loc tA)) (ρ₁ "tables" = some (.loc T)) (ρ₁ "moved" = some (.loc mv)) (H'.le H₁) (H₁ mv = some (.list (natsV (stepP tab hs toks s ps))))) (fun P1 mP1 uP1 => ?_) ?_
    · refine ex_For0 (.inr rfl) (its_range1 (Gd.blt (K := K56) (by exact G.cast rfl rfl) rfl rfl (by decide)) rfl ?_)
      repeat w_left
      refine vc_len_list (le1 _ _ (le _ _ ht)) ?_
      repeat w_left
      refine ⟨_, rfl, by simp; omega, by simp; omega, ?_⟩
      rw [show (((strsV toks).length : Nat) : Int) + 1 = ((toks.length + 1 : Nat) : Int) by simp, Int.toNat_natCast]
      refine loopI (fun j ρ₂ H₂ => And7 (ρ₂ "tokens" = some (.loc tA)) (ρ₂ "tables" = some (.loc T)) (ρ₂ "symbol" = some (.str s)) (ρ₂ "places" = some (.loc pl)) (ρ₂ "moved" = some (.loc mv)) (H'.le H₂) (H₂ mv = some (.list (natsV ((List.range j).filter (metB tab hs toks s ps)))))) fun I2 mI2 uI2 => ⟨mI2 _ _ _ ⟨r1, r2, rfl, r3, rfl, le1, upd_at _ _ _⟩, ?_, ?_⟩
      · rintro j v ρ₂ H₂ hv hI2 ok2
        obtain ⟨q1, q2, q3, q4, q5, le2, em⟩ := uI2 _ _ _ hI2
        obtain ⟨hj, rfl⟩ := rng_get hv
        rw [Int.zero_add]
        have hjn : j ≤ toks.length := by omega
        obtain ⟨x1, x2, x3⟩ := hT.le (le.trans le2)
        have ep2 := le2 _ _ ep
        have ht2 := le2 _ _ (le _ _ ht)
        refine exs_mid (fun ρ₃ H₃ => H₂.le H₃ ∧ ρ₃ "tokens" = some (.loc tA) ∧ ρ₃ "tables" = some (.loc T) ∧ ρ₃ "symbol" = some (.str s) ∧ ρ₃ "places" = some (.loc pl) ∧ ρ₃ "moved" = some (.loc mv) ∧ ρ₃ "j" = some (.int j) ∧ ρ₃ "met" = some (.bool (metB tab hs toks s ps j))) ?_ ?_
        · repeat w_left
          refine cok_in_dict x1 ?_
          repeat w_left
          rw [look_map]
          by_cases hsh : s ∈ hs
          · have em1 : metB tab hs toks s ps j = ps.any (fun i => tab s i j) := by unfold metB; rw [if_pos hsh]
            rw [if_pos hsh, if_pos (show (some (V.loc (ro s))).isSome = true from rfl)]
            repeat w_left
            refine ev_ListComp (its_list ?_)
            repeat w_left
            refine ⟨pl, _, rfl, ep2, ?_⟩
            refine ⟨fun m ys H₃ => H₃ = H₂ ∧ ys = boolsV ((ps.take m).map fun i => tab s i j), ⟨⟨rfl, rfl⟩, ?_⟩, ?_⟩
            · rintro m v ys H₃ hv ⟨rfl, rfl⟩ ok3 env'
              obtain ⟨i, hi, rfl⟩ := nats_get hv
              have hin := ple i (List.mem_of_getElem? hi)
              refine ifs_nil ?_
              show Ev _ _ _ _ _
              repeat w_left
              refine sok_dict x1 (v := .loc (ro s)) (by rw [look_map, if_pos hsh]) ?_
              repeat w_left
              refine sok_list (x2 s hsh) (by omega) (v := .loc (rw s i)) (by rw [Int.toNat_natCast, List.getElem?_map, List.getElem?_range (by omega)]; rfl) ?_
              repeat w_left
              refine sok_list (x3 s hsh i hin) (by omega) (v := .bool (tab s i j)) (by rw [Int.toNat_natCast, List.getElem?_map, List.getElem?_map, List.getElem?_range (by omega)]; rfl) ?_
              exact ⟨⟨rfl, by rw [take_snoc hi]; simp⟩, ok3⟩
            · rintro ys H₃ ⟨rfl, rfl⟩ c lc nc
              have : (Src.list pl (natsV ps)).vals.length = ps.length := by show (natsV ps).length = _; simp
              rw [this, List.take_length]
              repeat w_left
              refine vc_any_bools (upd_at _ _ _) ?_
              repeat w_left
              refine ⟨le_upd nc, q1, q2, q3, q4, q5, rfl, ?_⟩
              rw [em1]
              show some (V.bool _) = _
              rw [List.any_map]; rfl
          · have em1 : metB tab hs toks s ps j = decide (0 < j ∧ (j - 1) ∈ ps ∧ toks[j - 1]? = some s) := by unfold metB; rw [if_neg hsh]
            rw [if_neg hsh, if_neg (show ¬ ((none : Option V).isSome = true) from Bool.false_ne_true)]
            refine exs_cons (ex_Assign (.inl rfl) (ev_BoolOp (bl_and ?_)))
            repeat w_left
            by_cases h0 : 0 < j
            · rw [if_pos (by simpa using h0)]
              refine bl_and ?_
              repeat w_left
              refine cok_in_ints ep2 ?_
              repeat w_left
              have e1 : ((j : Int) - 1).toNat = j - 1 := by omega
              by_cases hp : (j - 1) ∈ ps
              · have hp' : ((j : Int) - 1) ∈ ps.map (fun (j : Nat) => (j : Int)) := mem_nats.mpr ⟨by omega, by rw [e1]; exact hp⟩
                rw [if_pos (by simpa using hp')]
                refine bl_one ?_
                repeat w_left
                have hlt : j - 1 < toks.length := by omega
                refine sok_list ht2 (by omega) (v := .str toks[j - 1]) (by rw [e1, List.getElem?_map, List.getElem?_eq_getElem hlt]; rfl) ?_
                repeat w_left
                refine ⟨HV.le_refl _, q1, q2, q3, q4, q5, rfl, ?_⟩
                show some (V.bool _) = _
                rw [em1]
                congr 2
                rw [Bool.eq_iff_iff, decide_eq_true_iff, List.getElem?_eq_getElem hlt]
                simp [h0, hp]
              · have hp' : ((j : Int) - 1) ∉ ps.map (fun (j : Nat) => (j : Int)) := fun h => hp (by have := (mem_nats.mp h).2; rwa [e1] at this)
                rw [if_neg (by simpa using hp')]
                refine exs_nil ⟨HV.le_refl _, q1, q2, q3, q4, q5, rfl, ?_⟩
                show some (V.bool _) = _
                rw [em1, decide_eq_false hp', decide_eq_false (fun h => hp h.2.1)]
            · rw [if_neg (by simpa using h0)]
              refine exs_nil ⟨HV.le_refl _, q1, q2, q3, q4, q5, rfl, ?_⟩
              show some (V.bool _) = _
              have d1 : decide ((j : Int) > 0) = false := decide_eq_false (by omega)
              have d2 : decide (0 < j ∧ (j - 1) ∈ ps ∧ toks[j - 1]? = some s) = false := decide_eq_false fun h => h0 h.1
              rw [em1, d1, d2]
        · rintro ρ₃ H₃ ⟨le3, w1, w2, w3, w4, w5, w6, w7⟩
          have er : (List.range (j + 1)).filter (metB tab hs toks s ps) = (List.range j).filter (metB tab hs toks s ps) ++ if metB tab hs toks s ps j = true then [j] else [] := by
            rw [List.range_succ, List.filter_append]
            congr 1
            by_cases hm : metB tab hs toks s ps j = true
            · rw [if_pos hm]; simp [hm]
            · rw [if_neg hm]; simp [hm]
          repeat w_left
          split
          · rename_i hm
            refine exs_cons (ex_append ?_)
            repeat w_left
            refine ⟨mv, rfl, ⟨_, le3 _ _ em⟩, ?_⟩
            repeat w_left
            refine ⟨_, le3 _ _ em, lmv, ?_, ?_⟩
            · have := List.length_filter_le (metB tab hs toks s ps) (List.range j)
              simp at this ⊢; omega
            repeat w_left
            refine ⟨mI2 _ _ _ ⟨w1, w2, w3, w4, w5, le_turn (le2.trans le3) nmv, ?_⟩, ok2⟩
            rw [upd_at, er, if_pos hm]; simp
          · rename_i hm
            repeat w_left
            refine ⟨mI2 _ _ _ ⟨w1, w2, w3, w4, w5, le2.trans le3, ?_⟩, ok2⟩
            rw [er, if_neg hm, List.append_nil]; exact le3 _ _ em
      · rintro ρ₂ H₂ hI2 ok2
        obtain ⟨q1, q2, q3, q4, q5, le2, em⟩ := uI2 _ _ _ hI2
        rw [rng_len] at em
        exact mP1 _ _ ⟨q1, q2, q5, le2, em⟩
    · rintro ρ₁ H₁ ⟨q1, q2, q5, le2, em⟩
      repeat w_left
      refine ⟨mI1 _ _ _ ⟨q1, q2, le.trans le2, mv, rfl, ?_, le.none nmv⟩, le2 _ _ okb⟩
      rw [enext]; exact em
  · rintro ρ' H' hI1 ok
    obtain ⟨r1, r2, le, pl, r3, ep, np⟩ := uI1 _ _ _ hI1
    have : (Src.list bA (strsV bd)).vals.length = bd.length := by show (strsV bd).length = _; simp
    rw [this, List.take_length] at ep
    repeat w_left
    exact q _ _ le ep np
theorem span_ok {P : Addr → Prop} (G : Gd K56 C) (hk : 1 < C.k) {R tA : Addr} {g : Gram} {toks : List Str} (hg : GrAt H P R g) (hl : g.length ≤ 60) (ht : H tA = some (.list (strsV toks))) (htl : toks.length ≤ 900)
    (q : ∀ H' T ro rw tab, H.le H' → TabIs H' T ro rw (dd (g.map (·.1))) toks.length tab → soundT g (dd (g.map (·.1))) toks tab → closedT g (dd (g.map (·.1))) toks tab → Q (.loc T) H') :
    FCall C ["g", "tokens"] (bodyAt (K56 C.w.params) 112) (namesAt (K56 C.w.params) 112) [.loc R, .loc tA] H Q := by
  refine ⟨kp hk, rfl, fun env lo hlo h2 => ?_⟩
  have hk0 : 0 < C.k - 1 := kk hk (by decide)
  have hhs : ∀ s, s ∈ dd (g.map (·.1)) ↔ s ∈ g.map (·.1) := fun s => mem_dd
  have hnd : (dd (g.map (·.1))).Nodup := dd_nodup _
  have hsl : (dd (g.map (·.1))).length ≤ 60 := Nat.le_trans (dd_length _) (by rw [List.length_map]; exact hl)
  change Exs _ (_ :: _) _ _ _
  repeat w_left
  have en : (((strsV toks).length : Nat) : Int) = (toks.length : Int) := by simp
  rw [en]
  generalize hnn : toks.length = n at *
  refine ev_Dict0 fun T lT nT => ?_
  have hg1 := hg.le (le_upd (o := .dict []) nT)
  repeat w_left
  refine midI (fun ρ₁ H₁ => And6 (ρ₁ "g" = some (.loc R)) (ρ₁ "tokens" = some (.loc tA)) (ρ₁ "n" = some (.int n)) (ρ₁ "tables" = some (.loc T)) (H.le H₁) (∃ ro rw, TabIs H₁ T ro rw (dd (g.map (·.1))) n (fun _ _ _ => false) ∧ SepT H lo rw (dd (g.map (·.1))) n)) (fun P1 mP1 uP1 => ?_) ?_
  · refine ex_For0 (.inl rfl) (its_list ?_)
    repeat w_left
    refine heads_ok (by exact G.cast rfl rfl) hk0 hg1 (by omega) fun H1 hd le1 ehd nhd lhd => ?_
    generalize dd (g.map (·.1)) = hs at *
    refine ⟨hd, _, rfl, ehd, ?_⟩
    refine loopI (fun k ρ' H' => And6 (ρ' "g" = some (.loc R)) (ρ' "tokens" = some (.loc tA)) (ρ' "n" = some (.int n)) (ρ' "tables" = some (.loc T)) (H.le H') (∃ ro rw, TabIs H' T ro rw (hs.take k) n (fun _ _ _ => false) ∧ SepT H lo rw (hs.take k) n)) fun I1 mI1 uI1 => ⟨mI1 _ _ _ ⟨rfl, rfl, rfl, rfl, (le_upd nT).trans le1, fun _ => 0, fun _ _ => 0, ⟨le1 _ _ (upd_at _ _ _), by simp, by simp⟩, by simp, by simp⟩, ?_, ?_⟩
    · rintro k v ρ' H' hv hI1 ok
      obtain ⟨r1, r2, r3, r4, le, ro, rw, tb, sp⟩ := uI1 _ _ _ hI1
      obtain ⟨h, hh, rfl⟩ := strs_get hv
      have okh : H' hd = some (.list (strsV hs)) := ok
      have hnot : h ∉ hs.take k := fun hm => by
        obtain ⟨hkl, e⟩ := List.getElem?_eq_some_iff.mp hh
        obtain ⟨m, hm1, e2⟩ := List.getElem_of_mem hm
        rw [List.length_take] at hm1
        rw [List.getElem_take] at e2
        have := (List.getElem_inj (h₀ := by omega) (h₁ := hkl) hnd).mp (e2.trans e.symm)
        omega
      refine exs_cons (ex_SetItem (ev_ListComp (its_range1 (Gd.blt (K := K56) (by exact G.cast rfl rfl) rfl rfl (by decide)) rfl ?_)))
      repeat w_left
      refine ⟨_, rfl, by omega, by omega, ?_⟩
      rw [show ((n : Int) + 1).toNat = n + 1 by omega]
      refine ⟨fun m ys H₁ => H'.le H₁ ∧ ∃ rows : List Addr, ys = rows.map V.loc ∧ rows.length = m ∧ rows.Nodup ∧ ∀ r ∈ rows, H₁ r = some (.list (boolsV (List.replicate (n + 1) false))) ∧ H' r = none ∧ lo ≤ r, ⟨⟨HV.le_refl _, [], rfl, rfl, by simp, by simp⟩, ?_⟩, ?_⟩
      · rintro m v ys H₁ hv ⟨le3, rows, rfl, hrl, hrn, hr⟩ ok' env'
        refine ifs_nil ?_
        show Ev _ _ _ _ _
        repeat w_left
        refine ⟨by simp, fun c1 lc1 nc1 => ?_⟩
        have x1 := le_upd (o := .list [.bool false]) nc1
        repeat w_left
        refine bok_mul_list1 (upd_at _ _ _) (by omega) (by omega) fun c2 lc2 nc2 => ?_
        rw [show ((n : Int) + 1).toNat = n + 1 by omega]
        have x2 := x1.trans (le_upd (o := .list (List.replicate (n + 1) (.bool false))) nc2)
        have n2 : H₁ c2 = none := x1.none nc2
        refine ⟨⟨le3.trans x2, rows ++ [c2], by simp, by simp [hrl], ?_, fun r hr' => ?_⟩, ok'⟩
        · rw [List.nodup_append]
          refine ⟨hrn, by simp, fun a ha b hb => ?_⟩
          rw [List.mem_singleton] at hb; subst hb
          rintro rfl
          rw [(hr _ ha).1] at n2; cases n2
        · rcases List.mem_append.mp hr' with hr' | hr'
          · obtain ⟨h1, h2, h3⟩ := hr r hr'
            exact ⟨x2 _ _ h1, h2, h3⟩
          · rw [List.mem_singleton] at hr'; subst hr'
            exact ⟨by rw [upd_at]; simp, le3.none n2, lc2⟩
      · rintro ys H₁ ⟨le3, rows, rfl, hrl, hrn, hr⟩ oa loa noa
        rw [rng_len] at hrl
        repeat w_left
        have hT1 : upd H₁ oa (.list (rows.map V.loc)) T = some (.dict ((hs.take k).map fun h => (h, V.loc (ro h)))) := upd_old (le3 _ _ tb.1) noa
        refine .inr ⟨T, h, _, rfl, rfl, hT1, lT, ?_, ?_⟩
        · have s1 := store_length ((hs.take k).map fun h => (h, V.loc (ro h))) h (.loc oa)
          have s2 : ((hs.take k).map fun h => (h, V.loc (ro h))).length ≤ 60 := by rw [List.length_map, List.length_take]; omega
          omega
        · rw [store_new (by rw [look_map, if_neg hnot])]
          obtain ⟨tb', sp'⟩ := tb.add sp hnot le3 hrl hrn hr le noa
          rw [← take_snoc hh] at tb' sp'
          repeat w_left
          refine ⟨mI1 _ _ _ ⟨r1, r2, r3, r4, ?_, _, _, tb', sp'⟩, ?_⟩
          · exact le_turn ((le.trans le3).trans (le_upd noa)) nT
          · show upd _ T _ hd = _
            refine upd_keep (fun e => ?_) (upd_old (le3 _ _ okh) noa)
            rw [e, tb.1] at okh; cases okh
    · rintro ρ' H' hI1 ok
      obtain ⟨r1, r2, r3, r4, le, ro, rw, tb, sp⟩ := uI1 _ _ _ hI1
      have : (Src.list hd (strsV hs)).vals.length = hs.length := by show (strsV hs).length = _; simp
      rw [this, List.take_length] at tb sp
      exact mP1 _ _ ⟨r1, r2, r3, r4, le, ro, rw, tb, sp⟩
  rintro ρ₁ H1 ⟨r1, r2, r3, r4, le1, ro, rw, tb, sp⟩
  obtain ⟨ts, eR, rs⟩ := hg
  have hts : ts.length = g.length := rs.length
  generalize dd (g.map (·.1)) = hs at *
  repeat w_left
  refine midI (fun ρ₂ H₂ => And3 (ρ₂ "tables" = some (.loc T)) (H.le H₂) (∃ tab, And3 (TabIs H₂ T ro rw hs n tab) (soundT g hs toks tab) (closedT g hs toks tab))) (fun P2 mP2 uP2 => ?_) ?_
  · refine whileI (fun N ρ' H' => And6 (ρ' "g" = some (.loc R)) (ρ' "tokens" = some (.loc tA)) (ρ' "n" = some (.int n)) (ρ' "tables" = some (.loc T)) (H.le H') (∃ tab ch, And5 (TabIs H' T ro rw hs n tab) (soundT g hs toks tab) (ρ' "changed" = some (.bool ch)) ((ch = false → closedT g hs toks tab)) (N = 2 * (falses hs n tab).length + (if ch = true then 1 else 0)))) _ ⟨r1, r2, r3, r4, le1, _, true, tb, (fun h i j e => by cases e), rfl, (fun h => by cases h), rfl⟩ fun W1 mW1 uW1 hW1 => ex_While0 W1 ?_ _ hW1
    rintro N ρ' H' hN1
    obtain ⟨r1, r2, r3, r4, le, tab0, ch0, tb0, snd0, r5, cl0, rfl⟩ := uW1 _ _ _ hN1
    repeat w_left
    cases ch0 with
    | false =>
      rw [if_neg (by decide)]
      exact mP2 _ _ ⟨r4, le, tab0, tb0, snd0, cl0 rfl⟩
    | true =>
      rw [if_pos rfl]
      repeat w_left
      refine ex_For0 (.inl rfl) (its_list ?_)
      repeat w_left
      refine ⟨R, _, rfl, le _ _ eR, ?_⟩
      refine loopI (fun r ρ₂ H₂ => And6 (ρ₂ "g" = some (.loc R)) (ρ₂ "tokens" = some (.loc tA)) (ρ₂ "n" = some (.int n)) (ρ₂ "tables" = some (.loc T)) (H.le H₂) (∃ tab ch, And5 (TabIs H₂ T ro rw hs n tab) (soundT g hs toks tab) (ρ₂ "changed" = some (.bool ch)) ((ch = true → (falses hs n tab).length < (falses hs n tab0).length)) ((ch = false → tab = tab0 ∧ ∀ r' h bd, r' < r → g[r']? = some (h, bd) → ∀ i, i ≤ n → ∀ j ∈ plAfter tab0 hs toks bd [i], tab0 h i j = true)))) fun I2 mI2 uI2 => ⟨mI2 _ _ _ ⟨r1, r2, r3, r4, le, tab0, false, tb0, snd0, rfl, (fun h => by cases h), fun _ => ⟨rfl, fun r' _ _ h => absurd h (Nat.not_lt_zero _)⟩⟩, ?_, ?_⟩
      · rintro r v ρ₂ H₂ hv hI2 ok
        obtain ⟨q1, q2, q3, q4, le2, tab1, ch1, tb1, snd1, q5, lt1, un1⟩ := uI2 _ _ _ hI2
        obtain ⟨t, b, h, bd, rfl, hgi, _, _, et, eb⟩ := rs.get' hv
        have hgm : (h, bd) ∈ g := List.mem_of_getElem? hgi
        have hh : h ∈ hs := (hhs h).mpr (List.mem_map_of_mem (f := (·.1)) hgm)
        have okR : H₂ R = some (.list (ts.map V.loc)) := ok
        refine exs_cons (ex_For0 (.inl rfl) (its_range1 (Gd.blt (K := K56) (by exact G.cast rfl rfl) rfl rfl (by decide)) rfl ?_))
        repeat w_left
        refine ⟨_, rfl, by omega, by omega, ?_⟩
        rw [show ((n : Int) + 1).toNat = n + 1 by omega]
        refine loopI (fun i ρ₃ H₃ => And7 (ρ₃ "g" = some (.loc R)) (ρ₃ "tokens" = some (.loc tA)) (ρ₃ "n" = some (.int n)) (ρ₃ "tables" = some (.loc T)) (ρ₃ "rule" = some (.loc t)) (H.le H₃) (∃ tab ch, And5 (TabIs H₃ T ro rw hs n tab) (soundT g hs toks tab) (ρ₃ "changed" = some (.bool ch)) ((ch = true → (falses hs n tab).length < (falses hs n tab0).length)) ((ch = false → tab = tab0 ∧ (∀ r' h bd, r' < r → g[r']? = some (h, bd) → ∀ i, i ≤ n → ∀ j ∈ plAfter tab0 hs toks bd [i], tab0 h i j = true) ∧ ∀ i', i' < i → ∀ j ∈ plAfter tab0 hs toks bd [i'], tab0 h i' j = true)))) fun I3 mI3 uI3 => ⟨mI3 _ _ _ ⟨q1, q2, q3, q4, rfl, le2, tab1, ch1, tb1, snd1, q5, lt1, fun e => ⟨(un1 e).1, (un1 e).2, fun i' h => absurd h (Nat.not_lt_zero _)⟩⟩, ?_, ?_⟩
        · rintro i v ρ₃ H₃ hv hI3 oki
          obtain ⟨w1, w2, w3, w4, w5, le3, tab2, ch2, tb2, snd2, w6, lt2, un2⟩ := uI3 _ _ _ hI3
          obtain ⟨hi, rfl⟩ := rng_get hv
          rw [Int.zero_add]
          have hin : i ≤ n := by omega
          refine exs_cons (ex_For0 (.inl rfl) (its_list ?_))
          repeat w_left
          refine sok_tuple (le3 _ _ et) (by decide) rfl ?_
          repeat w_left
          refine places_ok (by exact G.cast rfl rfl) hk0 (le3 _ _ eb) (le3 _ _ ht) (by rw [hnn]; exact tb2) (by rw [hnn]; exact hin) (by omega) fun H4 pa le4 epa npa => ?_
          have fact : ∀ j ∈ plAfter tab2 hs toks bd [i], i ≤ j ∧ j ≤ n ∧ Der g h (sg toks i j) := fun j hj => by
            obtain ⟨i', hi', hij, hd⟩ := plAfter_sound hhs snd2 hj
            rw [List.mem_singleton] at hi'; subst hi'
            exact ⟨hij, hnn ▸ plAfter_le (by rw [hnn]; simpa using hin) j hj, .rule hgm hd⟩
          refine ⟨pa, _, rfl, epa, ?_⟩
          refine loopI (fun m ρ₄ H₅ => And8 (ρ₄ "g" = some (.loc R)) (ρ₄ "tokens" = some (.loc tA)) (ρ₄ "n" = some (.int n)) (ρ₄ "tables" = some (.loc T)) (ρ₄ "rule" = some (.loc t)) (ρ₄ "i" = some (.int i)) (H.le H₅) (∃ tab ch, And5 (TabIs H₅ T ro rw hs n tab) (soundT g hs toks tab) (ρ₄ "changed" = some (.bool ch)) ((ch = true → (falses hs n tab).length < (falses hs n tab0).length)) ((ch = false → tab = tab0 ∧ ch2 = false ∧ ∀ m' j, m' < m → (plAfter tab2 hs toks bd [i])[m']? = some j → tab0 h i j = true)))) fun I4 mI4 uI4 => ⟨mI4 _ _ _ ⟨w1, w2, w3, w4, w5, rfl, le3.trans le4, tab2, ch2, tb2.le le4, snd2, w6, lt2, fun e => ⟨(un2 e).1, e, fun m' _ h => absurd h (Nat.not_lt_zero _)⟩⟩, ?_, ?_⟩
          · rintro m v ρ₄ H₅ hv hI4 okp
            obtain ⟨z1, z2, z3, z4, z5, z6, le5, tab3, ch3, tb3, snd3, z7, lt3, un3⟩ := uI4 _ _ _ hI4
            obtain ⟨j, hj, rfl⟩ := nats_get hv
            obtain ⟨f1, f2, f3⟩ := fact j (List.mem_of_getElem? hj)
            obtain ⟨x1, x2, x3⟩ := tb3
            have okp' : H₅ pa = some (.list (natsV (plAfter tab2 hs toks bd [i]))) := okp
            refine exs_cons (ex_If (t_Not ?_))
            refine t_Sub ?_
            repeat w_left
            refine sok_tuple (le5 _ _ et) (by decide) rfl ?_
            refine sok_dict x1 (v := .loc (ro h)) (by rw [look_map, if_pos hh]) ?_
            repeat w_left
            refine sok_list (x2 h hh) (by omega) (v := .loc (rw h i)) (by rw [Int.toNat_natCast, List.getElem?_map, List.getElem?_range (by omega)]; rfl) ?_
            repeat w_left
            refine sok_list (x3 h hh i hin) (by omega) (v := .bool (tab3 h i j)) (by rw [Int.toNat_natCast, List.getElem?_map, List.getElem?_map, List.getElem?_range (by omega)]; rfl) ?_
            repeat w_left
            cases hval : tab3 h i j with
            | true =>
              rw [if_neg (by decide)]
              repeat w_left
              refine ⟨mI4 _ _ _ ⟨z1, z2, z3, z4, z5, z6, le5, tab3, ch3, ⟨x1, x2, x3⟩, snd3, z7, lt3, fun e => ?_⟩, okp⟩
              obtain ⟨e1, e2, e3⟩ := un3 e
              refine ⟨e1, e2, fun m' j' hm hj' => ?_⟩
              rcases Nat.lt_succ_iff_lt_or_eq.mp hm with hm | rfl
              · exact e3 m' j' hm hj'
              · rw [hj] at hj'; cases hj'; rw [← e1]; exact hval
            | false =>
              rw [if_pos (by decide)]
              refine exs_cons (ex_SetItem ?_)
              repeat w_left
              refine sok_tuple (le5 _ _ et) (by decide) rfl ?_
              refine sok_dict x1 (v := .loc (ro h)) (by rw [look_map, if_pos hh]) ?_
              repeat w_left
              refine sok_list (x2 h hh) (by omega) (v := .loc (rw h i)) (by rw [Int.toNat_natCast, List.getElem?_map, List.getElem?_range (by omega)]; rfl) ?_
              repeat w_left
              obtain ⟨s1, s2⟩ := sp.1 h hh i hin
              refine .inl ⟨rw h i, (j : Int), _, rfl, rfl, x3 h hh i hin, s1, by omega, by simp; omega, ?_⟩
              rw [Int.toNat_natCast]
              have tb4 := TabIs.set (j := j) ⟨x1, x2, x3⟩ hh hin fun a ha k hk e => sp.2 a ha h hh k i hk hin e
              repeat w_left
              refine ⟨mI4 _ _ _ ⟨z1, z2, z3, z4, z5, z6, le_turn le5 s2, setT tab3 h i j, true, tb4, ?_, rfl, fun _ => ?_, fun e => by cases e⟩, ?_⟩
              · intro h' i' j' e
                unfold setT at e
                split at e
                · rename_i c; obtain ⟨rfl, rfl, rfl⟩ := c
                  exact ⟨f1, hnn ▸ f2, f3⟩
                · exact snd3 h' i' j' e
              · have := falses_set (tab := tab3) hh hin f2 hval
                cases ch3 with
                | true => have := lt3 rfl; omega
                | false => have := (un3 rfl).1; rw [this] at hval ⊢; rw [← this]; rw [← this] at hval; rw [this]; rw [this] at hval; exact falses_set hh hin f2 hval
              · show upd H₅ _ _ pa = _
                refine upd_keep (fun e => ?_) okp'
                have h1 := x3 h hh i hin
                rw [← e, okp'] at h1
                have h1 := Option.some.inj h1
                injection h1 with h1
                have h0 := congrArg (fun l => l[0]?) h1
                simp at h0
          · rintro ρ₄ H₅ hI4 okp
            obtain ⟨z1, z2, z3, z4, z5, z6, le5, tab3, ch3, tb3, snd3, z7, lt3, un3⟩ := uI4 _ _ _ hI4
            have hlen : (Src.list pa (natsV (plAfter tab2 hs toks bd [i]))).vals.length = (plAfter tab2 hs toks bd [i]).length := by show (natsV _).length = _; simp
            rw [hlen] at un3
            refine exs_nil ⟨mI3 _ _ _ ⟨z1, z2, z3, z4, z5, le5, tab3, ch3, tb3, snd3, z7, lt3, fun e => ?_⟩, oki⟩
            obtain ⟨e1, e2, e3⟩ := un3 e
            obtain ⟨d1, d2, d3⟩ := un2 e2
            refine ⟨e1, d2, fun i' hi' j hj => ?_⟩
            rcases Nat.lt_succ_iff_lt_or_eq.mp hi' with hi' | rfl
            · exact d3 i' hi' j hj
            · rw [← d1] at hj
              obtain ⟨m', hm', rfl⟩ := List.getElem_of_mem hj
              exact e3 m' _ hm' (by rw [List.getElem?_eq_getElem hm'])
        · rintro ρ₃ H₃ hI3 oki
          obtain ⟨w1, w2, w3, w4, w5, le3, tab2, ch2, tb2, snd2, w6, lt2, un2⟩ := uI3 _ _ _ hI3
          rw [rng_len] at un2
          refine exs_nil ⟨mI2 _ _ _ ⟨w1, w2, w3, w4, le3, tab2, ch2, tb2, snd2, w6, lt2, fun e => ?_⟩, le3 _ _ eR⟩
          obtain ⟨d1, d2, d3⟩ := un2 e
          refine ⟨d1, fun r' h' bd' hr' hg' i hi j hj => ?_⟩
          rcases Nat.lt_succ_iff_lt_or_eq.mp hr' with hr' | rfl
          · exact d2 r' h' bd' hr' hg' i hi j hj
          · rw [hgi] at hg'; cases hg'
            exact d3 i (by omega) j hj
      · rintro ρ₂ H₂ hI2 ok
        obtain ⟨q1, q2, q3, q4, le2, tab1, ch1, tb1, snd1, q5, lt1, un1⟩ := uI2 _ _ _ hI2
        have hlen : (Src.list R (ts.map V.loc)).vals.length = g.length := by show (ts.map V.loc).length = _; rw [List.length_map, hts]
        rw [hlen] at un1
        cases ch1 with
        | true =>
          have := lt1 rfl
          exact exs_nil ⟨2 * (falses hs n tab1).length + 1, by simp; omega, mW1 _ _ _ ⟨q1, q2, q3, q4, le2, tab1, true, tb1, snd1, q5, (fun h => by cases h), rfl⟩⟩
        | false =>
          obtain ⟨rfl, un⟩ := un1 rfl
          refine exs_nil ⟨2 * (falses hs n tab1).length, by simp, mW1 _ _ _ ⟨q1, q2, q3, q4, le2, tab1, false, tb1, snd1, q5, (fun _ h bd hm i hi j hj => ?_), rfl⟩⟩
          obtain ⟨r', hr', e⟩ := List.getElem_of_mem hm
          exact un r' h bd hr' (by rw [List.getElem?_eq_getElem hr', e]) i (hnn ▸ hi) j hj
  rintro ρ₂ H₂ ⟨w1, le2, tab, tb2, snd2, cl2⟩
  repeat w_left
  exact q _ T ro rw tab le2 tb2 snd2 cl2
theorem derives_ok {P : Addr → Prop} (G : Gd K56 C) (hk : 2 < C.k) {R tA : Addr} {g : Gram} {toks : List Str} {h : Str} (hg : GrAt H P R g) (hl : g.length ≤ 60) (ht : H tA = some (.list (strsV toks))) (htl : toks.length ≤ 900) (hh : h ∈ g.map (·.1))
    (q : ∀ H' b, H.le H' → (b = true ↔ Der g h toks) → Q (.bool b) H') :
    FCall C ["g", "head", "tokens"] (bodyAt (K56 C.w.params) 119) (namesAt (K56 C.w.params) 119) [.loc R, .str h, .loc tA] H Q := by
  refine ⟨kp hk, rfl, fun env lo hlo h2 => ?_⟩
  change Exs _ (_ :: _) _ _ _
  repeat w_left
  refine span_ok (by exact G.cast rfl rfl) (kk hk (by decide)) hg hl ht htl fun H1 T ro rw tab le tb snd cl => ?_
  have hh' : h ∈ dd (g.map (·.1)) := mem_dd.mpr hh
  obtain ⟨x1, x2, x3⟩ := tb
  have ht1 := le _ _ ht
  repeat w_left
  refine sok_dict x1 (v := .loc (ro h)) (by rw [look_map, if_pos hh']) ?_
  repeat w_left
  refine sok_list (x2 h hh') (by decide) (v := .loc (rw h 0)) (by rw [show (0 : Int).toNat = 0 from rfl, List.getElem?_map, List.getElem?_range (by omega)]; rfl) ?_
  repeat w_left
  refine sok_list (x3 h hh' 0 (by omega)) (by omega) (v := .bool (tab h 0 toks.length)) (by rw [Int.toNat_natCast, List.length_map, List.getElem?_map, List.getElem?_map, List.getElem?_range (by omega)]; rfl) ?_
  exact q _ _ le (tab_iff (fun s => mem_dd) snd cl hh')
theorem derivesg_ok {P : Addr → Prop} (G : Gd K56 C) (hk : 3 < C.k) {R tA : Addr} {g : Gram} {toks : List Str} (hg : GrAt H P R g) (hl : g.length ≤ 60) (hne : g ≠ []) (ht : H tA = some (.list (strsV toks))) (htl : toks.length ≤ 900)
    (q : ∀ H' b, H.le H' → (b = true ↔ Der g (g.headD ("", [])).1 toks) → Q (.bool b) H') :
    FCall C ["g", "tokens"] (bodyAt (K56 C.w.params) 126) (namesAt (K56 C.w.params) 126) [.loc R, .loc tA] H Q := by
  refine ⟨kp hk, rfl, fun env lo hlo h2 => ?_⟩
  have hg' := hg
  obtain ⟨ts, eR, rs⟩ := hg
  obtain ⟨r0, gt, rfl⟩ := List.exists_cons_of_ne_nil hne
  obtain ⟨t0, b0, ht0, _, _, et0, eb0⟩ := rs.get (i := 0) (h := r0.1) (bd := r0.2) rfl
  change Exs _ (_ :: _) _ _ _
  repeat w_left
  refine sok_list eR (by decide) (v := .loc t0) (by rw [show (0 : Int).toNat = 0 from rfl, List.getElem?_map, ht0]; rfl) ?_
  refine ev_int ?_
  refine sok_tuple et0 (by decide) rfl ?_
  repeat w_left
  exact derives_ok (by exact G.cast rfl rfl) (kk hk (by decide)) hg' hl ht htl (by simp) q
theorem fos_ok (G : Gd K56 C) (hk : 1 < C.k) {sA F nA : Addr} {syms nul hs U : List Str} {fa : Str → Addr} {fs : Fs} (hs' : H sA = some (.list (strsV syms))) (hF : FsAt H F fa hs fs) (hn : H nA = some (.list (strsV nul))) (hU : U.length ≤ 30)
    (hfU : ∀ h ∈ hs, (fs h).Nodup ∧ ∀ x ∈ fs h, x ∈ U) (hsU : ∀ s ∈ syms, s ∈ U)
    (q : ∀ H' t bl bs, H.le H' → H' t = some (.tuple [.loc bl, .bool (fosVan hs nul syms)]) → H' bl = some (.list (strsV bs)) → sortedS bs = true → bs.Nodup → (∀ x, x ∈ bs ↔ x ∈ fosSet fs hs nul syms) → (∀ x ∈ bs, x ∈ U) → H bl = none → Q (.loc t) H') :
    FCall C ["symbols", "firsts", "nullables"] (bodyAt (K56 C.w.params) 67) (namesAt (K56 C.w.params) 67) [.loc sA, .loc F, .loc nA] H Q := by
  refine ⟨kp hk, rfl, fun env lo hlo h2 => ?_⟩
  have hk0 : 0 < C.k - 1 := kk hk (by decide)
  change Exs _ (_ :: _) _ _ _
  repeat w_left
  refine ⟨by decide, fun b0 lb0 nb0 => ?_⟩
  repeat w_left
  refine ex_For (.inl rfl) (its_list ?_)
  repeat w_left
  refine ⟨sA, _, rfl, upd_old hs' nb0, ?_⟩
  refine loopI (fun i ρ' H' => And4 (ρ' "firsts" = some (.loc F)) (ρ' "nullables" = some (.loc nA)) (H.le H') (∃ bg bs, And8 (ρ' "begins" = some (.loc bg)) (H' bg = some (.list (strsV bs))) (sortedS bs = true) (bs.Nodup) ((∀ x ∈ bs, x ∈ U)) ((∀ x, x ∈ fosSet fs hs nul syms ↔ x ∈ bs ∨ x ∈ fosSet fs hs nul (syms.drop i))) (fosVan hs nul syms = fosVan hs nul (syms.drop i)) (H bg = none))) fun I1 mI1 uI1 => ⟨mI1 _ _ _ ⟨rfl, rfl, le_upd nb0, b0, [], rfl, upd_at _ _ _, rfl, by simp, by simp, by simp, rfl, nb0⟩, ?_, ?_⟩
  · rintro i v ρ' H' hv hI1 ok
    obtain ⟨r1, r2, le, bg, bs, r3, eb, so, nd, sub, mem, van, nbg⟩ := uI1 _ _ _ hI1
    obtain ⟨s, hx, rfl⟩ := strs_get hv
    have hlb := nodup_sub_len nd sub
    have okS : H' sA = some (.list (strsV syms)) := ok
    have hsm : s ∈ U := hsU s (List.mem_of_getElem? hx)
    have hdrop : syms.drop i = s :: syms.drop (i + 1) := by
      obtain ⟨hlt, e⟩ := List.getElem?_eq_some_iff.mp hx
      rw [List.drop_eq_getElem_cons hlt, e]
    rw [hdrop] at mem van
    obtain ⟨f1, f2⟩ := hF.le le
    repeat w_left
    refine cok_notin_dict f1 ?_
    repeat w_left
    rw [look_map]
    by_cases hsh : s ∈ hs
    · rw [if_pos hsh, if_neg (show ¬ ((!(some (V.loc (fa s))).isSome) = true) from Bool.false_ne_true)]
      obtain ⟨g1, g2⟩ := hfU s hsh
      have hlf := nodup_sub_len g1 g2
      repeat w_left
      refine sok_dict f1 (v := .loc (fa s)) (by rw [look_map, if_pos hsh]) ?_
      repeat w_left
      refine merged_ok (by exact G.cast rfl rfl) hk0 eb (f2 s hsh) (by omega) fun r H1 out le1 hp hso er lr nr => ?_
      have nd1 : out.Nodup := hp.symm.nodup (dd_nodup _)
      have mem1 : ∀ x, x ∈ out ↔ x ∈ bs ∨ x ∈ fs s := fun x => by rw [hp.mem_iff, mem_dd, List.mem_append]
      have sub1 : ∀ x ∈ out, x ∈ U := fun x hx => ((mem1 x).mp hx).elim (sub x) (g2 x)
      repeat w_left
      refine cok_notin_strs (le1 _ _ (le _ _ hn)) ?_
      repeat w_left
      by_cases hsn : s ∈ nul
      · rw [if_neg (by simp [hsn])]
        repeat w_left
        refine ⟨mI1 _ _ _ ⟨r1, r2, le.trans le1, r, out, rfl, er, hso, nd1, sub1, fun x => ?_, ?_, le.none nr⟩, le1 _ _ okS⟩
        · rw [mem x, mem1 x, fosSet, if_pos hsh, if_pos hsn, List.mem_append, or_assoc]
        · rw [van, fosVan, decide_eq_true ⟨hsh, hsn⟩, Bool.true_and]
      · rw [if_pos (by simp [hsn])]
        repeat w_left
        refine ⟨by simp, fun t lt nt => ?_⟩
        have ev : fosVan hs nul syms = false := by rw [van, fosVan, decide_eq_false (fun h => hsn h.2), Bool.false_and]
        refine q _ t r out ((le.trans le1).trans (le_upd nt)) (by rw [upd_at, ev]) (upd_old er nt) hso nd1 (fun x => ?_) sub1 (le.none nr)
        rw [mem x, mem1 x, fosSet, if_pos hsh, if_neg hsn]
    · rw [if_neg hsh, if_pos (show (!(none : Option V).isSome) = true from rfl)]
      repeat w_left
      refine ⟨by simp, fun c lc nc => ?_⟩
      repeat w_left
      refine merged_ok (by exact G.cast rfl rfl) hk0 (ys := [s]) (upd_old eb nc) (upd_at _ _ _) (by simp; omega) fun r H1 out le1 hp hso er lr nr => ?_
      have nd1 : out.Nodup := hp.symm.nodup (dd_nodup _)
      have mem1 : ∀ x, x ∈ out ↔ x ∈ bs ∨ x = s := fun x => by rw [hp.mem_iff, mem_dd, List.mem_append, List.mem_singleton]
      have sub1 : ∀ x ∈ out, x ∈ U := fun x hx => ((mem1 x).mp hx).elim (sub x) (fun e => e ▸ hsm)
      repeat w_left
      refine ⟨by simp, fun t lt nt => ?_⟩
      have ev : fosVan hs nul syms = false := by rw [van, fosVan, decide_eq_false (fun h => hsh h.1), Bool.false_and]
      refine q _ t r out (((le.trans (le_upd nc)).trans le1).trans (le_upd nt)) (by rw [upd_at, ev]) (upd_old er nt) hso nd1 (fun x => ?_) sub1 ((le.trans (le_upd nc)).none nr)
      rw [mem x, mem1 x, fosSet, if_neg hsh, List.mem_singleton]
  · rintro ρ' H' hI1 ok
    obtain ⟨r1, r2, le, bg, bs, r3, eb, so, nd, sub, mem, van, nbg⟩ := uI1 _ _ _ hI1
    have : (Src.list sA (strsV syms)).vals.length = syms.length := by show (strsV syms).length = _; simp
    rw [this, List.drop_length] at mem van
    repeat w_left
    refine ⟨by simp, fun t lt nt => ?_⟩
    refine q _ t bg bs (le.trans (le_upd nt)) (by rw [upd_at, van]; rfl) (upd_old eb nt) so nd (fun x => ?_) sub nbg
    rw [mem x, fosSet]; simp
theorem first_ok {P : Addr → Prop} (G : Gd K56 C) (hk : 3 < C.k) {R : Addr} {g : Gram} {U : List Str} (hg : GrAt H P R g) (hl : g.length ≤ 60) (hU : U.length ≤ 30) (hUb : ∀ r ∈ g, ∀ s ∈ r.2, s ∈ U)
    (q : ∀ H' F fa fs nul, H.le H' → FsAt H' F fa (dd (g.map (·.1))) fs → (∀ s, s ∈ nul ↔ Bld g [] s) → closedF g (dd (g.map (·.1))) nul fs → (∀ h ∈ dd (g.map (·.1)), sortedS (fs h) = true ∧ (fs h).Nodup ∧ (∀ x ∈ fs h, x ∈ U) ∧ ∀ x ∈ fs h, Fst g h x) → Q (.loc F) H') :
    FCall C ["g"] (bodyAt (K56 C.w.params) 74) (namesAt (K56 C.w.params) 74) [.loc R] H Q := by
  refine ⟨kp hk, rfl, fun env lo hlo h2 => ?_⟩
  have hk0 : 0 < C.k - 1 := kk hk (by decide)
  have hk1 : 1 < C.k - 1 := kk hk (by decide)
  have hhs : ∀ s, s ∈ dd (g.map (·.1)) ↔ s ∈ g.map (·.1) := fun s => mem_dd
  have hnd : (dd (g.map (·.1))).Nodup := dd_nodup _
  have hsl : (dd (g.map (·.1))).length ≤ 60 := Nat.le_trans (dd_length _) (by rw [List.length_map]; exact hl)
  change Exs _ (_ :: _) _ _ _
  repeat w_left
  refine nullable_ok (by exact G.cast rfl rfl) hk1 hg hl fun H1 nA nul le1 en sn ndn memn nnA lnA => ?_
  repeat w_left
  refine ev_Dict0 fun F lF nF => ?_
  have le2 := le1.trans (le_upd (o := .dict []) nF)
  have nF' : H F = none := le1.none nF
  repeat w_left
  refine midI (fun ρ₁ H₁ => And5 (ρ₁ "g" = some (.loc R)) (ρ₁ "nullables" = some (.loc nA)) (ρ₁ "firsts" = some (.loc F)) (H1.le H₁) (∃ fa, FsAt H₁ F fa (dd (g.map (·.1))) (fun _ => []))) (fun P1 mP1 uP1 => ?_) ?_
  · refine ex_For0 (.inl rfl) (its_list ?_)
    repeat w_left
    refine heads_ok (by exact G.cast rfl rfl) hk0 (hg.le le2) (by omega) fun H2 hd le3 ehd nhd lhd => ?_
    generalize dd (g.map (·.1)) = hs at *
    refine ⟨hd, _, rfl, ehd, ?_⟩
    refine loopI (fun k ρ' H' => And5 (ρ' "g" = some (.loc R)) (ρ' "nullables" = some (.loc nA)) (ρ' "firsts" = some (.loc F)) (H1.le H') (∃ fa, FsAt H' F fa (hs.take k) (fun _ => []))) fun I1 mI1 uI1 => ⟨mI1 _ _ _ ⟨rfl, rfl, rfl, (le_upd nF).trans le3, fun _ => 0, le3 _ _ (upd_at _ _ _), by simp⟩, ?_, ?_⟩
    · rintro k v ρ' H' hv hI1 ok
      obtain ⟨r1, r2, r3, le, fa, f1, f2⟩ := uI1 _ _ _ hI1
      obtain ⟨h, hh, rfl⟩ := strs_get hv
      have okh : H' hd = some (.list (strsV hs)) := ok
      have hnot : h ∉ hs.take k := fun hm => by
        obtain ⟨hkl, e⟩ := List.getElem?_eq_some_iff.mp hh
        obtain ⟨m, hm1, e2⟩ := List.getElem_of_mem hm
        rw [List.length_take] at hm1
        rw [List.getElem_take] at e2
        have := (List.getElem_inj (h₀ := by omega) (h₁ := hkl) hnd).mp (e2.trans e.symm)
        omega
      refine exs_cons (ex_SetItem ?_)
      repeat w_left
      refine ⟨by decide, fun la lla nla => ?_⟩
      repeat w_left
      refine .inr ⟨F, h, _, rfl, rfl, upd_old f1 nla, lF, ?_, ?_⟩
      · have s1 := store_length ((hs.take k).map fun h => (h, V.loc (fa h))) h (.loc la)
        have s2 : ((hs.take k).map fun h => (h, V.loc (fa h))).length ≤ 60 := by rw [List.length_map, List.length_take]; omega
        omega
      · rw [store_new (by rw [look_map, if_neg hnot])]
        have ne : ∀ y ∈ hs.take k, y ≠ h := fun y hy e => hnot (e ▸ hy)
        have notF : ∀ {b : Addr} {o : List V}, H' b = some (.list o) → b ≠ F := fun {b o} e q => by rw [q, f1] at e; cases e
        repeat w_left
        refine ⟨mI1 _ _ _ ⟨r1, r2, r3, le_turn (le.trans (le_upd nla)) nF, setF fa h la, ?_, fun y hy => ?_⟩, ?_⟩
        · rw [upd_at, take_snoc hh, List.map_append]
          congr 3
          · refine List.map_congr_left fun y hy => ?_
            simp [setF, ne y hy]
          · simp [setF]
        · rw [take_snoc hh] at hy
          rcases List.mem_append.mp hy with ky | ky
          · have : setF fa h la y = fa y := by simp [setF, ne y ky]
            rw [this]
            exact upd_keep (notF (f2 y ky)) (upd_old (f2 y ky) nla)
          · rw [List.mem_singleton] at ky; subst ky
            have : setF fa y la y = la := by simp [setF]
            rw [this]
            have laF : la ≠ F := (ne_of_new f1 nla).symm
            exact upd_keep laF (upd_at _ _ _)
        · show upd _ F _ hd = _
          exact upd_keep (notF okh) (upd_old okh nla)
    · rintro ρ' H' hI1 ok
      obtain ⟨r1, r2, r3, le, fa, f1, f2⟩ := uI1 _ _ _ hI1
      have : (Src.list hd (strsV hs)).vals.length = hs.length := by show (strsV hs).length = _; simp
      rw [this, List.take_length] at f1 f2
      exact mP1 _ _ ⟨r1, r2, r3, le, fa, f1, f2⟩
  rintro ρ₁ H2 ⟨r1, r2, r3, le3, fa0, fs0⟩
  have hg' := hg
  obtain ⟨ts, eR, rs⟩ := hg
  have hts : ts.length = g.length := rs.length
  generalize dd (g.map (·.1)) = hs at *
  repeat w_left
  refine midI (fun ρ₂ H₂ => And3 (ρ₂ "firsts" = some (.loc F)) (H.le H₂) (∃ fa fs, And3 (FsAt H₂ F fa hs fs) (closedF g hs nul fs) (∀ h ∈ hs, sortedS (fs h) = true ∧ (fs h).Nodup ∧ (∀ x ∈ fs h, x ∈ U) ∧ ∀ x ∈ fs h, Fst g h x))) (fun P2 mP2 uP2 => ?_) ?_
  · refine whileI (fun N ρ' H' => And5 (ρ' "g" = some (.loc R)) (ρ' "nullables" = some (.loc nA)) (ρ' "firsts" = some (.loc F)) (H1.le H') (∃ fa fs ch, And5 (FsAt H' F fa hs fs) ((∀ h ∈ hs, sortedS (fs h) = true ∧ (fs h).Nodup ∧ (∀ x ∈ fs h, x ∈ U) ∧ ∀ x ∈ fs h, Fst g h x)) (ρ' "changed" = some (.bool ch)) ((ch = false → closedF g hs nul fs)) (N = 2 * (miss hs U fs).length + (if ch = true then 1 else 0)))) _ ⟨r1, r2, r3, le3, fa0, _, true, fs0, (fun h _ => ⟨rfl, by simp, by simp, by simp⟩), rfl, (fun h => by cases h), rfl⟩ fun W1 mW1 uW1 hW1 => ex_While0 W1 ?_ _ hW1
    rintro N ρ' H' hN1
    obtain ⟨r1, r2, r3, le, fa1, fs1, ch1, ft1, ok1, r4, cl1, rfl⟩ := uW1 _ _ _ hN1
    repeat w_left
    cases ch1 with
    | false =>
      rw [if_neg (by decide)]
      exact mP2 _ _ ⟨r3, le1.trans le, fa1, fs1, ft1, cl1 rfl, ok1⟩
    | true =>
      rw [if_pos rfl]
      repeat w_left
      refine ex_For0 (.inl rfl) (its_list ?_)
      repeat w_left
      refine ⟨R, _, rfl, (le1.trans le) _ _ eR, ?_⟩
      refine loopI (fun r ρ₂ H₂ => And5 (ρ₂ "g" = some (.loc R)) (ρ₂ "nullables" = some (.loc nA)) (ρ₂ "firsts" = some (.loc F)) (H1.le H₂) (∃ fa fs ch, And5 (FsAt H₂ F fa hs fs) ((∀ h ∈ hs, sortedS (fs h) = true ∧ (fs h).Nodup ∧ (∀ x ∈ fs h, x ∈ U) ∧ ∀ x ∈ fs h, Fst g h x)) (ρ₂ "changed" = some (.bool ch)) ((ch = true → (miss hs U fs).length < (miss hs U fs1).length)) ((ch = false → fs = fs1 ∧ ∀ r' h bd, r' < r → g[r']? = some (h, bd) → ∀ x ∈ fosSet fs1 hs nul bd, x ∈ fs1 h)))) fun I2 mI2 uI2 => ⟨mI2 _ _ _ ⟨r1, r2, r3, le, fa1, fs1, false, ft1, ok1, rfl, (fun h => by cases h), fun _ => ⟨rfl, fun r' _ _ h => absurd h (Nat.not_lt_zero _)⟩⟩, ?_, ?_⟩
      · rintro r v ρ₂ H₂ hv hI2 ok
        obtain ⟨q1, q2, q3, le4, fa2, fs2, ch2, ft2, ok2, q4, lt2, un2⟩ := uI2 _ _ _ hI2
        obtain ⟨t, b, h, bd, rfl, hgi, _, _, et, eb⟩ := rs.get' hv
        have hgm : (h, bd) ∈ g := List.mem_of_getElem? hgi
        have hh : h ∈ hs := (hhs h).mpr (List.mem_map_of_mem (f := (·.1)) hgm)
        have okR : H₂ R = some (.list (ts.map V.loc)) := ok
        obtain ⟨f1, f2⟩ := ft2
        obtain ⟨o1, o2, o3, o4⟩ := ok2 h hh
        have le14 := le1.trans le4
        repeat w_left
        refine sok_tuple (le14 _ _ et) (by decide) rfl ?_
        refine sok_dict f1 (v := .loc (fa2 h)) (by rw [look_map, if_pos hh]) ?_
        repeat w_left
        refine sok_tuple (le14 _ _ et) (by decide) rfl ?_
        repeat w_left
        refine fos_ok (by exact G.cast rfl rfl) hk1 (le14 _ _ eb) ⟨f1, f2⟩ (le4 _ _ en) hU (fun y hy => ⟨(ok2 y hy).2.1, (ok2 y hy).2.2.1⟩) (hUb _ hgm) fun H5 tt bl bs le5 ett ebl so nd mem sub nbl => ?_
        repeat w_left
        refine sok_tuple ett (by decide) rfl ?_
        repeat w_left
        have l1 := nodup_sub_len o2 o3
        have l2 := nodup_sub_len nd sub
        refine merged_ok (by exact G.cast rfl rfl) hk0 (le5 _ _ (f2 h hh)) ebl (by omega) fun gr H6 out le6 hp hso er lr nr => ?_
        have ndo : out.Nodup := hp.symm.nodup (dd_nodup _)
        have memo : ∀ x, x ∈ out ↔ x ∈ fs2 h ∨ x ∈ fosSet fs2 hs nul bd := fun x => by rw [hp.mem_iff, mem_dd, List.mem_append, mem x]
        have subo : ∀ x ∈ out, x ∈ U := fun x hx => ((memo x).mp hx).elim (o3 x) (fun h' => sub x ((mem x).mpr h'))
        have le56 := le5.trans le6
        obtain ⟨g1, g2⟩ := FsAt.le ⟨f1, f2⟩ le56
        repeat w_left
        refine sok_tuple (le56 _ _ (le14 _ _ et)) (by decide) rfl ?_
        refine sok_dict g1 (v := .loc (fa2 h)) (by rw [look_map, if_pos hh]) ?_
        refine cok_ne_strs er (g2 h hh) ?_
        repeat w_left
        by_cases heq : out = fs2 h
        · rw [if_neg (by simp [heq])]
          repeat w_left
          refine ⟨mI2 _ _ _ ⟨q1, q2, q3, le4.trans le56, fa2, fs2, ch2, ⟨g1, g2⟩, ok2, q4, lt2, fun e => ?_⟩, le56 _ _ okR⟩
          obtain ⟨rfl, un⟩ := un2 e
          refine ⟨rfl, fun r' h' bd' hr' hg' x hx => ?_⟩
          rcases Nat.lt_succ_iff_lt_or_eq.mp hr' with hr' | rfl
          · exact un r' h' bd' hr' hg' x hx
          · rw [hgi] at hg'; cases hg'
            rw [← heq]; exact (memo x).mpr (.inr hx)
        · rw [if_pos (by simp [heq])]
          have hex : ∃ x, x ∈ out ∧ x ∉ fs2 h := Classical.byContradiction fun hno => heq (by
            refine rising_eq hso o1 ndo o2 fun x => ⟨fun hx => Classical.byContradiction fun hn => hno ⟨x, hx, hn⟩, fun hx => (memo x).mpr (.inl hx)⟩)
          obtain ⟨x0, hx0, hx0n⟩ := hex
          refine exs_cons (ex_SetItem ?_)
          repeat w_left
          refine sok_tuple (le56 _ _ (le14 _ _ et)) (by decide) rfl ?_
          refine .inr ⟨F, h, _, rfl, rfl, g1, lF, ?_, ?_⟩
          · rw [store_map hh]; simp; omega
          rw [store_map hh]
          have notF : ∀ {b : Addr} {o : List V}, H6 b = some (.list o) → b ≠ F := fun {b o} e q => by rw [q, g1] at e; cases e
          repeat w_left
          refine ⟨mI2 _ _ _ ⟨q1, q2, q3, le_turn (le4.trans le56) nF, setF fa2 h gr, setF fs2 h out, true, ⟨?_, fun y hy => ?_⟩, fun y hy => ?_, rfl, fun _ => ?_, fun e => by cases e⟩, ?_⟩
          · rw [upd_at]
            congr 2
            refine List.map_congr_left fun y _ => ?_
            unfold setF; split <;> rfl
          · by_cases hy' : y = h
            · subst hy'
              have e1 : setF fa2 y gr y = gr := by simp [setF]
              have e2 : setF fs2 y out y = out := by simp [setF]
              rw [e1, e2]; exact upd_keep (notF er) er
            · have e1 : setF fa2 h gr y = fa2 y := by simp [setF, hy']
              have e2 : setF fs2 h out y = fs2 y := by simp [setF, hy']
              rw [e1, e2]; exact upd_keep (notF (g2 y hy)) (g2 y hy)
          · by_cases hy' : y = h
            · subst hy'
              have e2 : setF fs2 y out y = out := by simp [setF]
              rw [e2]
              refine ⟨hso, ndo, subo, fun x hx => ?_⟩
              rcases (memo x).mp hx with hx | hx
              · exact o4 x hx
              · obtain ⟨pre, s, suf, e, hp, hx⟩ := fos_sound hx
                have hpre : ∀ t ∈ pre, Bld g [] t := fun t ht => (memn t).mp (hp t ht)
                rcases hx with ⟨h1, h2⟩ | ⟨h1, rfl⟩
                · exact .sub hgm e hpre ((ok2 s h1).2.2.2 x h2)
                · exact .tok hgm e hpre fun hm => h1 ((hhs _).mpr hm)
            · have e2 : setF fs2 h out y = fs2 y := by simp [setF, hy']
              rw [e2]; exact ok2 y hy
          · have := miss_set (fs := fs2) (l := out) hh (subo x0 hx0) hx0 hx0n fun y hy => (memo y).mpr (.inl hy)
            cases ch2 with
            | true => have := lt2 rfl; omega
            | false => have e := (un2 rfl).1; subst e; exact this
          · show upd _ F _ R = _
            exact upd_keep (notF (le56 _ _ okR)) (le56 _ _ okR)
      · rintro ρ₂ H₂ hI2 ok
        obtain ⟨q1, q2, q3, le4, fa2, fs2, ch2, ft2, ok2, q4, lt2, un2⟩ := uI2 _ _ _ hI2
        have hlen : (Src.list R (ts.map V.loc)).vals.length = g.length := by show (ts.map V.loc).length = _; rw [List.length_map, hts]
        rw [hlen] at un2
        cases ch2 with
        | true =>
          have := lt2 rfl
          exact exs_nil ⟨2 * (miss hs U fs2).length + 1, by simp; omega, mW1 _ _ _ ⟨q1, q2, q3, le4, fa2, fs2, true, ft2, ok2, q4, (fun h => by cases h), rfl⟩⟩
        | false =>
          obtain ⟨rfl, un⟩ := un2 rfl
          refine exs_nil ⟨2 * (miss hs U fs2).length, by simp, mW1 _ _ _ ⟨q1, q2, q3, le4, fa2, fs2, false, ft2, ok2, q4, (fun _ h bd hm x hx => ?_), rfl⟩⟩
          obtain ⟨r', hr', e⟩ := List.getElem_of_mem hm
          exact un r' h bd hr' (by rw [List.getElem?_eq_getElem hr', e]) x hx
  rintro ρ₂ H₂ ⟨w1, le4, fa, fs, ft, cl, okf⟩
  repeat w_left
  exact q _ F fa fs nul le4 ft memn cl okf
theorem follow_ok {P : Addr → Prop} (G : Gd K56 C) (hk : 4 < C.k) {R : Addr} {g : Gram} {U : List Str} (hg : GrAt H P R g) (hl : g.length ≤ 60) (hne : g ≠ []) (hbl : ∀ r ∈ g, r.2.length ≤ 100) (hU : U.length ≤ 30) (hUb : ∀ r ∈ g, ∀ s ∈ r.2, s ∈ U) (hUd : ("$" : Str) ∈ U)
    (q : ∀ H' F fa fl nul fs, H.le H' → FsAt H' F fa (dd (g.map (·.1))) fl → NulOK g nul → FirstOK g (dd (g.map (·.1))) U nul fs → FollowOK g (dd (g.map (·.1))) U nul fs fl → Q (.loc F) H') :
    FCall C ["g"] (bodyAt (K56 C.w.params) 81) (namesAt (K56 C.w.params) 81) [.loc R] H Q := by
  refine ⟨kp hk, rfl, fun env lo hlo h2 => ?_⟩
  have hk0 : 0 < C.k - 1 := kk hk (by decide)
  have hk1 : 1 < C.k - 1 := kk hk (by decide)
  have hk3 : 3 < C.k - 1 := kk hk (by decide)
  have hhs : ∀ s, s ∈ dd (g.map (·.1)) ↔ s ∈ g.map (·.1) := fun s => mem_dd
  have hnd : (dd (g.map (·.1))).Nodup := dd_nodup _
  have hsl : (dd (g.map (·.1))).length ≤ 60 := Nat.le_trans (dd_length _) (by rw [List.length_map]; exact hl)
  change Exs _ (_ :: _) _ _ _
  repeat w_left
  refine nullable_ok (by exact G.cast rfl rfl) hk1 hg hl fun H1 nA nul le1 en sn ndn memn nnA lnA => ?_
  repeat w_left
  refine first_ok (by exact G.cast rfl rfl) hk3 (hg.le le1) hl hU hUb fun H2 Fi fai fs nul' le2 fti memn' clf okf => ?_
  have fok : FirstOK g (dd (g.map (·.1))) U nul fs := FirstOK.nul ⟨clf, okf⟩ fun s => (memn' s).trans (memn s).symm
  have nok : NulOK g nul := ⟨sn, ndn, memn⟩
  have le12 := le1.trans le2
  have en2 := le2 _ _ en
  clear clf memn'
  repeat w_left
  refine ev_Dict0 fun F lF nF => ?_
  repeat w_left
  refine midI (fun ρ₁ H₁ => And6 (ρ₁ "g" = some (.loc R)) (ρ₁ "nullables" = some (.loc nA)) (ρ₁ "firsts" = some (.loc Fi)) (ρ₁ "follows" = some (.loc F)) (H2.le H₁) (∃ fa, FsAt H₁ F fa (dd (g.map (·.1))) (fun _ => []))) (fun P1 mP1 uP1 => ?_) ?_
  · refine ex_For0 (.inl rfl) (its_list ?_)
    repeat w_left
    refine heads_ok (by exact G.cast rfl rfl) hk0 (hg.le (le12.trans (le_upd nF))) (by omega) fun H3 hd le3 ehd nhd lhd => ?_
    generalize dd (g.map (·.1)) = hs at *
    refine ⟨hd, _, rfl, ehd, ?_⟩
    refine loopI (fun k ρ' H' => And6 (ρ' "g" = some (.loc R)) (ρ' "nullables" = some (.loc nA)) (ρ' "firsts" = some (.loc Fi)) (ρ' "follows" = some (.loc F)) (H2.le H') (∃ fa, FsAt H' F fa (hs.take k) (fun _ => []))) fun I1 mI1 uI1 => ⟨mI1 _ _ _ ⟨rfl, rfl, rfl, rfl, (le_upd nF).trans le3, fun _ => 0, le3 _ _ (upd_at _ _ _), by simp⟩, ?_, ?_⟩
    · rintro k v ρ' H' hv hI1 ok
      obtain ⟨r1, r2, r3, r4, le, fa, ft⟩ := uI1 _ _ _ hI1
      obtain ⟨h, hh, rfl⟩ := strs_get hv
      have okh : H' hd = some (.list (strsV hs)) := ok
      have hnot := notin_take hnd hh
      refine exs_cons (ex_SetItem ?_)
      repeat w_left
      refine ⟨by decide, fun la lla nla => ?_⟩
      repeat w_left
      refine .inr ⟨F, h, _, rfl, rfl, upd_old ft.1 nla, lF, ?_, ?_⟩
      · have s1 := store_length ((hs.take k).map fun h => (h, V.loc (fa h))) h (.loc la)
        have s2 : ((hs.take k).map fun h => (h, V.loc (fa h))).length ≤ 60 := by rw [List.length_map, List.length_take]; omega
        omega
      · have gr := ft.grow hnot nla
        rw [← take_snoc hh] at gr
        have notF : ∀ {b : Addr} {o : List V}, H' b = some (.list o) → b ≠ F := fun {b o} e q => by rw [q, ft.1] at e; cases e
        repeat w_left
        refine ⟨mI1 _ _ _ ⟨r1, r2, r3, r4, le_turn (le.trans (le_upd nla)) nF, setF fa h la, gr⟩, ?_⟩
        show upd _ F _ hd = _
        exact upd_keep (notF okh) (upd_old okh nla)
    · rintro ρ' H' hI1 ok
      obtain ⟨r1, r2, r3, r4, le, fa, ft⟩ := uI1 _ _ _ hI1
      have : (Src.list hd (strsV hs)).vals.length = hs.length := by show (strsV hs).length = _; simp
      rw [this, List.take_length] at ft
      exact mP1 _ _ ⟨r1, r2, r3, r4, le, fa, ft⟩
  rintro ρ₁ H3 ⟨r1, r2, r3, r4, le3, fa0, ft0⟩
  have hg' := hg
  obtain ⟨ts, eR, rs⟩ := hg
  have hts : ts.length = g.length := rs.length
  obtain ⟨r0, gt, hg0⟩ := List.exists_cons_of_ne_nil hne
  have eh0 : (g.headD ("", [])).1 = r0.1 := by rw [hg0]; rfl
  obtain ⟨t0, b0, ht0, _, _, et0, eb0⟩ := rs.get (i := 0) (h := r0.1) (bd := r0.2) (by rw [hg0]; rfl)
  have hh0 : r0.1 ∈ dd (g.map (·.1)) := (hhs _).mpr (by rw [hg0]; simp)
  generalize dd (g.map (·.1)) = hs at *
  have le13 := le12.trans le3
  refine exs_cons (ex_SetItem ?_)
  repeat w_left
  refine ⟨by simp, fun d0 ld0 nd0 => ?_⟩
  have x0 := le_upd (o := .list [.str "$"]) nd0
  repeat w_left
  refine sok_list (x0 _ _ (le13 _ _ eR)) (by decide) (v := .loc t0) (by rw [show (0 : Int).toNat = 0 from rfl, List.getElem?_map, ht0]; rfl) ?_
  refine ev_int (sok_tuple (x0 _ _ (le13 _ _ et0)) (by decide) rfl ?_)
  refine .inr ⟨F, r0.1, _, rfl, rfl, x0 _ _ ft0.1, lF, ?_, ?_⟩
  · rw [store_map hh0]; simp; omega
  have ft1 := (ft0.le x0).set (out := ["$"]) hh0 (upd_at _ _ _)
  have le4 : H2.le (upd (upd H3 d0 (.list [.str "$"])) F (.dict (store (hs.map fun y => (y, V.loc (fa0 y))) r0.1 (.loc d0)))) := le_turn (le3.trans x0) nF
  generalize upd (upd H3 d0 (.list [.str "$"])) F (.dict (store (hs.map fun y => (y, V.loc (fa0 y))) r0.1 (.loc d0))) = H4 at ft1 le4
  have ok1 : ∀ h ∈ hs, sortedS (setF (fun _ => ([] : List Str)) r0.1 ["$"] h) = true ∧ (setF (fun _ => ([] : List Str)) r0.1 ["$"] h : List Str).Nodup ∧ (∀ x ∈ setF (fun _ => ([] : List Str)) r0.1 ["$"] h, x ∈ U) ∧ ∀ T, closedW g hs nul fs T → ∀ x ∈ setF (fun _ => ([] : List Str)) r0.1 ["$"] h, x ∈ T h := fun h hh => by
    by_cases e : h = r0.1
    · subst e
      have : setF (fun _ => ([] : List Str)) r0.1 ["$"] r0.1 = (["$"] : List Str) := by simp [setF]
      rw [this]
      refine ⟨rfl, by simp, fun x hx => by rw [List.mem_singleton.mp hx]; exact hUd, fun T hT x hx => ?_⟩
      rw [List.mem_singleton.mp hx, ← eh0]; exact hT.1
    · have : setF (fun _ => ([] : List Str)) r0.1 ["$"] h = ([] : List Str) := by simp [setF, e]
      rw [this]
      exact ⟨rfl, by simp, by simp, fun _ _ x hx => by cases hx⟩
  have st1 : ("$" : Str) ∈ setF (fun _ => ([] : List Str)) r0.1 ["$"] r0.1 := by simp [setF]
  generalize setF (fun _ => ([] : List Str)) r0.1 ["$"] = fl0 at ft1 ok1 st1
  generalize setF fa0 r0.1 d0 = fa1 at ft1
  repeat w_left
  refine midI (fun ρ₂ H₂ => And3 (ρ₂ "follows" = some (.loc F)) (H2.le H₂) (∃ fa fl, FsAt H₂ F fa hs fl ∧ FollowOK g hs U nul fs fl)) (fun P2 mP2 uP2 => ?_) ?_
  · refine whileI (fun N ρ' H' => And6 (ρ' "g" = some (.loc R)) (ρ' "nullables" = some (.loc nA)) (ρ' "firsts" = some (.loc Fi)) (ρ' "follows" = some (.loc F)) (H2.le H') (∃ fa fl ch, And6 (FsAt H' F fa hs fl) ((∀ h ∈ hs, sortedS (fl h) = true ∧ (fl h).Nodup ∧ (∀ x ∈ fl h, x ∈ U) ∧ ∀ T, closedW g hs nul fs T → ∀ x ∈ fl h, x ∈ T h)) (("$" : Str) ∈ fl r0.1) (ρ' "changed" = some (.bool ch)) ((ch = false → ∀ h bd, (h, bd) ∈ g → ∀ i, condW hs nul fs fl h bd i)) (N = 2 * (miss hs U fl).length + (if ch = true then 1 else 0)))) _ ⟨r1, r2, r3, r4, le4, fa1, fl0, true, ft1, ok1, st1, rfl, (fun h => by cases h), rfl⟩ fun W1 mW1 uW1 hW1 => ex_While0 W1 ?_ _ hW1
    clear ft1 ok1 st1 ft0
    rintro N ρ' H' hN1
    obtain ⟨r1, r2, r3, r4, le, fa1, fl1, ch1, ft1, ok1, st1, r5, cl1, rfl⟩ := uW1 _ _ _ hN1
    repeat w_left
    cases ch1 with
    | false =>
      rw [if_neg (by decide)]
      exact mP2 _ _ ⟨r4, le, fa1, fl1, ft1, ⟨by rw [eh0]; exact st1, cl1 rfl⟩, ok1⟩
    | true =>
      rw [if_pos rfl]
      repeat w_left
      refine ex_For0 (.inl rfl) (its_list ?_)
      repeat w_left
      refine ⟨R, _, rfl, (le12.trans le) _ _ eR, ?_⟩
      refine loopI (fun r ρ₂ H₂ => And6 (ρ₂ "g" = some (.loc R)) (ρ₂ "nullables" = some (.loc nA)) (ρ₂ "firsts" = some (.loc Fi)) (ρ₂ "follows" = some (.loc F)) (H2.le H₂) (∃ fa fl ch, And6 (FsAt H₂ F fa hs fl) ((∀ h ∈ hs, sortedS (fl h) = true ∧ (fl h).Nodup ∧ (∀ x ∈ fl h, x ∈ U) ∧ ∀ T, closedW g hs nul fs T → ∀ x ∈ fl h, x ∈ T h)) (("$" : Str) ∈ fl r0.1) (ρ₂ "changed" = some (.bool ch)) ((ch = true → (miss hs U fl).length < (miss hs U fl1).length)) ((ch = false → fl = fl1 ∧ ∀ r' h bd, r' < r → g[r']? = some (h, bd) → ∀ i, condW hs nul fs fl1 h bd i)))) fun I2 mI2 uI2 => ⟨mI2 _ _ _ ⟨r1, r2, r3, r4, le, fa1, fl1, false, ft1, ok1, st1, rfl, (fun h => by cases h), fun _ => ⟨rfl, fun r' _ _ h => absurd h (Nat.not_lt_zero _)⟩⟩, ?_, ?_⟩
      · rintro r v ρ₂ H₂ hv hI2 ok
        obtain ⟨q1, q2, q3, q4, le4, fa2, fl2, ch2, ft2, ok2, st2, q5, lt2, un2⟩ := uI2 _ _ _ hI2
        obtain ⟨t, b, h, bd, rfl, hgi, _, _, et, eb⟩ := rs.get' hv
        have hgm : (h, bd) ∈ g := List.mem_of_getElem? hgi
        have hh : h ∈ hs := (hhs h).mpr (List.mem_map_of_mem (f := (·.1)) hgm)
        have okR : H₂ R = some (.list (ts.map V.loc)) := ok
        have et2 := le12 _ _ et
        have eb2 := le12 _ _ eb
        have bdl : bd.length ≤ 100 := hbl _ hgm
        refine exs_cons (ex_For0 (.inl rfl) (its_range1 (Gd.blt (K := K56) (by exact G.cast rfl rfl) rfl rfl (by decide)) rfl ?_))
        repeat w_left
        refine sok_tuple (le4 _ _ et2) (by decide) rfl ?_
        repeat w_left
        refine vc_len_list (le4 _ _ eb2) ?_
        refine ⟨_, rfl, by omega, by simp; omega, ?_⟩
        rw [Int.toNat_natCast, List.length_map]
        refine loopI (fun i ρ₃ H₃ => And8 (ρ₃ "rule" = some (.loc t)) (ρ₃ "g" = some (.loc R)) (ρ₃ "nullables" = some (.loc nA)) (ρ₃ "firsts" = some (.loc Fi)) (ρ₃ "follows" = some (.loc F)) (H2.le H₃) (H₃ R = some (.list (ts.map V.loc))) (∃ fa fl ch, And6 (FsAt H₃ F fa hs fl) ((∀ h ∈ hs, sortedS (fl h) = true ∧ (fl h).Nodup ∧ (∀ x ∈ fl h, x ∈ U) ∧ ∀ T, closedW g hs nul fs T → ∀ x ∈ fl h, x ∈ T h)) (("$" : Str) ∈ fl r0.1) (ρ₃ "changed" = some (.bool ch)) ((ch = true → (miss hs U fl).length < (miss hs U fl1).length)) ((ch = false → fl = fl1 ∧ (∀ r' h bd, r' < r → g[r']? = some (h, bd) → ∀ i, condW hs nul fs fl1 h bd i) ∧ ∀ i', i' < i → condW hs nul fs fl1 h bd i')))) fun I3 mI3 uI3 => ⟨mI3 _ _ _ ⟨rfl, q1, q2, q3, q4, le4, okR, fa2, fl2, ch2, ft2, ok2, st2, q5, lt2, fun e => ⟨(un2 e).1, (un2 e).2, fun i' h => absurd h (Nat.not_lt_zero _)⟩⟩, ?_, ?_⟩
        · rintro i v ρ₃ H₃ hv hI3 ok
          obtain ⟨p0, p1, p2, p3, p4, le5, okR3, fa3, fl3, ch3, ft3, ok3, st3, p5, lt3, un3⟩ := uI3 _ _ _ hI3
          obtain ⟨hi, rfl⟩ := rng_get hv
          rw [Int.zero_add]
          repeat w_left
          refine sok_tuple (le5 _ _ et2) (by decide) rfl ?_
          repeat w_left
          refine sok_list (le5 _ _ eb2) (by omega) (v := .str bd[i]) (by rw [Int.toNat_natCast, List.getElem?_map, List.getElem?_eq_getElem hi]; rfl) ?_
          have hbi : bd[i]? = some bd[i] := List.getElem?_eq_getElem hi
          generalize bd[i] = s at hbi
          repeat w_left
          refine cok_in_dict ft3.1 ?_
          repeat w_left
          rw [look_map]
          by_cases hs' : s ∈ hs
          · rw [if_pos hs', if_pos (show (some (V.loc (fa3 s))).isSome = true from rfl)]
            obtain ⟨o1, o2, o3, o4⟩ := ok3 s hs'
            obtain ⟨u1, u2, u3, u4⟩ := ok3 h hh
            refine exs_cons (ex_AssignTup2 (.inl rfl) (.inl rfl) ?_)
            repeat w_left
            refine sok_tuple (le5 _ _ et2) (by decide) rfl ?_
            repeat w_left
            refine ⟨b, _, (i : Int) + 1, rfl, rfl, by omega, le5 _ _ eb2, fun sl lsl nsl => ?_⟩
            have hi1 : ((i : Int) + 1).toNat = i + 1 := by omega
            rw [hi1]
            have x5 := le_upd (o := .list ((strsV bd).drop (i + 1))) nsl
            have esl : upd H₃ sl (.list ((strsV bd).drop (i + 1))) sl = some (.list (strsV (bd.drop (i + 1)))) := by rw [upd_at, ← List.map_drop]
            generalize upd H₃ sl (.list ((strsV bd).drop (i + 1))) = H5 at x5 esl
            repeat w_left
            refine fos_ok (by exact G.cast rfl rfl) hk1 esl (fti.le (le5.trans x5)) (x5 _ _ (le5 _ _ en2)) hU (fun y hy => ⟨(fok.ok y hy).2.1, (fok.ok y hy).2.2.1⟩) (fun y hy => hUb _ hgm y (List.mem_of_mem_drop hy)) fun H6 tt bl bs le6 ett ebl so nd mem sub nbl => ?_
            refine ⟨tt, _, _, rfl, ett, ?_⟩
            have le56 := x5.trans le6
            obtain ⟨g1, g2⟩ := ft3.le le56
            have l1 := nodup_sub_len o2 o3
            have l2 := nodup_sub_len nd sub
            have l3 := nodup_sub_len u2 u3
            repeat w_left
            refine sok_dict g1 (v := .loc (fa3 s)) (by rw [look_map, if_pos hs']) ?_
            repeat w_left
            refine merged_ok (by exact G.cast rfl rfl) hk0 (g2 s hs') ebl (by omega) fun gr H7 out le7 hp hso er lr nr => ?_
            have ndo : out.Nodup := hp.symm.nodup (dd_nodup _)
            have memo : ∀ x, x ∈ out ↔ x ∈ fl3 s ∨ x ∈ fosSet fs hs nul (bd.drop (i + 1)) := fun x => by rw [hp.mem_iff, mem_dd, List.mem_append, mem x]
            have subo : ∀ x ∈ out, x ∈ U := fun x hx => ((memo x).mp hx).elim (o3 x) (fun h' => sub x ((mem x).mpr h'))
            have lo1 := nodup_sub_len ndo subo
            have le57 := le56.trans le7
            have g2h := (ft3.le le57)
            refine midsI (fun ρ₄ H₄ => And9 (ρ₄ "rule" = some (.loc t)) (ρ₄ "g" = some (.loc R)) (ρ₄ "nullables" = some (.loc nA)) (ρ₄ "firsts" = some (.loc Fi)) (ρ₄ "follows" = some (.loc F)) (ρ₄ "symbol" = some (.str s)) (ρ₄ "changed" = some (.bool ch3)) (H₃.le H₄) (∃ ga out, And6 (ρ₄ "grown" = some (.loc ga)) (H₄ ga = some (.list (strsV out))) (sortedS out = true) (out.Nodup) ((∀ x ∈ out, x ∈ U)) (∀ x, x ∈ out ↔ x ∈ fl3 s ∨ x ∈ fosSet fs hs nul (bd.drop (i + 1)) ∨ (fosVan hs nul (bd.drop (i + 1)) = true ∧ x ∈ fl3 h)))) (fun P3 mP3 uP3 => ?_) ?_
            · repeat w_left
              by_cases hv : fosVan hs nul (bd.drop (i + 1)) = true
              · rw [if_pos hv]
                repeat w_left
                refine sok_tuple (le57 _ _ (le5 _ _ et2)) (by decide) rfl ?_
                refine sok_dict g2h.1 (v := .loc (fa3 h)) (by rw [look_map, if_pos hh]) ?_
                repeat w_left
                refine merged_ok (by exact G.cast rfl rfl) hk0 er (g2h.2 h hh) (by omega) fun ga H8 out2 le8 hp2 hso2 er2 lr2 nr2 => ?_
                have ndo2 : out2.Nodup := hp2.symm.nodup (dd_nodup _)
                have memo2 : ∀ x, x ∈ out2 ↔ x ∈ out ∨ x ∈ fl3 h := fun x => by rw [hp2.mem_iff, mem_dd, List.mem_append]
                repeat w_left
                refine mP3 _ _ ⟨p0, p1, p2, p3, p4, rfl, p5, le57.trans le8, ga, out2, rfl, er2, hso2, ndo2, fun x hx => ((memo2 x).mp hx).elim (subo x) (u3 x), fun x => ?_⟩
                rw [memo2 x, memo x, or_assoc]
                simp [hv]
              · rw [if_neg hv]
                repeat w_left
                refine mP3 _ _ ⟨p0, p1, p2, p3, p4, rfl, p5, le57, gr, out, rfl, er, hso, ndo, subo, fun x => ?_⟩
                rw [memo x]
                simp [hv]
            clear memo subo ndo hso lo1 er lr nr hp
            rintro ρ₄ H₄ ⟨w0, w1, w2, w3, w4, w5, w6, le8, ga, out, w7, er, hso, ndo, subo, memo⟩
            obtain ⟨g1, g2⟩ := ft3.le le8
            repeat w_left
            refine sok_dict g1 (v := .loc (fa3 s)) (by rw [look_map, if_pos hs']) ?_
            refine cok_ne_strs er (g2 s hs') ?_
            repeat w_left
            by_cases heq : out = fl3 s
            · rw [if_neg (by simp [heq])]
              repeat w_left
              refine ⟨mI3 _ _ _ ⟨w0, w1, w2, w3, w4, le5.trans le8, le8 _ _ okR3, fa3, fl3, ch3, ⟨g1, g2⟩, ok3, st3, w6, lt3, fun e => ?_⟩, ok⟩
              obtain ⟨rfl, un, un'⟩ := un3 e
              refine ⟨rfl, un, fun i' hi' => ?_⟩
              rcases Nat.lt_succ_iff_lt_or_eq.mp hi' with hi' | rfl
              · exact un' i' hi'
              · intro s2 hs2 hs2'
                rw [hbi] at hs2; cases hs2
                exact ⟨fun x hx => heq ▸ (memo x).mpr (.inr (.inl hx)), fun hv x hx => heq ▸ (memo x).mpr (.inr (.inr ⟨hv, hx⟩))⟩
            · rw [if_pos (by simp [heq])]
              have hex : ∃ x, x ∈ out ∧ x ∉ fl3 s := Classical.byContradiction fun hno => heq (by
                refine rising_eq hso o1 ndo o2 fun x => ⟨fun hx => Classical.byContradiction fun hn => hno ⟨x, hx, hn⟩, fun hx => (memo x).mpr (.inl hx)⟩)
              obtain ⟨x0, hx0, hx0n⟩ := hex
              refine exs_cons (ex_SetItem ?_)
              repeat w_left
              refine .inr ⟨F, s, _, rfl, rfl, g1, lF, ?_, ?_⟩
              · rw [store_map hs']; simp; omega
              have ft5 := FsAt.set ⟨g1, g2⟩ hs' er
              have notF : ∀ {b : Addr} {o : List V}, H₄ b = some (.list o) → b ≠ F := fun {b o} e q => by rw [q, g1] at e; cases e
              repeat w_left
              refine ⟨mI3 _ _ _ ⟨w0, w1, w2, w3, w4, le_turn (le5.trans le8) nF, upd_keep (notF (le8 _ _ okR3)) (le8 _ _ okR3), setF fa3 s ga, setF fl3 s out, true, ft5, fun y hy => ?_, ?_, rfl, fun _ => ?_, fun e => by cases e⟩, ok⟩
              · by_cases hy' : y = s
                · subst hy'
                  have e2 : setF fl3 y out y = out := by simp [setF]
                  rw [e2]
                  refine ⟨hso, ndo, subo, fun T hT x hx => ?_⟩
                  obtain ⟨c1, c2⟩ := hT.2 h bd hgm i y hbi hs'
                  rcases (memo x).mp hx with hx | hx | ⟨hv, hx⟩
                  · exact o4 T hT x hx
                  · exact c1 x hx
                  · exact c2 hv x (u4 T hT x hx)
                · have e2 : setF fl3 s out y = fl3 y := by simp [setF, hy']
                  rw [e2]; exact ok3 y hy
              · by_cases hy' : r0.1 = s
                · rw [← hy']
                  have e2 : setF fl3 r0.1 out r0.1 = out := by simp [setF]
                  rw [e2]; exact (memo _).mpr (.inl (hy' ▸ st3))
                · have e2 : setF fl3 s out r0.1 = fl3 r0.1 := by simp [setF, hy']
                  rw [e2]; exact st3
              · have := miss_set (fs := fl3) (l := out) hs' (subo x0 hx0) hx0 hx0n fun y hy => (memo y).mpr (.inl hy)
                cases ch3 with
                | true => have := lt3 rfl; omega
                | false => have e := (un3 rfl).1; subst e; exact this
          · rw [if_neg hs', if_neg (show ¬ ((none : Option V).isSome = true) from Bool.false_ne_true)]
            repeat w_left
            refine ⟨mI3 _ _ _ ⟨p0, p1, p2, p3, p4, le5, okR3, fa3, fl3, ch3, ft3, ok3, st3, p5, lt3, fun e => ?_⟩, ok⟩
            obtain ⟨rfl, un, un'⟩ := un3 e
            refine ⟨rfl, un, fun i' hi' => ?_⟩
            rcases Nat.lt_succ_iff_lt_or_eq.mp hi' with hi' | rfl
            · exact un' i' hi'
            · intro s2 hs2 hs2'
              rw [hbi] at hs2; cases hs2
              exact absurd hs2' hs'
        · rintro ρ₃ H₃ hI3 ok
          obtain ⟨p0, p1, p2, p3, p4, le5, okR3, fa3, fl3, ch3, ft3, ok3, st3, p5, lt3, un3⟩ := uI3 _ _ _ hI3
          rw [rng_len] at un3
          refine exs_nil ⟨mI2 _ _ _ ⟨p1, p2, p3, p4, le5, fa3, fl3, ch3, ft3, ok3, st3, p5, lt3, fun e => ?_⟩, okR3⟩
          obtain ⟨e1, un, un'⟩ := un3 e
          refine ⟨e1, fun r' h' bd' hr' hg' i => ?_⟩
          rcases Nat.lt_succ_iff_lt_or_eq.mp hr' with hr' | rfl
          · exact un r' h' bd' hr' hg' i
          · rw [hgi] at hg'; cases hg'
            by_cases hi : i < bd.length
            · exact un' i hi
            · intro s2 hs2
              rw [List.getElem?_eq_none (by omega)] at hs2; cases hs2
      · rintro ρ₂ H₂ hI2 ok
        obtain ⟨q1, q2, q3, q4, le4, fa2, fl2, ch2, ft2, ok2, st2, q5, lt2, un2⟩ := uI2 _ _ _ hI2
        have hlen : (Src.list R (ts.map V.loc)).vals.length = g.length := by show (ts.map V.loc).length = _; rw [List.length_map, hts]
        rw [hlen] at un2
        cases ch2 with
        | true =>
          have := lt2 rfl
          exact exs_nil ⟨2 * (miss hs U fl2).length + 1, by simp; omega, mW1 _ _ _ ⟨q1, q2, q3, q4, le4, fa2, fl2, true, ft2, ok2, st2, q5, (fun h => by cases h), rfl⟩⟩
        | false =>
          obtain ⟨rfl, un⟩ := un2 rfl
          refine exs_nil ⟨2 * (miss hs U fl2).length, by simp, mW1 _ _ _ ⟨q1, q2, q3, q4, le4, fa2, fl2, false, ft2, ok2, st2, q5, (fun _ h bd hm i => ?_), rfl⟩⟩
          obtain ⟨r', hr', e⟩ := List.getElem_of_mem hm
          exact un r' h bd hr' (by rw [List.getElem?_eq_getElem hr', e]) i
  rintro ρ₂ H₂ ⟨w1, le5, fa, fl, ft, fo⟩
  repeat w_left
  exact q _ F fa fl nul fs (le12.trans le5) ft nok fok fo
theorem predict_ok {P : Addr → Prop} (G : Gd K56 C) (hk : 5 < C.k) {R : Addr} {g : Gram} {U : List Str} (hg : GrAt H P R g) (hl : g.length ≤ 60) (hne : g ≠ []) (hbl : ∀ r ∈ g, r.2.length ≤ 100) (hU : U.length ≤ 30) (hUb : ∀ r ∈ g, ∀ s ∈ r.2, s ∈ U) (hUd : ("$" : Str) ∈ U)
    (q : ∀ H' pA ps prs nul fs nul' fs' fl, H.le H' → H' pA = some (.list (ps.map V.loc)) → LsAt H' ps prs → NulOK g nul → FirstOK g (dd (g.map (·.1))) U nul fs → NulOK g nul' → FirstOK g (dd (g.map (·.1))) U nul' fs' → FollowOK g (dd (g.map (·.1))) U nul' fs' fl → PrOK g (dd (g.map (·.1))) nul fs fl prs → Q (.loc pA) H') :
    FCall C ["g"] (bodyAt (K56 C.w.params) 88) (namesAt (K56 C.w.params) 88) [.loc R] H Q := by
  refine ⟨kp hk, rfl, fun env lo hlo h2 => ?_⟩
  have hk0 : 0 < C.k - 1 := kk hk (by decide)
  have hk1 : 1 < C.k - 1 := kk hk (by decide)
  have hk3 : 3 < C.k - 1 := kk hk (by decide)
  have hk4 : 4 < C.k - 1 := kk hk (by decide)
  have hhs : ∀ s, s ∈ dd (g.map (·.1)) ↔ s ∈ g.map (·.1) := fun s => mem_dd
  change Exs _ (_ :: _) _ _ _
  repeat w_left
  refine nullable_ok (by exact G.cast rfl rfl) hk1 hg hl fun H1 nA nul le1 en sn ndn memn nnA lnA => ?_
  repeat w_left
  refine first_ok (by exact G.cast rfl rfl) hk3 (hg.le le1) hl hU hUb fun H2 Fi fai fs nulq le2 fti memnq clf okf => ?_
  have fok : FirstOK g (dd (g.map (·.1))) U nul fs := FirstOK.nul ⟨clf, okf⟩ fun s => (memnq s).trans (memn s).symm
  have nok : NulOK g nul := ⟨sn, ndn, memn⟩
  clear clf memnq
  repeat w_left
  refine follow_ok (by exact G.cast rfl rfl) hk4 (hg.le (le1.trans le2)) hl hne hbl hU hUb hUd fun H3 Fo fao fl nul' fs' le3 fto nok' fok' fl_ok => ?_
  have le13 := (le1.trans le2).trans le3
  have en3 := le3 _ _ (le2 _ _ en)
  have fti3 := fti.le le3
  obtain ⟨ts, eR, rs⟩ := hg
  have hts : ts.length = g.length := rs.length
  generalize dd (g.map (·.1)) = hs at *
  repeat w_left
  refine ⟨by decide, fun pA lpA npA => ?_⟩
  have x0 := le_upd (o := .list []) npA
  refine exs_cons (ex_For0 (.inl rfl) (its_list ?_))
  repeat w_left
  refine ⟨R, _, rfl, x0 _ _ (le13 _ _ eR), ?_⟩
  refine loopI (fun i ρ' H' => And6 (ρ' "nullables" = some (.loc nA)) (ρ' "firsts" = some (.loc Fi)) (ρ' "follows" = some (.loc Fo)) (ρ' "predicts" = some (.loc pA)) (H3.le H') (∃ ps prs, And5 (H' pA = some (.list (ps.map V.loc))) (LsAt H' ps prs) ((∀ p ∈ ps, p ≠ pA)) (prs.length = i) (∀ k h bd, k < i → g[k]? = some (h, bd) → ∃ l, prs[k]? = some l ∧ sortedS l = true ∧ l.Nodup ∧ l.length ≤ 30 ∧ ∀ x, x ∈ l ↔ x ∈ fosSet fs hs nul bd ∨ (fosVan hs nul bd = true ∧ x ∈ fl h)))) fun I1 mI1 uI1 => ⟨mI1 _ _ _ ⟨rfl, rfl, rfl, rfl, x0, [], [], upd_at _ _ _, .nil, by simp, rfl, fun k h bd hk => absurd hk (Nat.not_lt_zero _)⟩, ?_, ?_⟩
  · rintro i v ρ' H' hv hI1 ok
    obtain ⟨r1, r2, r3, r4, le, ps, prs, ep, ls, neP, prl, pr⟩ := uI1 _ _ _ hI1
    obtain ⟨t, b, h, bd, rfl, hgi, _, _, et, eb⟩ := rs.get' hv
    have hgm : (h, bd) ∈ g := List.mem_of_getElem? hgi
    have hh : h ∈ hs := (hhs h).mpr (List.mem_map_of_mem (f := (·.1)) hgm)
    have okR : H' R = some (.list (ts.map V.loc)) := ok
    have hi : i < 60 := by
      have := (List.getElem?_eq_some_iff.mp hgi).1
      omega
    refine exs_cons (ex_AssignTup2 (.inl rfl) (.inl rfl) ?_)
    repeat w_left
    refine sok_tuple (le _ _ (le13 _ _ et)) (by decide) rfl ?_
    repeat w_left
    refine fos_ok (by exact G.cast rfl rfl) hk1 (le _ _ (le13 _ _ eb)) (fti3.le le) (le _ _ en3) hU (fun y hy => ⟨(fok.ok y hy).2.1, (fok.ok y hy).2.2.1⟩) (hUb _ hgm) fun H4 tt bl bs le4 ett ebl so nd mem sub nbl => ?_
    refine ⟨tt, _, _, rfl, ett, ?_⟩
    have lb := nodup_sub_len nd sub
    obtain ⟨g1, g2⟩ := fto.le (le.trans le4)
    obtain ⟨u1, u2, u3, u4⟩ := fl_ok.ok h hh
    have lf := nodup_sub_len u2 u3
    refine midsI (fun ρ₄ H₄ => And6 (ρ₄ "nullables" = some (.loc nA)) (ρ₄ "firsts" = some (.loc Fi)) (ρ₄ "follows" = some (.loc Fo)) (ρ₄ "predicts" = some (.loc pA)) (H'.le H₄) (∃ ba l, And7 (ρ₄ "begins" = some (.loc ba)) (ba ≠ pA) (H₄ ba = some (.list (strsV l))) (sortedS l = true) (l.Nodup) (l.length ≤ 30) (∀ x, x ∈ l ↔ x ∈ fosSet fs hs nul bd ∨ (fosVan hs nul bd = true ∧ x ∈ fl h)))) (fun P1 mP1 uP1 => ?_) ?_
    · repeat w_left
      by_cases hv : fosVan hs nul bd = true
      · rw [if_pos hv]
        repeat w_left
        refine sok_tuple (le4 _ _ (le _ _ (le13 _ _ et))) (by decide) rfl ?_
        refine sok_dict g1 (v := .loc (fao h)) (by rw [look_map, if_pos hh]) ?_
        repeat w_left
        refine merged_ok (by exact G.cast rfl rfl) hk0 ebl (g2 h hh) (by omega) fun ga H8 out2 le8 hp2 hso2 er2 lr2 nr2 => ?_
        have ndo2 : out2.Nodup := hp2.symm.nodup (dd_nodup _)
        have memo2 : ∀ x, x ∈ out2 ↔ x ∈ bs ∨ x ∈ fl h := fun x => by rw [hp2.mem_iff, mem_dd, List.mem_append]
        have subo2 : ∀ x ∈ out2, x ∈ U := fun x hx => ((memo2 x).mp hx).elim (sub x) (u3 x)
        have lo2 := nodup_sub_len ndo2 subo2
        repeat w_left
        refine mP1 _ _ ⟨r1, r2, r3, r4, le4.trans le8, ga, out2, rfl, (ne_of_new (le4 _ _ ep) nr2).symm, er2, hso2, ndo2, by omega, fun x => ?_⟩
        rw [memo2 x, mem x]
        simp [hv]
      · rw [if_neg hv]
        repeat w_left
        refine mP1 _ _ ⟨r1, r2, r3, r4, le4, bl, bs, rfl, (ne_of_new ep nbl).symm, ebl, so, nd, by omega, fun x => ?_⟩
        rw [mem x]; simp [hv]
    rintro ρ₄ H₄ ⟨w1, w2, w3, w4, le5, ba, l, w5, bap, eba, so', nd', ll, mem'⟩
    refine exs_cons (ex_append ?_)
    repeat w_left
    refine ⟨pA, rfl, ⟨_, le5 _ _ ep⟩, ?_⟩
    repeat w_left
    have psl := ls.length
    refine ⟨_, le5 _ _ ep, lpA, by simp; omega, ?_⟩
    repeat w_left
    refine ⟨mI1 _ _ _ ⟨w1, w2, w3, w4, le_turn (le.trans le5) npA, ps ++ [ba], prs ++ [l], by rw [upd_at]; simp, ?_, ?_, by simp [prl], ?_⟩, ?_⟩
    · exact ((ls.le le5).away fun p hp => neP p hp).append (.cons (upd_keep bap eba) .nil)
    · intro p hp
      rcases List.mem_append.mp hp with hp | hp
      · exact neP p hp
      · rw [List.mem_singleton.mp hp]; exact bap
    · intro k h' bd' hk' hg'
      rcases Nat.lt_succ_iff_lt_or_eq.mp hk' with hk' | rfl
      · obtain ⟨l', e1, e2⟩ := pr k h' bd' hk' hg'
        exact ⟨l', by rw [List.getElem?_append_left (by omega)]; exact e1, e2⟩
      · rw [hgi] at hg'; cases hg'
        exact ⟨l, by rw [List.getElem?_append_right (by omega)]; simp [prl], so', nd', ll, mem'⟩
    · show upd _ pA _ R = _
      exact upd_keep (ne_of_new (le13 _ _ eR) npA) (le5 _ _ okR)
  · rintro ρ' H' hI1 ok
    obtain ⟨r1, r2, r3, r4, le, ps, prs, ep, ls, neP, prl, pr⟩ := uI1 _ _ _ hI1
    have hlen : (Src.list R (ts.map V.loc)).vals.length = g.length := by show (ts.map V.loc).length = _; rw [List.length_map, hts]
    rw [hlen] at prl pr
    repeat w_left
    exact q _ pA ps prs nul fs nul' fs' fl (le13.trans le) ep ls nok fok nok' fok' fl_ok ⟨prl, fun k h bd hg => pr k h bd (List.getElem?_eq_some_iff.mp hg).1 hg⟩
theorem ll1_ok {P : Addr → Prop} (G : Gd K56 C) (hk : 6 < C.k) {R : Addr} {g : Gram} {U : List Str} (hg : GrAt H P R g) (hl : g.length ≤ 60) (hne : g ≠ []) (hbl : ∀ r ∈ g, r.2.length ≤ 100) (hU : U.length ≤ 30) (hUb : ∀ r ∈ g, ∀ s ∈ r.2, s ∈ U) (hUd : ("$" : Str) ∈ U)
    (q : ∀ H' t tb n prs nul fs nul' fs' fl, H.le H' → H' t = some (.tuple [.loc tb, .int n]) → NulOK g nul → FirstOK g (dd (g.map (·.1))) U nul fs → NulOK g nul' → FirstOK g (dd (g.map (·.1))) U nul' fs' → FollowOK g (dd (g.map (·.1))) U nul' fs' fl → PrOK g (dd (g.map (·.1))) nul fs fl prs → (n = 0 ↔ (pairsOf g prs).Nodup) → Q (.loc t) H') :
    FCall C ["g"] (bodyAt (K56 C.w.params) 95) (namesAt (K56 C.w.params) 95) [.loc R] H Q := by
  refine ⟨kp hk, rfl, fun env lo hlo h2 => ?_⟩
  have hk0 : 0 < C.k - 1 := kk hk (by decide)
  have hk5 : 5 < C.k - 1 := kk hk (by decide)
  have hhs : ∀ s, s ∈ dd (g.map (·.1)) ↔ s ∈ g.map (·.1) := fun s => mem_dd
  have hnd : (dd (g.map (·.1))).Nodup := dd_nodup _
  have hsl : (dd (g.map (·.1))).length ≤ 60 := Nat.le_trans (dd_length _) (by rw [List.length_map]; exact hl)
  change Exs _ (_ :: _) _ _ _
  repeat w_left
  refine predict_ok (by exact G.cast rfl rfl) hk5 hg hl hne hbl hU hUb hUd fun H1 pA ps prs nul fs nul' fs' fl le1 ep ls nok fok nok' fok' flok prok => ?_
  obtain ⟨prl, pr⟩ := id prok
  have psl := ls.length
  repeat w_left
  refine ev_Dict0 fun T lT nT => ?_
  have x1 := le_upd (o := .dict []) nT
  refine midsI (fun ρ₁ H₁ => And5 (ρ₁ "g" = some (.loc R)) (ρ₁ "predicts" = some (.loc pA)) (ρ₁ "table" = some (.loc T)) (H1.le H₁) (∃ ra, TbAt H₁ lo T ra (dd (g.map (·.1))) (fun _ => []) ∧ ∀ h ∈ dd (g.map (·.1)), H1 (ra h) = none)) (fun P2 mP2 uP2 => ?_) ?_
  · refine ex_For0 (.inl rfl) (its_list ?_)
    repeat w_left
    refine heads_ok (by exact G.cast rfl rfl) hk0 (hg.le (le1.trans x1)) (by omega) fun H3 hd le3 ehd nhd lhd => ?_
    generalize dd (g.map (·.1)) = hs at *
    refine ⟨hd, _, rfl, ehd, ?_⟩
    refine loopI (fun k ρ' H' => And5 (ρ' "g" = some (.loc R)) (ρ' "predicts" = some (.loc pA)) (ρ' "table" = some (.loc T)) (H1.le H') (∃ ra, TbAt H' lo T ra (hs.take k) (fun _ => []) ∧ ∀ h ∈ hs.take k, H1 (ra h) = none)) fun I1 mI1 uI1 => ⟨mI1 _ _ _ ⟨rfl, rfl, rfl, x1.trans le3, fun _ => 0, ⟨le3 _ _ (upd_at _ _ _), by simp, by simp, by simp, by simp⟩, by simp⟩, ?_, ?_⟩
    · rintro k v ρ' H' hv hI1 ok
      obtain ⟨r1, r2, r3, le, ra, tb, new⟩ := uI1 _ _ _ hI1
      obtain ⟨h, hh, rfl⟩ := strs_get hv
      have okh : H' hd = some (.list (strsV hs)) := ok
      have hnot := notin_take hnd hh
      refine exs_cons (ex_SetItem ?_)
      refine ev_Dict0 fun la lla nla => ?_
      repeat w_left
      refine .inr ⟨T, h, _, rfl, rfl, upd_old tb.tab nla, lT, ?_, ?_⟩
      · have s1 := store_length ((hs.take k).map fun h => (h, V.loc (ra h))) h (.loc la)
        have s2 : ((hs.take k).map fun h => (h, V.loc (ra h))).length ≤ 60 := by rw [List.length_map, List.length_take]; omega
        omega
      · have gr := tb.grow hnot nla lla
        rw [← take_snoc hh] at gr
        have notT : ∀ {b : Addr} {o : List V}, H' b = some (.list o) → b ≠ T := fun {b o} e q => by rw [q, tb.tab] at e; cases e
        repeat w_left
        refine ⟨mI1 _ _ _ ⟨r1, r2, r3, le_turn (le.trans (le_upd nla)) nT, setF ra h la, gr, fun y hy => ?_⟩, ?_⟩
        · rw [take_snoc hh] at hy
          rcases List.mem_append.mp hy with hy | hy
          · have : setF ra h la y = ra y := by
              have : y ≠ h := fun e => hnot (e ▸ hy)
              simp [setF, this]
            rw [this]; exact new y hy
          · rw [List.mem_singleton] at hy; subst hy
            have : setF ra y la y = la := by simp [setF]
            rw [this]; exact le.none nla
        · show upd _ T _ hd = _
          exact upd_keep (notT okh) (upd_old okh nla)
    · rintro ρ' H' hI1 ok
      obtain ⟨r1, r2, r3, le, ra, tb, new⟩ := uI1 _ _ _ hI1
      have : (Src.list hd (strsV hs)).vals.length = hs.length := by show (strsV hs).length = _; simp
      rw [this, List.take_length] at tb new
      exact mP2 _ _ ⟨r1, r2, r3, le, ra, tb, new⟩
  rintro ρ₁ H2 ⟨r1, r2, r3, le2, ra, tb0, new⟩
  obtain ⟨ts, eR, rs⟩ := hg
  have hts : ts.length = g.length := rs.length
  have hnk : g.Nodup ∨ True := .inr trivial
  generalize hhs' : dd (g.map (·.1)) = hs at *
  repeat w_left
  refine midI (fun ρ₂ H₂ => And3 (ρ₂ "table" = some (.loc T)) (H1.le H₂) (∃ n : Int, ρ₂ "clashes" = some (.int n) ∧ (n = 0 ↔ (pairsOf g prs).Nodup))) (fun P1 mP1 uP1 => ?_) ?_
  · have eRk := le2 _ _ (le1 _ _ eR)
    refine ex_For0 (.inl rfl) (its_range1 (Gd.blt (K := K56) (by exact G.cast rfl rfl) rfl rfl (by decide)) rfl ?_)
    repeat w_left
    refine ⟨_, rfl, by omega, by simp [hts]; omega, ?_⟩
    rw [Int.toNat_natCast, List.length_map, hts]
    refine loopI (fun k ρ' H' => And5 (ρ' "g" = some (.loc R)) (ρ' "predicts" = some (.loc pA)) (ρ' "table" = some (.loc T)) (H1.le H') (∃ (rows : Str → List (Str × V)) (n : Int), And6 (TbAt H' lo T ra hs rows) ((∀ h ∈ hs, (rows h).length ≤ 30 * k)) (ρ' "clashes" = some (.int n)) (0 ≤ n) ((n = 0 ↔ (pairsOf (g.take k) (prs.take k)).Nodup)) (∀ h ∈ hs, ∀ x, (look (rows h) x).isSome = true ↔ (h, x) ∈ pairsOf (g.take k) (prs.take k)))) fun I2 mI2 uI2 => ⟨mI2 _ _ _ ⟨r1, r2, r3, le2, fun _ => [], 0, tb0, by simp, rfl, by decide, by simp [pairsOf], by simp [pairsOf, look]⟩, ?_, ?_⟩
    · rintro k v ρ' H' hv hI2 ok
      obtain ⟨q1, q2, q3, le, rows, n, tb, rl, q4, n0, nn, lk⟩ := uI2 _ _ _ hI2
      obtain ⟨hi, rfl⟩ := rng_get hv
      rw [Int.zero_add]
      have le01 := le1.trans le
      obtain ⟨t, b, htk, _, _, et, eb⟩ := rs.get (i := k) (h := g[k].1) (bd := g[k].2) (by rw [List.getElem?_eq_getElem hi])
      have hgk : g[k]? = some g[k] := List.getElem?_eq_getElem hi
      have hh : g[k].1 ∈ hs := (hhs _).mpr (List.mem_map_of_mem (f := (·.1)) (List.getElem_mem hi))
      obtain ⟨l, hl1, so, nd, ll, mem⟩ := pr k g[k].1 g[k].2 hgk
      obtain ⟨la, hla, ela⟩ := ls.get hl1
      have tk1 : g.take (k + 1) = g.take k ++ [g[k]] := take_snoc hgk
      have tk2 : prs.take (k + 1) = prs.take k ++ [l] := take_snoc hl1
      have tkl : (g.take k).length = (prs.take k).length := by rw [List.length_take, List.length_take, prl]
      have hpk := pairsOf_snoc tkl g[k] l
      generalize g[k].1 = h at *
      generalize pairsOf (g.take k) (prs.take k) = D at *
      repeat w_left
      refine sok_list (le01 _ _ eR) (by omega) (v := .loc t) (by rw [Int.toNat_natCast, List.getElem?_map, htk]; rfl) ?_
      refine ev_int (sok_tuple (le01 _ _ et) (by decide) rfl ?_)
      refine sok_dict tb.tab (v := .loc (ra h)) (by rw [look_map, if_pos hh]) ?_
      refine exs_cons (ex_For0 (.inl rfl) (its_list ?_))
      repeat w_left
      refine sok_list (le _ _ ep) (by omega) (v := .loc la) (by rw [Int.toNat_natCast, List.getElem?_map, hla]; rfl) ?_
      refine ⟨la, _, rfl, le _ _ ela, ?_⟩
      refine loopI (fun j ρ₃ H₃ => And7 (ρ₃ "g" = some (.loc R)) (ρ₃ "predicts" = some (.loc pA)) (ρ₃ "table" = some (.loc T)) (ρ₃ "row" = some (.loc (ra h))) (ρ₃ "k" = some (.int k)) (H1.le H₃) (∃ (rows : Str → List (Str × V)) (n : Int), And6 (TbAt H₃ lo T ra hs rows) ((∀ y ∈ hs, (rows y).length ≤ 30 * k + j)) (ρ₃ "clashes" = some (.int n)) (0 ≤ n) ((n = 0 ↔ (D ++ (l.take j).map fun x => (h, x)).Nodup)) (∀ y ∈ hs, ∀ x, (look (rows y) x).isSome = true ↔ (y, x) ∈ D ++ (l.take j).map fun x => (h, x)))) fun I3 mI3 uI3 => ⟨mI3 _ _ _ ⟨q1, q2, q3, rfl, rfl, le, rows, n, tb, rl, q4, n0, by simpa using nn, by simpa using lk⟩, ?_, ?_⟩
      · rintro j v ρ₃ H₃ hv hI3 ok
        obtain ⟨p1, p2, p3, p4, p5, le3, rows3, n3, tb3, rl3, p6, n03, nn3, lk3⟩ := uI3 _ _ _ hI3
        obtain ⟨x, hx, rfl⟩ := strs_get hv
        have okl : H₃ la = some (.list (strsV l)) := ok
        have e : (l.take (j + 1)).map (fun x => (h, x)) = (l.take j).map (fun x => (h, x)) ++ [(h, x)] := by rw [take_snoc hx]; simp
        have jl : j < l.length := (List.getElem?_eq_some_iff.mp hx).1
        generalize (l.take j).map (fun x => (h, x)) = E at *
        repeat w_left
        refine cok_in_dict (tb3.row h hh) ?_
        repeat w_left
        by_cases hin : (h, x) ∈ D ++ E
        · rw [if_pos ((lk3 h hh x).mpr hin)]
          repeat w_left
          refine ⟨mI3 _ _ _ ⟨p1, p2, p3, p4, p5, le3, rows3, n3 + 1, tb3, fun y hy => Nat.le_succ_of_le (rl3 y hy), rfl, by omega, ?_, ?_⟩, okl⟩
          · rw [e, ← List.append_assoc]
            constructor
            · intro h0; omega
            · intro hn
              exact absurd hin fun hin => (List.nodup_append.mp hn).2.2 _ hin _ (List.mem_singleton_self _) rfl
          · intro y hy z
            rw [e, ← List.append_assoc, List.mem_append, ← lk3 y hy z, List.mem_singleton]
            constructor
            · exact .inl
            · rintro (h' | h')
              · exact h'
              · cases h'; exact (lk3 h hh x).mpr hin
        · have hno : ¬ (look (rows3 h) x).isSome = true := fun h' => hin ((lk3 h hh x).mp h')
          rw [if_neg hno]
          refine exs_cons (ex_SetItem ?_)
          repeat w_left
          have sl := store_length (rows3 h) x (.int k)
          have rl3h := rl3 h hh
          refine .inr ⟨ra h, x, _, rfl, rfl, tb3.row h hh, tb3.own h hh, by omega, ?_⟩
          have notR : ∀ {b : Addr} {o : List V}, H₃ b = some (.list o) → b ≠ ra h := fun {b o} e q => by rw [q, tb3.row h hh] at e; cases e
          repeat w_left
          refine ⟨mI3 _ _ _ ⟨p1, p2, p3, p4, p5, le_turn le3 (new h hh), setF rows3 h (store (rows3 h) x (.int k)), n3, tb3.set hh, fun y hy => ?_, p6, n03, ?_, ?_⟩, ?_⟩
          · by_cases hy' : y = h
            · subst hy'
              have : setF rows3 y (store (rows3 y) x (.int k)) y = store (rows3 y) x (.int k) := by simp [setF]
              rw [this]; omega
            · have : setF rows3 h (store (rows3 h) x (.int k)) y = rows3 y := by simp [setF, hy']
              rw [this]; exact Nat.le_succ_of_le (rl3 y hy)
          · rw [nn3, e, ← List.append_assoc, List.nodup_append (l₁ := D ++ E)]
            constructor
            · intro hn
              refine ⟨hn, by simp, fun a ha b hb => ?_⟩
              rw [List.mem_singleton.mp hb]
              rintro rfl; exact hin ha
            · exact fun hn => hn.1
          · intro y hy z
            rw [e, ← List.append_assoc, List.mem_append, List.mem_singleton]
            by_cases hy' : y = h
            · subst hy'
              have : setF rows3 y (store (rows3 y) x (.int k)) y = store (rows3 y) x (.int k) := by simp [setF]
              rw [this, look_store]
              by_cases hz : z = x
              · subst hz; simp
              · rw [if_neg hz, lk3 y hy z]
                constructor
                · exact .inl
                · rintro (h' | h')
                  · exact h'
                  · cases h'; exact absurd rfl hz
            · have : setF rows3 h (store (rows3 h) x (.int k)) y = rows3 y := by simp [setF, hy']
              rw [this, lk3 y hy z]
              constructor
              · exact .inl
              · rintro (h' | h')
                · exact h'
                · cases h'; exact absurd rfl hy'
          · show upd _ (ra h) _ la = _
            exact upd_keep (notR okl) okl
      · rintro ρ₃ H₃ hI3 ok'
        obtain ⟨p1, p2, p3, p4, p5, le3, rows3, n3, tb3, rl3, p6, n03, nn3, lk3⟩ := uI3 _ _ _ hI3
        have : (Src.list la (strsV l)).vals.length = l.length := by show (strsV l).length = _; simp
        rw [this, List.take_length] at nn3 lk3
        rw [this] at rl3
        refine exs_nil ⟨mI2 _ _ _ ⟨p1, p2, p3, le3, rows3, n3, tb3, fun y hy => Nat.le_trans (rl3 y hy) (by omega), p6, n03, ?_, ?_⟩, ok⟩
        · rw [tk1, tk2, hpk]; exact nn3
        · rw [tk1, tk2, hpk]; exact lk3
    · rintro ρ' H' hI2 ok
      obtain ⟨q1, q2, q3, le, rows, n, tb, rl, q4, n0, nn, lk⟩ := uI2 _ _ _ hI2
      rw [rng_len, List.take_length, List.take_of_length_le (by omega)] at nn
      exact mP1 _ _ ⟨q3, le, n, q4, nn⟩
  rintro ρ₂ H₂ ⟨w1, le5, n, w2, nn⟩
  repeat w_left
  refine ⟨by simp, fun t lt nt => ?_⟩
  exact q _ t T n prs nul fs nul' fs' fl ((le1.trans le5).trans (le_upd nt)) (upd_at _ _ _) nok fok nok' fok' flok prok nn
theorem isll1_ok {P : Addr → Prop} (G : Gd K56 C) (hk : 7 < C.k) {R : Addr} {g : Gram} {U : List Str} (hg : GrAt H P R g) (hl : g.length ≤ 60) (hne : g ≠ []) (hbl : ∀ r ∈ g, r.2.length ≤ 100) (hU : U.length ≤ 30) (hUb : ∀ r ∈ g, ∀ s ∈ r.2, s ∈ U) (hUd : ("$" : Str) ∈ U)
    (q : ∀ H' c prs nul fs nul' fs' fl, H.le H' → NulOK g nul → FirstOK g (dd (g.map (·.1))) U nul fs → NulOK g nul' → FirstOK g (dd (g.map (·.1))) U nul' fs' → FollowOK g (dd (g.map (·.1))) U nul' fs' fl → PrOK g (dd (g.map (·.1))) nul fs fl prs → (c = true ↔ (pairsOf g prs).Nodup) → Q (.bool c) H') :
    FCall C ["g"] (bodyAt (K56 C.w.params) 102) (namesAt (K56 C.w.params) 102) [.loc R] H Q := by
  refine ⟨kp hk, rfl, fun env lo hlo h2 => ?_⟩
  change Exs _ (_ :: _) _ _ _
  repeat w_left
  refine ll1_ok (by exact G.cast rfl rfl) (kk hk (by decide)) hg hl hne hbl hU hUb hUd fun H1 t tb n prs nul fs nul' fs' fl le1 et nok fok nok' fok' flok prok nn => ?_
  repeat w_left
  refine sok_tuple et (by decide) rfl ?_
  repeat w_left
  exact q _ _ prs nul fs nul' fs' fl le1 nok fok nok' fok' flok prok (by rw [beq_iff_eq]; exact nn)
theorem dlc_ok {P : Addr → Prop} (G : Gd K56 C) (hk : 2 < C.k) {R : Addr} {g : Gram} {hd : Str} (hg : GrAt H P R g) (hl : g.length ≤ 30)
    (q : ∀ H' b l, H.le H' → H' b = some (.list (strsV l)) → H b = none → C.lo ≤ b → l.Nodup → (∀ x ∈ l, x ∈ g.map (·.1)) → (∀ s r, (hd, s :: r) ∈ g → s ∈ g.map (·.1) → s ∈ l) → Q (.loc b) H') :
    FCall C ["g", "head"] (bodyAt (K56 C.w.params) 133) (namesAt (K56 C.w.params) 133) [.loc R, .str hd] H Q := by
  refine ⟨kp hk, rfl, fun env lo hlo h2 => ?_⟩
  have hk0 : 0 < C.k - 1 := kk hk (by decide)
  have hk1 : 1 < C.k - 1 := kk hk (by decide)
  change Exs _ (_ :: _) _ _ _
  repeat w_left
  refine heads_ok (by exact G.cast rfl rfl) hk0 hg (by omega) fun H1 hA le1 eh nh lh => ?_
  repeat w_left
  refine nullable_ok (by exact G.cast rfl rfl) hk1 (hg.le le1) (by omega) fun H2 nA nul le2 en sn ndn memn nnA lnA => ?_
  have le12 := le1.trans le2
  have eh2 := le2 _ _ eh
  obtain ⟨ts, eR, rs⟩ := hg
  have hts : ts.length = g.length := rs.length
  have hhs : ∀ s, s ∈ dd (g.map (·.1)) ↔ s ∈ g.map (·.1) := fun s => mem_dd
  generalize dd (g.map (·.1)) = hs at *
  repeat w_left
  refine ⟨by decide, fun f0 lf0 nf0 => ?_⟩
  have x0 := le_upd (o := .list []) nf0
  refine exs_cons (ex_For0 (.inl rfl) (its_list ?_))
  repeat w_left
  refine ⟨R, _, rfl, x0 _ _ (le12 _ _ eR), ?_⟩
  refine loopI (fun i ρ' H' => And5 (ρ' "head" = some (.str hd)) (ρ' "heads" = some (.loc hA)) (ρ' "nullables" = some (.loc nA)) (H2.le H') (∃ fb l, And7 (ρ' "found" = some (.loc fb)) (H' fb = some (.list (strsV l))) (H fb = none) (lo ≤ fb) (l.Nodup) ((∀ x ∈ l, x ∈ g.map (·.1))) (∀ r' s r, r' < i → g[r']? = some (hd, s :: r) → s ∈ g.map (·.1) → s ∈ l))) fun I1 mI1 uI1 => ⟨mI1 _ _ _ ⟨rfl, rfl, rfl, x0, f0, [], rfl, upd_at _ _ _, le12.none nf0, lf0, by simp, by simp, fun r' _ _ h => absurd h (Nat.not_lt_zero _)⟩, ?_, ?_⟩
  · rintro i v ρ' H' hv hI1 ok
    obtain ⟨r1, r2, r3, le, fb, l, r4, ef, nf, lf, nd, sub, got⟩ := uI1 _ _ _ hI1
    obtain ⟨t, b, h, bd, rfl, hgi, _, _, et, eb⟩ := rs.get' hv
    have okR : H' R = some (.list (ts.map V.loc)) := ok
    have le02 := le12.trans le
    have nofirst : (∀ s r, bd = s :: r → h = hd → s ∈ g.map (·.1) → s ∈ l) → ∀ r' s r, r' < i + 1 → g[r']? = some (hd, s :: r) → s ∈ g.map (·.1) → s ∈ l := fun hx r' s r hr' hg' hs' => by
      rcases Nat.lt_succ_iff_lt_or_eq.mp hr' with hr' | rfl
      · exact got r' s r hr' hg' hs'
      · rw [hgi] at hg'; cases hg'; exact hx s r rfl rfl hs'
    repeat w_left
    refine sok_tuple (le02 _ _ et) (by decide) rfl ?_
    repeat w_left
    by_cases hhd : h = hd
    · subst hhd
      rw [if_pos (by simp)]
      refine exs_cons (ex_For (.inl rfl) (its_list ?_))
      repeat w_left
      refine sok_tuple (le02 _ _ et) (by decide) rfl ?_
      refine ⟨b, _, rfl, le02 _ _ eb, ?_⟩
      refine loopI (fun j ρ₂ H₂ => And5 (ρ₂ "head" = some (.str h)) (ρ₂ "heads" = some (.loc hA)) (ρ₂ "nullables" = some (.loc nA)) (H'.le H₂) (∃ fb l, And8 (ρ₂ "found" = some (.loc fb)) (H₂ fb = some (.list (strsV l))) (H fb = none) (lo ≤ fb) (l.Nodup) ((∀ x ∈ l, x ∈ g.map (·.1))) ((∀ r' s r, r' < i → g[r']? = some (h, s :: r) → s ∈ g.map (·.1) → s ∈ l)) ((0 < j → ∀ s r, bd = s :: r → s ∈ g.map (·.1) → s ∈ l)))) fun I2 mI2 uI2 => ⟨mI2 _ _ _ ⟨r1, r2, r3, HV.le_refl _, fb, l, r4, ef, nf, lf, nd, sub, got, fun h => absurd h (Nat.lt_irrefl _)⟩, ?_, ?_⟩
      · clear nofirst got sub nd lf nf ef r4
        rintro j v ρ₂ H₂ hv hI2 ok2
        obtain ⟨q1, q2, q3, le2', fb, l, q4, ef, nf, lf, nd, sub, got, fst⟩ := uI2 _ _ _ hI2
        obtain ⟨s, hs', rfl⟩ := strs_get hv
        have okb : H₂ b = some (.list (strsV bd)) := ok2
        have lel := nodup_sub_len nd sub
        rw [List.length_map] at lel
        have efst : ∀ s' r, bd = s' :: r → j = 0 → s' = s := fun s' r e ej => by rw [e, ej] at hs'; simpa using hs'
        refine midsI (fun ρ₃ H₃ => And6 (ρ₃ "head" = some (.str h)) (ρ₃ "heads" = some (.loc hA)) (ρ₃ "nullables" = some (.loc nA)) (ρ₃ "symbol" = some (.str s)) (H₂.le H₃) (∃ fb l, And8 (ρ₃ "found" = some (.loc fb)) (H₃ fb = some (.list (strsV l))) (H fb = none) (lo ≤ fb) (l.Nodup) ((∀ x ∈ l, x ∈ g.map (·.1))) ((∀ r' s r, r' < i → g[r']? = some (h, s :: r) → s ∈ g.map (·.1) → s ∈ l)) ((∀ s r, bd = s :: r → s ∈ g.map (·.1) → s ∈ l)))) (fun P2 mP2 uP2 => ?_) ?_
        · repeat w_left
          refine cok_in_strs ((le.trans le2') _ _ eh2) ?_
          repeat w_left
          by_cases hm : s ∈ hs
          · rw [decide_eq_true hm, if_pos rfl]
            repeat w_left
            refine ⟨by simp, fun c lc nc => ?_⟩
            repeat w_left
            refine merged_ok (by exact G.cast rfl rfl) hk0 (ys := [s]) (upd_old ef nc) (upd_at _ _ _) (by simp; omega) fun r H4 out le4 hp hso er lr nr => ?_
            have nd1 : out.Nodup := hp.symm.nodup (dd_nodup _)
            have mem1 : ∀ x, x ∈ out ↔ x ∈ l ∨ x = s := fun x => by rw [hp.mem_iff, mem_dd, List.mem_append, List.mem_singleton]
            repeat w_left
            refine mP2 _ _ ⟨q1, q2, q3, rfl, (le_upd nc).trans le4, r, out, rfl, er, le02.none (le2'.none ((le_upd nc).none nr)), lr, nd1, fun x hx => ((mem1 x).mp hx).elim (sub x) (fun e => e ▸ (hhs s).mp hm), fun r' s' r hr' hg' hs'' => (mem1 _).mpr (.inl (got r' s' r hr' hg' hs'')), fun s' r e hs'' => ?_⟩
            rcases Nat.eq_zero_or_pos j with hj | hj
            · exact (mem1 _).mpr (.inr (efst s' r e hj))
            · exact (mem1 _).mpr (.inl (fst hj s' r e hs''))
          · rw [decide_eq_false hm, if_neg (by decide)]
            repeat w_left
            refine mP2 _ _ ⟨q1, q2, q3, rfl, HV.le_refl _, fb, l, q4, ef, nf, lf, nd, sub, got, fun s' r e hs'' => ?_⟩
            rcases Nat.eq_zero_or_pos j with hj | hj
            · rw [efst s' r e hj] at hs''; exact absurd ((hhs s).mpr hs'') hm
            · exact fst hj s' r e hs''
        clear got fst sub nd lf nf ef q4 lel
        rintro ρ₃ H₃ ⟨w1, w2, w3, w4, le3, fb, l, w5, ef, nf, lf, nd, sub, got, fst⟩
        repeat w_left
        refine cok_notin_strs (le3 _ _ (le2' _ _ (le _ _ en))) ?_
        repeat w_left
        split
        · refine exs_cons (ex_Break ?_)
          refine exs_nil (exs_nil ⟨mI1 _ _ _ ⟨w1, w2, w3, (le.trans le2').trans le3, fb, l, w5, ef, nf, lf, nd, sub, fun r' s' r hr' hg' hs'' => ?_⟩, le3 _ _ (le2' _ _ okR)⟩)
          rcases Nat.lt_succ_iff_lt_or_eq.mp hr' with hr' | rfl
          · exact got r' s' r hr' hg' hs''
          · rw [hgi] at hg'; cases hg'; exact fst s' r rfl hs''
        · repeat w_left
          exact ⟨mI2 _ _ _ ⟨w1, w2, w3, le2'.trans le3, fb, l, w5, ef, nf, lf, nd, sub, got, fun _ => fst⟩, le3 _ _ okb⟩
      · clear nofirst got sub nd lf nf ef r4
        rintro ρ₂ H₂ hI2 ok2
        obtain ⟨q1, q2, q3, le2', fb, l, q4, ef, nf, lf, nd, sub, got, fst⟩ := uI2 _ _ _ hI2
        have : (Src.list b (strsV bd)).vals.length = bd.length := by show (strsV bd).length = _; simp
        rw [this] at fst
        refine exs_nil (exs_nil ⟨mI1 _ _ _ ⟨q1, q2, q3, le.trans le2', fb, l, q4, ef, nf, lf, nd, sub, fun r' s' r hr' hg' hs'' => ?_⟩, le2' _ _ okR⟩)
        rcases Nat.lt_succ_iff_lt_or_eq.mp hr' with hr' | rfl
        · exact got r' s' r hr' hg' hs''
        · rw [hgi] at hg'; cases hg'; exact fst (by simp) s' r rfl hs''
    · rw [if_neg (by simpa using hhd)]
      repeat w_left
      exact ⟨mI1 _ _ _ ⟨r1, r2, r3, le, fb, l, r4, ef, nf, lf, nd, sub, nofirst fun s r e eh => absurd eh hhd⟩, okR⟩
  · rintro ρ' H' hI1 ok
    obtain ⟨r1, r2, r3, le, fb, l, r4, ef, nf, lf, nd, sub, got⟩ := uI1 _ _ _ hI1
    have hlen : (Src.list R (ts.map V.loc)).vals.length = g.length := by show (ts.map V.loc).length = _; rw [List.length_map, hts]
    rw [hlen] at got
    repeat w_left
    refine q _ fb l (le12.trans le) ef nf (Nat.le_trans hlo lf) nd sub fun s r hm hs' => ?_
    obtain ⟨r', hr', e⟩ := List.getElem_of_mem hm
    exact got r' s r hr' (by rw [List.getElem?_eq_getElem hr', e]) hs'
theorem lch_ok {P : Addr → Prop} (G : Gd K56 C) (hk : 3 < C.k) {R : Addr} {g : Gram} {hd : Str} (hg : GrAt H P R g) (hl : g.length ≤ 30)
    (q : ∀ H' b l, H.le H' → H' b = some (.list (strsV l)) → (∀ s r, (hd, s :: r) ∈ g → s ∈ g.map (·.1) → s ∈ l) → Q (.loc b) H') :
    FCall C ["g", "head"] (bodyAt (K56 C.w.params) 140) (namesAt (K56 C.w.params) 140) [.loc R, .str hd] H Q := by
  refine ⟨kp hk, rfl, fun env lo hlo h2 => ?_⟩
  have hk2 : 2 < C.k - 1 := kk hk (by decide)
  change Exs _ (_ :: _) _ _ _
  repeat w_left
  refine dlc_ok (by exact G.cast rfl rfl) hk2 hg hl fun H1 fb l0 le1 ef0 nf lf nd0 sub0 got0 => ?_
  repeat w_left
  refine midI (fun ρ₁ H₁ => And3 (ρ₁ "found" = some (.loc fb)) (H.le H₁) (∃ l, And3 (H₁ fb = some (.list (strsV l))) (l.length ≤ 30) (∀ x ∈ l0, x ∈ l))) (fun P1 mP1 uP1 => ?_) ?_
  · refine whileI (fun n ρ' H' => And4 (ρ' "g" = some (.loc R)) (ρ' "found" = some (.loc fb)) (H.le H') (∃ (l : List Str) (p : Nat), And7 (ρ' "place" = some (.int p)) (p ≤ l.length) (n = g.length - p) (H' fb = some (.list (strsV l))) (l.Nodup) ((∀ x ∈ l, x ∈ g.map (·.1))) (∀ x ∈ l0, x ∈ l))) _ ⟨rfl, rfl, le1, l0, 0, rfl, Nat.zero_le _, rfl, ef0, nd0, sub0, fun _ h => h⟩ fun W1 mW1 uW1 hW1 => ex_While0 W1 ?_ _ hW1
    rintro n ρ' H' hN1
    obtain ⟨r1, r2, le, l, p, r3, pl, rfl, ef, nd, sub, sup⟩ := uW1 _ _ _ hN1
    have lel := nodup_sub_len nd sub
    rw [List.length_map] at lel
    repeat w_left
    by_cases hp : p < l.length
    · rw [if_pos (by simp; omega)]
      refine midsI (fun ρ₂ H₂ => And5 (ρ₂ "g" = some (.loc R)) (ρ₂ "found" = some (.loc fb)) (ρ₂ "place" = some (.int p)) (H.le H₂) (∃ l' : List Str, And5 (l.length ≤ l'.length) (H₂ fb = some (.list (strsV l'))) (l'.Nodup) ((∀ x ∈ l', x ∈ g.map (·.1))) (∀ x ∈ l0, x ∈ l'))) (fun P3 mP3 uP3 => ?_) ?_
      · refine ex_For0 (.inl rfl) (its_list ?_)
        repeat w_left
        refine sok_list ef (by omega) (v := .str l[p]) (by simp [hp]) ?_
        repeat w_left
        refine dlc_ok (by exact G.cast rfl rfl) hk2 (hg.le le) hl fun H2 cb lc le2 ec nc lcb ndc subc gotc => ?_
        have cbf : cb ≠ fb := (ne_of_new ef nc).symm
        refine ⟨cb, _, rfl, ec, ?_⟩
        refine loopI (fun i ρ₂ H₂ => And5 (ρ₂ "g" = some (.loc R)) (ρ₂ "found" = some (.loc fb)) (ρ₂ "place" = some (.int p)) (H.le H₂) (∃ l' : List Str, And5 (l.length ≤ l'.length) (H₂ fb = some (.list (strsV l'))) (l'.Nodup) ((∀ x ∈ l', x ∈ g.map (·.1))) (∀ x ∈ l0, x ∈ l'))) fun I3 mI3 uI3 => ⟨mI3 _ _ _ ⟨r1, r2, r3, le.trans le2, l, Nat.le_refl _, le2 _ _ ef, nd, sub, sup⟩, ?_, ?_⟩
        · rintro i v ρ₂ H₂ hv hI3 ok
          obtain ⟨q1, q2, q3, le3, l', ll, ef', nd', sub', sup'⟩ := uI3 _ _ _ hI3
          obtain ⟨c, hc, rfl⟩ := strs_get hv
          have okc : H₂ cb = some (.list (strsV lc)) := ok
          have lel' := nodup_sub_len nd' sub'
          rw [List.length_map] at lel'
          repeat w_left
          refine cok_notin_strs ef' ?_
          repeat w_left
          by_cases hm : c ∈ l'
          · rw [if_neg (by simpa using hm)]
            repeat w_left
            exact ⟨mI3 _ _ _ ⟨q1, q2, q3, le3, l', ll, ef', nd', sub', sup'⟩, okc⟩
          · rw [if_pos (by simpa using hm)]
            refine exs_cons (ex_append ?_)
            repeat w_left
            refine ⟨fb, rfl, ⟨_, ef'⟩, ?_⟩
            repeat w_left
            refine ⟨_, ef', lf, by simp; omega, ?_⟩
            repeat w_left
            refine ⟨mI3 _ _ _ ⟨q1, q2, q3, le_turn le3 nf, l' ++ [c], by simp; omega, by rw [upd_at]; simp, ?_, fun x hx => ?_, fun x hx => List.mem_append_left _ (sup' x hx)⟩, ?_⟩
            · rw [List.nodup_append]
              refine ⟨nd', by simp, fun a ha b hb => ?_⟩
              rw [List.mem_singleton.mp hb]; rintro rfl; exact hm ha
            · rcases List.mem_append.mp hx with hx | hx
              · exact sub' x hx
              · rw [List.mem_singleton.mp hx]; exact subc c (List.mem_of_getElem? hc)
            · show upd _ fb _ cb = _
              exact upd_keep cbf okc
        · rintro ρ₂ H₂ hI3 ok
          obtain ⟨q1, q2, q3, le3, l', ll, ef', nd', sub', sup'⟩ := uI3 _ _ _ hI3
          exact mP3 _ _ ⟨q1, q2, q3, le3, l', ll, ef', nd', sub', sup'⟩
      rintro ρ₂ H₂ ⟨q1, q2, q3, le3, l', ll, ef', nd', sub', sup'⟩
      repeat w_left
      exact ⟨g.length - (p + 1), by omega, mW1 _ _ _ ⟨q1, q2, le3, l', p + 1, rfl, by omega, rfl, ef', nd', sub', sup'⟩⟩
    · rw [if_neg (by simp; omega)]
      exact mP1 _ _ ⟨r2, le, l, ef, by omega, sup⟩
  rintro ρ₁ H2 ⟨w1, le2, l, ef, ll, sup⟩
  repeat w_left
  refine vc_sorted_strs ef (by omega) fun out hp hs r hr nr => ?_
  exact q _ r out (le2.trans (le_upd nr)) (upd_at _ _ _) fun s r hm hs' => hp.symm.mem_iff.mp (sup s (got0 s r hm hs'))
theorem ilr_ok {P : Addr → Prop} (G : Gd K56 C) (hk : 4 < C.k) {R : Addr} {g : Gram} {h : Str} {rest : List Str} (hg : GrAt H P R g) (hl : g.length ≤ 30) (hm : (h, h :: rest) ∈ g)
    (q : ∀ H', H.le H' → Q (.bool true) H') :
    FCall C ["g"] (bodyAt (K56 C.w.params) 147) (namesAt (K56 C.w.params) 147) [.loc R] H Q := by
  refine ⟨kp hk, rfl, fun env lo hlo h2 => ?_⟩
  have hk0 : 0 < C.k - 1 := kk hk (by decide)
  have hk3 : 3 < C.k - 1 := kk hk (by decide)
  have hh : h ∈ g.map (·.1) := List.mem_map_of_mem (f := (·.1)) hm
  have hh' : h ∈ dd (g.map (·.1)) := mem_dd.mpr hh
  change Exs _ (_ :: _) _ _ _
  repeat w_left
  refine ex_For (.inl rfl) (its_list ?_)
  repeat w_left
  refine heads_ok (by exact G.cast rfl rfl) hk0 hg (by omega) fun H1 hA le1 eh nh lh => ?_
  generalize dd (g.map (·.1)) = hs at *
  refine ⟨hA, _, rfl, eh, ?_⟩
  refine loopI (fun i ρ' H' => And3 (ρ' "g" = some (.loc R)) (H1.le H') (h ∉ hs.take i)) fun I4 mI4 uI4 => ⟨mI4 _ _ _ ⟨rfl, HV.le_refl _, by simp⟩, ?_, ?_⟩
  · rintro i v ρ' H' hv hI4 ok
    obtain ⟨r1, le, hn⟩ := uI4 _ _ _ hI4
    obtain ⟨x, hx, rfl⟩ := strs_get hv
    have okA : H' hA = some (.list (strsV hs)) := ok
    repeat w_left
    refine lch_ok (by exact G.cast rfl rfl) hk3 (hg.le (le1.trans le)) hl fun H2 b l le2 eb got => ?_
    refine cok_in_strs eb ?_
    repeat w_left
    by_cases hxl : x ∈ l
    · rw [decide_eq_true hxl, if_pos rfl]
      repeat w_left
      exact q _ ((le1.trans le).trans le2)
    · rw [decide_eq_false hxl, if_neg (by decide)]
      repeat w_left
      refine ⟨mI4 _ _ _ ⟨r1, le.trans le2, fun hh2 => ?_⟩, le2 _ _ okA⟩
      rw [take_snoc hx, List.mem_append, List.mem_singleton] at hh2
      rcases hh2 with hh2 | rfl
      · exact hn hh2
      · exact hxl (got h rest hm hh)
  · rintro ρ' H' hI4 ok
    obtain ⟨r1, le, hn⟩ := uI4 _ _ _ hI4
    have : (Src.list hA (strsV hs)).vals.length = hs.length := by show (strsV hs).length = _; simp
    rw [this, List.take_length] at hn
    exact absurd hh' hn
theorem gramok_ok {P : Addr → Prop} (G : Gd K56 C) (hk : 0 < C.k) {R : Addr} {g : Gram} (hg : GrAt H P R g) (hl : g.length ≤ 60) (hbl : ∀ r ∈ g, r.2.length ≤ 100) (q : ∀ H', H.le H' → Q (.bool (gok g)) H') :
    FCall C ["g"] (bodyAt (K56 C.w.params) 34) (namesAt (K56 C.w.params) 34) [.loc R] H Q := by
  refine ⟨kp hk, rfl, fun env lo hlo h2 => ?_⟩
  obtain ⟨ts, eR, rs⟩ := hg
  have hts : ts.length = g.length := rs.length
  change Exs _ (_ :: _) _ _ _
  repeat w_left
  by_cases hne : g = []
  · subst hne
    have : ts = [] := by simpa using hts
    subst this
    rw [if_pos (by rfl)]
    repeat w_left
    exact q _ (HV.le_refl _)
  · rw [if_neg (by
      have : 0 < g.length := List.length_pos_iff.mpr hne
      simp only [List.length_map, hts, beq_iff_eq]; omega)]
    refine exs_nil (exs_cons (ex_For (.inl rfl) (its_list ?_)))
    repeat w_left
    refine ⟨R, _, rfl, eR, ?_⟩
    refine loopI (fun i ρ' H' => H.le H' ∧ ∀ r ∈ g.take i, ∀ s ∈ r.1 :: r.2, symBad s = false) fun I1 mI1 uI1 => ⟨mI1 _ _ _ ⟨HV.le_refl _, by simp⟩, ?_, ?_⟩
    · rintro i v ρ' H' hv hI1 ok
      obtain ⟨le, good⟩ := uI1 _ _ _ hI1
      obtain ⟨t, b, h, bd, rfl, hgi, _, _, et, eb⟩ := rs.get' hv
      have okR : H' R = some (.list (ts.map V.loc)) := ok
      have hgm : (h, bd) ∈ g := List.mem_of_getElem? hgi
      have bdl : bd.length ≤ 100 := hbl _ hgm
      refine exs_cons (ex_For (.inl rfl) (its_list ?_))
      repeat w_left
      refine sok_tuple (le _ _ et) (by decide) rfl ?_
      repeat w_left
      refine ⟨by simp, fun c1 lc1 nc1 => ?_⟩
      have x1 := le_upd (o := .list [.str h]) nc1
      repeat w_left
      refine sok_tuple (x1 _ _ (le _ _ et)) (by decide) rfl ?_
      refine bok_add_list (vs := strsV [h]) (ws := strsV bd) (upd_at _ _ _) (x1 _ _ (le _ _ eb)) (by simp; omega) fun c2 lc2 nc2 => ?_
      have x2 := x1.trans (le_upd (o := .list (strsV [h] ++ strsV bd)) nc2)
      have e2 : upd (upd H' c1 (.list [.str h])) c2 (.list (strsV [h] ++ strsV bd)) c2 = some (.list (strsV (h :: bd))) := by rw [upd_at]; rfl
      generalize upd (upd H' c1 (.list [.str h])) c2 (.list (strsV [h] ++ strsV bd)) = H1 at x2 e2
      refine ⟨c2, _, rfl, e2, ?_⟩
      refine loopI (fun j ρ₂ H₂ => H1.le H₂ ∧ ∀ s ∈ (h :: bd).take j, symBad s = false) fun I2 mI2 uI2 => ⟨mI2 _ _ _ ⟨HV.le_refl _, by simp⟩, ?_, ?_⟩
      · rintro j v ρ₂ H₂ hv hI2 ok2
        obtain ⟨le2, good2⟩ := uI2 _ _ _ hI2
        obtain ⟨s, hs, rfl⟩ := strs_get hv
        have hsm : s ∈ h :: bd := List.mem_of_getElem? hs
        have okc : H₂ c2 = some (.list (strsV (h :: bd))) := ok2
        have bad : symBad s = true → Q (.bool false) H₂ := fun hb => by
          have := q H₂ ((le.trans x2).trans le2)
          rwa [gok_bad hgm hsm hb] at this
        repeat w_left
        by_cases c1 : (s == "") = true
        · rw [if_pos c1, if_pos rfl]
          repeat w_left
          exact bad (by unfold symBad; rw [c1]; rfl)
        rw [if_neg c1]
        repeat w_left
        by_cases c2 : (s == "$") = true
        · rw [if_pos c2, if_pos rfl]
          repeat w_left
          exact bad (by unfold symBad; rw [c2]; simp)
        rw [if_neg c2]
        repeat w_left
        by_cases c3 : (s == "->") = true
        · rw [if_pos c3, if_pos rfl]
          repeat w_left
          exact bad (by unfold symBad; rw [c3]; simp)
        rw [if_neg c3]
        repeat w_left
        rw [if_neg (by decide)]
        repeat w_left
        refine cok_in_str ?_
        repeat w_left
        by_cases c4 : (!(Builtin.Str.occurrences s " " 0 s.length 1).isEmpty) = true
        · rw [if_pos c4, if_pos rfl]
          repeat w_left
          exact bad (by unfold symBad inB; rw [c4]; simp)
        rw [if_neg c4]
        repeat w_left
        refine cok_in_str ?_
        repeat w_left
        by_cases c5 : (!(Builtin.Str.occurrences s "\n" 0 s.length 1).isEmpty) = true
        · rw [if_pos c5, if_pos rfl]
          repeat w_left
          exact bad (by unfold symBad inB; rw [c5]; simp)
        rw [if_neg c5]
        repeat w_left
        rw [if_neg (by decide)]
        repeat w_left
        refine ⟨mI2 _ _ _ ⟨le2, fun x hx => ?_⟩, okc⟩
        rw [take_snoc hs, List.mem_append, List.mem_singleton] at hx
        rcases hx with hx | rfl
        · exact good2 x hx
        · unfold symBad inB
          rw [Bool.not_eq_true] at c1 c2 c3 c4 c5
          rw [c1, c2, c3, c4, c5]; rfl
      · rintro ρ₂ H₂ hI2 ok2
        obtain ⟨le2, good2⟩ := uI2 _ _ _ hI2
        have : (Src.list c2 (strsV (h :: bd))).vals.length = (h :: bd).length := by show (strsV (h :: bd)).length = _; simp
        rw [this, List.take_length] at good2
        refine exs_nil ⟨mI1 _ _ _ ⟨(le.trans x2).trans le2, fun r hr => ?_⟩, (x2.trans le2) _ _ okR⟩
        rw [take_snoc hgi, List.mem_append, List.mem_singleton] at hr
        rcases hr with hr | rfl
        · exact good r hr
        · exact good2
    · rintro ρ' H' hI1 ok
      obtain ⟨le, good⟩ := uI1 _ _ _ hI1
      have hlen : (Src.list R (ts.map V.loc)).vals.length = g.length := by show (ts.map V.loc).length = _; rw [List.length_map, hts]
      rw [hlen, List.take_length] at good
      repeat w_left
      have := q H' le
      rwa [gok_good hne good] at this
theorem gft_ok (G : Gd K56 C) (hk : 1 < C.k) {lA : Addr} {lines : List Str} {g : Gram} (hL : H lA = some (.list (strsV lines))) (hll : lines.length = g.length) (hl : g.length ≤ 60) (hbl : ∀ r ∈ g, r.2.length ≤ 100) (hz : ∀ l ∈ lines, l.length ≤ 1000)
    (hsp : ∀ (i : Nat) (l h : Str) (bd : List Str), lines[i]? = some l → g[i]? = some (h, bd) → Txt.split l " " = h :: "->" :: bd) (hok : gok g = true) (q : ∀ H' R, H.le H' → GrAt H' (fun _ => True) R g → Q (.loc R) H') :
    FCall C ["lines"] (bodyAt (K56 C.w.params) 154) (namesAt (K56 C.w.params) 154) [.loc lA] H Q := by
  refine ⟨kp hk, rfl, fun env lo hlo h2 => ?_⟩
  have hk0 : 0 < C.k - 1 := kk hk (by decide)
  change Exs _ (_ :: _) _ _ _
  repeat w_left
  refine ⟨by decide, fun R lR nR => ?_⟩
  have x0 := le_upd (o := .list []) nR
  have hL0 := x0 _ _ hL
  refine midsI (fun ρ₁ H₁ => And3 (ρ₁ "g" = some (.loc R)) (H.le H₁) (GrAt H₁ (fun _ => True) R g)) (fun P1 mP1 uP1 => ?_) ?_
  · refine ex_For0 (.inl rfl) (its_range1 (Gd.blt (K := K56) (by exact G.cast rfl rfl) rfl rfl (by decide)) rfl ?_)
    repeat w_left
    refine ⟨_, rfl, by omega, by simp [hll]; omega, ?_⟩
    rw [Int.toNat_natCast, List.length_map, hll]
    refine loopI (fun i ρ' H' => And4 (ρ' "lines" = some (.loc lA)) (ρ' "g" = some (.loc R)) (H.le H') (∃ ts : List Addr, H' R = some (.list (ts.map V.loc)) ∧ RulesAt H' (· ≠ R) ts (g.take i))) fun I1 mI1 uI1 => ⟨mI1 _ _ _ ⟨rfl, rfl, x0, [], upd_at _ _ _, .nil⟩, ?_, ?_⟩
    · rintro i v ρ' H' hv hI1 ok
      obtain ⟨r1, r2, le, ts, eR, rs⟩ := uI1 _ _ _ hI1
      obtain ⟨hi, rfl⟩ := rng_get hv
      rw [Int.zero_add]
      have hts : ts.length = i := by rw [rs.length, List.length_take]; omega
      have hli : i < lines.length := by omega
      have hgi : g[i]? = some (g[i].1, g[i].2) := List.getElem?_eq_getElem hi
      have hlz := hz _ (List.getElem_mem hli)
      have sp := hsp i lines[i] g[i].1 g[i].2 (List.getElem?_eq_getElem hli) hgi
      have bdl := hbl _ (List.getElem_mem hi)
      generalize g[i].1 = h at *
      generalize g[i].2 = bd at *
      repeat w_left
      refine ev_MethS PySem.F.slot_str_split PySem.F.type_str_split ?_
      repeat w_left
      refine sok_list (le _ _ hL) (by omega) (v := .str lines[i]) (by rw [Int.toNat_natCast, List.getElem?_map, List.getElem?_eq_getElem hli]; rfl) ?_
      refine ⟨_, rfl, ?_⟩
      repeat w_left
      refine vc_split (c := 32) (by omega) fun wA lwA nwA => ?_
      have e0 : Txt.split lines[i] ⟨#[32]⟩ = h :: "->" :: bd := sp
      rw [e0]
      have ew := upd_at H' wA (.list (strsV (h :: "->" :: bd)))
      have x1 := le_upd (o := .list (strsV (h :: "->" :: bd))) nwA
      generalize upd H' wA (.list (strsV (h :: "->" :: bd))) = H1 at ew x1
      repeat w_left
      rw [if_neg (by simp; omega)]
      repeat w_left
      refine sok_list ew (by decide) (v := .str "->") rfl ?_
      repeat w_left
      rw [if_neg (by decide)]
      repeat w_left
      rw [if_neg (by decide)]
      refine exs_nil (exs_cons (ex_append ?_))
      repeat w_left
      refine ⟨R, rfl, ⟨_, x1 _ _ eR⟩, ?_⟩
      repeat w_left
      refine sok_list ew (by decide) (v := .str h) rfl ?_
      repeat w_left
      refine ⟨wA, _, 2, rfl, rfl, by decide, ew, fun sb lsb nsb => ?_⟩
      have sbR : sb ≠ R := (ne_of_new (x1 _ _ eR) nsb).symm
      have esb : upd H1 sb (.list ((strsV (h :: "->" :: bd)).drop (2 : Int).toNat)) sb = some (.list (strsV bd)) := by rw [upd_at]; rfl
      have x2 := x1.trans (le_upd (o := .list ((strsV (h :: "->" :: bd)).drop (2 : Int).toNat)) nsb)
      generalize upd H1 sb (.list ((strsV (h :: "->" :: bd)).drop (2 : Int).toNat)) = H2 at x2 esb
      repeat w_left
      refine ⟨by simp, fun t lt nt => ?_⟩
      have x3 := x2.trans (le_upd (o := .tuple [.str h, .loc sb]) nt)
      have tR : t ≠ R := (ne_of_new (x2 _ _ eR) nt).symm
      have tb : sb ≠ t := ne_of_new esb nt
      refine ⟨_, x3 _ _ eR, lR, by simp [hts]; omega, ?_⟩
      repeat w_left
      refine ⟨mI1 _ _ _ ⟨r1, r2, le_turn (le.trans x3) nR, ts ++ [t], by rw [upd_at]; simp, ?_⟩, ok⟩
      rw [take_snoc hgi]
      refine RulesAt.append (rs.imp (fun d o p e => upd_keep p (x3 _ _ e)) fun _ p => p) (.cons tR sbR ?_ ?_ .nil)
      · exact upd_keep tR (upd_at _ _ _)
      · exact upd_keep sbR (upd_keep tb esb)
    · rintro ρ' H' hI1 ok
      obtain ⟨r1, r2, le, ts, eR, rs⟩ := uI1 _ _ _ hI1
      rw [rng_len, List.take_length] at rs
      exact mP1 _ _ ⟨r2, le, ts, eR, rs.imp (fun _ _ _ e => e) fun _ _ => trivial⟩
  rintro ρ₁ H1 ⟨r2, le1, gg⟩
  repeat w_left
  refine gramok_ok (by exact G.cast rfl rfl) hk0 gg hl hbl fun H2 le2 => ?_
  rw [hok]
  repeat w_left
  rw [if_neg (by decide)]
  repeat w_left
  exact q _ R (le1.trans le2) (gg.le le2)
noncomputable def tw : Gram := [("E", ["E", "+", "n"]), ("E", ["n"])]
noncomputable def twL : List Str := ["E -> E + n", "E -> n"]
theorem tw_der : Der tw "E" ["n", "+", "n"] := by
  have hn : Der tw "n" ["n"] := .tok (by decide +kernel)
  have hp : Der tw "+" ["+"] := .tok (by decide +kernel)
  have he : Der tw "E" ["n"] := .rule (bd := ["n"]) (by decide +kernel) (.cons (u := ["n"]) hn .nil)
  exact .rule (bd := ["E", "+", "n"]) (by decide +kernel) (.cons (u := ["n"]) he (.cons (u := ["+"]) hp (.cons (u := ["n"]) hn .nil)))
theorem tw_clash {U nul nul' : List Str} {fs fs' fl : Fs} {prs : List (List Str)} (fok : FirstOK tw (dd (tw.map (·.1))) U nul fs) (pr : PrOK tw (dd (tw.map (·.1))) nul fs fl prs) : ¬ (pairsOf tw prs).Nodup := by
  have e : dd (tw.map (·.1)) = (["E"] : List Str) := by decide +kernel
  rw [e] at fok pr
  obtain ⟨len, pr⟩ := pr
  obtain ⟨l0, e0, _, _, _, m0⟩ := pr 0 "E" ["E", "+", "n"] rfl
  obtain ⟨l1, e1, _, _, _, m1⟩ := pr 1 "E" ["n"] rfl
  have hn : ("n" : Str) ∉ (["E"] : List Str) := by decide +kernel
  have hE : ("E" : Str) ∈ (["E"] : List Str) := by decide +kernel
  have f1 : ("n" : Str) ∈ fosSet fs ["E"] nul ["n"] := by rw [fosSet, if_neg hn]; simp
  have f2 : ("n" : Str) ∈ fs "E" := fok.cl "E" ["n"] (by decide +kernel) _ f1
  have f0 : ("n" : Str) ∈ fosSet fs ["E"] nul ["E", "+", "n"] := by
    rw [fosSet, if_pos hE]
    split
    · exact List.mem_append_left _ f2
    · exact f2
  have h0 : ("n" : Str) ∈ l0 := (m0 _).mpr (.inl f0)
  have h1 : ("n" : Str) ∈ l1 := (m1 _).mpr (.inl f1)
  have : prs = [l0, l1] := by
    match prs, len, e0, e1 with
    | [a, b], _, e0, e1 => simp at e0 e1; rw [e0, e1]
  subst this
  show ¬ (l0.map (fun x => (("E" : Str), x)) ++ (l1.map (fun x => (("E" : Str), x)) ++ [])).Nodup
  intro hnd
  have := (List.nodup_append.mp hnd).2.2 ("E", "n") (List.mem_map_of_mem (f := fun x => (("E" : Str), x)) h0) ("E", "n") (List.mem_append_left _ (List.mem_map_of_mem (f := fun x => (("E" : Str), x)) h1))
  exact this rfl
theorem twin_ok (G : Gd K56 C) (hk : 8 < C.k) (q : ∀ H' t, H.le H' → H' t = some (.tuple [.bool true, .bool true, .bool false]) → Q (.loc t) H') :
    FCall C [] (bodyAt (K56 C.w.params) 161) (namesAt (K56 C.w.params) 161) [] H Q := by
  refine ⟨kp hk, rfl, fun env lo hlo h2 => ?_⟩
  change Exs _ (_ :: _) _ _ _
  repeat w_left
  refine ⟨by simp, fun lA llA nlA => ?_⟩
  have x0 := le_upd (o := .list [.str "E -> E + n", .str "E -> n"]) nlA
  repeat w_left
  refine gft_ok (lines := twL) (g := tw) (by exact G.cast rfl rfl) (kk hk (by decide)) (upd_at _ _ _) rfl (by decide) (by decide) (by decide +kernel) ?_ (by decide +kernel) fun H1 R le1 gg => ?_
  · intro i l h bd hl hg
    match i, hl, hg with
    | 0, hl, hg => cases hl; cases hg; decide +kernel
    | 1, hl, hg => cases hl; cases hg; decide +kernel
    | n + 2, hl, hg => cases hl
  repeat w_left
  refine ⟨by simp, fun tA ltA ntA => ?_⟩
  have x1 := le_upd (o := .list [.str "n", .str "+", .str "n"]) ntA
  repeat w_left
  refine derivesg_ok (toks := ["n", "+", "n"]) (by exact G.cast rfl rfl) (kk hk (by decide)) (gg.le x1) (by decide) (by decide) (upd_at _ _ _) (by decide) fun H2 b le2 hb => ?_
  have : b = true := hb.mpr tw_der
  subst this
  repeat w_left
  refine ilr_ok (h := "E") (rest := ["+", "n"]) (by exact G.cast rfl rfl) (kk hk (by decide)) (gg.le (x1.trans le2)) (by decide) (by decide +kernel) fun H3 le3 => ?_
  repeat w_left
  refine isll1_ok (U := ["E", "+", "n", "$"]) (by exact G.cast rfl rfl) (kk hk (by decide)) (gg.le ((x1.trans le2).trans le3)) (by decide) (by decide) (by decide) (by decide) (by decide +kernel) (by decide +kernel) fun H4 c prs nul fs nul' fs' fl le4 nok fok nok' fok' flok prok hc => ?_
  have : c = false := by
    cases c with
    | false => rfl
    | true => exact absurd (hc.mp rfl) (tw_clash (nul' := nul') (fs' := fs') fok prok)
  subst this
  repeat w_left
  refine ⟨by simp, fun t lt nt => ?_⟩
  exact q _ t (((((x0.trans le1).trans x1).trans le2).trans (le3.trans le4)).trans (le_upd nt)) (upd_at _ _ _)
theorem law_ok (G : Gd K56 C) (hk : 10 < C.k) {a : Addr} {ns : List Int} (ha : H a = some (.list (intsV ns))) :
    FCall C ["script"] (bodyAt (K56 C.w.params) 168) (namesAt (K56 C.w.params) 168) [.loc a] H (fun v _ => v = .bool true) := by
  refine ⟨kp hk, rfl, fun env lo hlo h2 => ?_⟩
  change Exs _ (_ :: _) _ _ _
  repeat w_left
  refine twin_ok (by exact G.cast rfl rfl) (kk hk (by decide)) fun H1 t le1 et => ?_
  repeat w_left
  refine vc_type_tuple et ?_
  repeat w_left
  refine cok_isnot_typ ?_
  repeat w_left
  rw [if_neg (by decide)]
  repeat w_left
  refine vc_len_tuple et ?_
  repeat w_left
  rw [if_neg (by decide)]
  repeat w_left
  refine sok_tuple et (by decide) rfl ?_
  repeat w_left
  refine sok_tuple et (by decide) rfl ?_
  repeat w_left
  refine sok_tuple et (by decide) rfl ?_
  repeat w_left
  refine cok_isnot_bool ?_
  repeat w_left
  rw [if_neg (by decide)]
  repeat w_left
  refine cok_isnot_bool ?_
  repeat w_left
  rw [if_neg (by decide)]
  repeat w_left
  refine cok_isnot_bool ?_
  repeat w_left
  rw [if_neg (by decide)]
  repeat w_left
  rfl
end Mine
end
section
set_option maxRecDepth 100000
set_option Elab.async false
set_option linter.unusedVariables false
open PySem PySem.W PyProof.Rows
set_option maxHeartbeats 8000000
theorem PySem.Challenge.cw_k18_0056_holds : PySem.Challenge.rw_k18_0056.Holds := by
  apply Mine.hd
  w_strict (
  k_fill;
  intro w s₀ s₁ mg mb G Y fa o pm cd doc dV kV ho hd hcd hD hmg hg args vals as hpre hlay hrd hwl hlo;
  have KX := kIn_of Y;
  refine Ground.open G ?_;
  intro T B D TE TW;
  wrow_args hpre hlay hrd hwl hlo;
  refine Mine.law_top (K := Mine.hd.heap_39) (la := 168) (ns := ?ns) (fd := Mine.fdAt (Mine.hd.heap_39 w.params) 168) T ?i KX ?W hmg ?n ?l ?F [] ?gl ?nd ?h1 ?ne ?r ?p hg ?h)
  case W => assumption
  case i => decide +kernel
  case n => rfl
  case l => omega
  case F => exact fun C hC G => by have := Mine.fn_law G; rw [hC] at this; exact this
  case gl => intro q hq; cases hq
  case nd => exact .nil
  case h1 => intro q hq; cases hq
  case ne => intro q hq; cases hq
  case r => exact fun _ => rfl
  case p => first | rfl | wrow_post
  case h =>
    intro C G hC hk hB H a ha hgl
    have := Mine.law_ok G (by omega) ha
    rw [hC] at this
    exact this
end
